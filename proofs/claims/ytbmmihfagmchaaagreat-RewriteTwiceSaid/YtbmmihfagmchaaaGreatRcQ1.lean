/- cW of this claim: L1, L2, L3, L4, L5, L6, L7, L8, L9, L10. -/
import Derived.Test.YtbmmihfagmchaaaGreatRcR16
import Derived.KernelRfl
set_option linter.all false
namespace Go.Proofs.YtbmmihfagmchaaaGreat
open Go

variable{n:aa}
def bH{n:Int}(h: -9223372036854775808<=n)(J:n<=9223372036854775807):IntKind.i64.wrap n=n:=by rw [IntKind.wrap_i64];omega
variable{α:Type}{xs:List α}
def cL{ys:List α}(h:xs.length+ys.length<=68719476736):jT xs ys=some (xs++ys):=bE h
variable{l:aw}
def uS{l m:Nat}(h:l<=m)(J:m<=xs.length):dk xs (l:Int) (m:Int)=some ((xs.take m).drop l):=by
 unfold dk
 rw [bE (by omega)]
 simp
variable{i j:Nat}
def ia{i j:Int}(l m:Nat)(hi:i=(l:Int))(hj:j=(m:Int))(h:l<=m)(J:m<=xs.length):dk xs i j=some ((xs.take m).drop l):=by
 subst hi hj;exact uS h J
def kg{i:Int}(k:Nat)(hi:i=(k:Int)):cU xs i=xs[k]? :=by subst hi;exact cI _ _
def vZ(v:bN):Bool:=(nC v).getD false
def Ao(v:bN):nC v=some (vZ v):=by
 unfold vZ nC
 repeat' split
 all_goals rfl
variable{s:Nat}
def zJ(v:bN):rk v=some (if vZ v then 0 else 120):=by
 obtain⟨k,n,u,s⟩:=v
 unfold vZ nC rk uh
 simp only [jg,nT,nS,nR]
 by_cases h0:k=0
 ·subst h0;simp
  repeat' split
  all_goals simp_all
 by_cases Y:k=1
 ·subst Y
  by_cases n0:n=0
  ·subst n0;simp
   repeat' split
   all_goals simp_all
  by_cases n1:n=1
  ·subst n1;simp
   repeat' split
   all_goals simp_all
  simp [n0,n1]
 by_cases J:k=2
 ·subst J;simp
  repeat' split
  all_goals simp_all
 by_cases Z:k=3
 ·subst Z;simp
  repeat' split
  all_goals simp_all
 by_cases h4:k=4
 ·subst h4;simp
  repeat' split
  all_goals simp_all
 simp [h0,Y,J,Z,h4]
def wg(v:bN):Bool:=vZ v&&(v.Kind !=4)
def zI(v:bN):rj v=some (wg v):=by
 unfold rj wg
 rw [zJ]
 cases vZ v<;>simp
def nZ(v:bN):ux v=some (wg v):=by
 unfold ux wg
 rw [Ao]
 rfl
def D9{v:bN}(h:wg v=true):0<=v.Kind/\v.Kind<=3:=by
 obtain⟨k,n,u,s⟩:=v
 unfold wg vZ nC at h
 simp only [jX,ss,ne_eq]at h
 obtain⟨Y,J⟩:=h
 by_cases h0:k=0
 ·simp [h0]
 by_cases k1:k=1
 ·simp [k1]
 by_cases k2:k=2
 ·simp [k2]
 by_cases k3:k=3
 ·simp [k3]
 simp [h0,k1,k2,k3,J]at Y
def pk(tag:Int):Option Nat:=if tag=1\/tag=2 then some 0 else if 4<=tag/\tag<=7 then some 1 else if 12<=tag/\tag<=23 then some 2 else none
def CT(tag:Int):Int:=match pk tag with
 |some k=>(k:Int)
 |none=> -1
variable{tag:Int}
def vD(tag:Int):nt tag=some (CT tag):=by
 unfold nt CT pk
 by_cases Y:tag=1\/tag=2
 ·rw [bE Y,bE (by simpa using Y)];rfl
 rw [bn Y,bn (by simpa using Y)]
 by_cases J:4<=tag/\tag<=7
 ·rw [bE J,bE (by simpa using J)];rfl
 rw [bn J,bn (by simpa using J)]
 by_cases Z:12<=tag/\tag<=23
 ·rw [bE Z,bE (by simpa using Z)];rfl
 rw [bn Z,bn (by simpa using Z)]
def nY(tag:Int):uw tag=some (CT tag):=by
 unfold uw yF CT pk
 by_cases Y:tag=1\/tag=2
 ·rw [bE Y];rcases Y with rfl|rfl<;>rfl
 rw [bn Y]
 by_cases J:4<=tag/\tag<=7
 ·rw [bE J]
  have:tag=4\/tag=5\/tag=6\/tag=7:=by omega
  rcases this with rfl|rfl|rfl|rfl<;>rfl
 rw [bn J]
 by_cases Z:12<=tag/\tag<=23
 ·rw [bE Z,bn (by simp;omega),bn (by simp;omega),bn (by simp;omega),bn (by simp;omega)];rfl
 rw [bn Z]
 by_cases h4:tag=3\/(8<=tag/\tag<=11)
 ·rw [bE (by simpa using h4)]
 rw [bn (by simpa using h4),bE (by simp;omega)]
 rfl
def Dm(n:aj):Bool:=(jF n).getD false
def iP(n:aj):jF n=some (Dm n):=by
 unfold Dm jF
 rw [nZ]
 split
 ·rfl
 ·split<;>rfl
def AN(n:aj):rJ n=some (Dm n):=by
 rw [<-iP]
 unfold rJ jF
 rw [nZ,zI]
inductive Tr where
 |lf (n:aj)
 |un (n:aj) (a:Tr)
 |bi (n:aj) (a b:Tr)
 deriving Inhabited
def Tr.size:Tr->Nat
 | .lf _=>1
 | .un _ a=>a.size+1
 | .bi _ a b=>a.size+b.size+1
def dR(n:aj)(l r:Int):aj:={n with L:=l,R:=r}
def Tr.flat:Tr->Nat->List aj
 | .lf n,_=>[dR n (-1) (-1)]
 | .un n a,s=>a.flat s++[dR n ((s+a.size:Nat)-1) (-1)]
 | .bi n a b,s=>a.flat s++b.flat (s+a.size)++[dR n ((s+a.size:Nat)-1) ((s+a.size+b.size:Nat)-1)]
def Ou(k:Nat)(n:aj):Prop:=pk n.Tag=some k/\Dm n=true/\n.L= -1/\n.R= -1
def Tr.wf:Tr->Prop
 | .lf n=>Ou 0 n
 | .un n a=>Ou 1 n/\a.wf
 | .bi n a b=>Ou 2 n/\a.wf/\b.wf
def Tr.size_pos(t:Tr):0<t.size:=by cases t<;>simp [Tr.size]
def Tr.flat_len(t:Tr): ∀s,(t.flat s).length=t.size:=by
 induction t with
 |lf n=>intro s;rfl
 |un n a ih=>intro s;simp [Tr.flat,Tr.size,ih]
 |bi n a b iha ihb=>intro s;simp [Tr.flat,Tr.size,iha,ihb];omega
def bU:List Tr->Nat
 |[]=>0
 |t::st=>bU st+t.size
def sP:List Tr->List aj
 |[]=>[]
 |t::st=>sP st++t.flat (bU st)
def Cd: ∀st:List Tr,(sP st).length=bU st
 |[]=>rfl
 |t::st=>by simp [sP,bU,Cd st,t.flat_len]
def BV: ∀st:List Tr,st.length<=bU st
 |[]=>dr _
 |t::st=>by have:=BV st;have:=t.size_pos;simp [bU];omega
def push(st:List Tr)(n:aj):Option (List Tr):=
 match pk n.Tag,st with
 |some 0,st=>if Dm n&&n.L== -1&&n.R== -1 then some (.lf (dR n (-1) (-1))::st)else none
 |some 1,a::st=>if Dm n&&n.L==((bU st+a.size:Nat):Int)-1&&n.R== -1 then some (.un (dR n (-1) (-1)) a::st)else none
 |some 2,b::a::st=>if Dm n&&n.L==((bU st+a.size:Nat):Int)-1&&n.R==((bU st+a.size+b.size:Nat):Int)-1 then some (.bi (dR n (-1) (-1)) a b::st)else none
 |_,_=>none
def mX:List aj->List Tr->Option (List Tr)
 |[],st=>some st
 |n::ns,st=>(push st n).bind (mX ns)
def RF(st:List Tr):Prop:= ∀t∈st,t.wf
def uW{n:aj}{l r:Int}(h:n.L=l)(J:n.R=r):dR (dR n (-1) (-1)) l r=n:=by subst h J;rfl
def Ij{st st' :List Tr}{n:aj}(h:push st n=some st')(hw:RF st):sP st' =sP st++[n]/\bU st' =bU st+1/\RF st' :=by
 unfold push at h
 split at h
 ·rename_i k st0 hk
  split at h
  ·rename_i hc
   simp only [jX,tE]at hc
   obtain⟨⟨Y,J⟩,Z⟩:=hc
   cases h
   refine⟨?_,rfl,fun t D=>?_⟩
   ·simp only [sP,Tr.flat]
    rw [uW J Z]
   ·rcases gB.1 D with rfl|D
    ·exact⟨hk,Y,rfl,rfl⟩
    ·exact hw t D
  ·cases h
 ·rename_i k a st0 hk
  split at h
  ·rename_i hc
   simp only [jX,tE]at hc
   obtain⟨⟨Y,J⟩,Z⟩:=hc
   cases h
   refine⟨?_,by simp [bU,Tr.size];omega,fun t D=>?_⟩
   ·simp only [sP,Tr.flat]
    rw [uW J Z,jC]
   ·rcases gB.1 D with rfl|D
    ·exact⟨⟨hk,Y,rfl,rfl⟩,hw a (mp ..)⟩
    ·exact hw t (nu _ D)
  ·cases h
 ·rename_i k b a st0 hk
  split at h
  ·rename_i hc
   simp only [jX,tE]at hc
   obtain⟨⟨Y,J⟩,Z⟩:=hc
   cases h
   refine⟨?_,by simp [bU,Tr.size];omega,fun t D=>?_⟩
   ·simp only [sP,Tr.flat,bU]
    rw [uW J Z]
    simp only [jC]
   ·rcases gB.1 D with rfl|D
    ·exact⟨⟨hk,Y,rfl,rfl⟩,hw a (nu _ (mp ..)),hw b (mp ..)⟩
    ·exact hw t (nu _ (nu _ D))
  ·cases h
 ·cases h
variable{ns:List aj}
def qT: ∀{ns:List aj} {st st' :List Tr},mX ns st=some st' ->RF st->sP st' =sP st++ns/\RF st'
 |[],st,st',h,hw=>by cases h;simp [hw]
 |n::ns,st,st',h,hw=>by
  unfold mX at h
  cases hp:push st n with
  |none=>rw [hp]at h;cases h
  |some st1=>
   rw [hp]at h
   obtain⟨Y,_,Z⟩:=Ij hp hw
   obtain⟨h4,h5⟩:=qT (ns:=ns) h Z
   exact⟨by rw [h4,Y];simp,h5⟩
def ql: ∀(ns ms:List aj) (st:List Tr),mX (ns++ms) st=(mX ns st).bind (mX ms)
 |[],ms,st=>rfl
 |n::ns,ms,st=>by
  simp only [xA,mX]
  cases push st n with
  |none=>rfl
  |some st1=>exact ql ns ms st1
def F4(t:Tr): ∀(st:List Tr),t.wf->mX (t.flat (bU st)) st=some (t::st):=by
 induction t with
 |lf n=>
  intro st ⟨Y,J,Z,h4⟩
  have hn' :dR n (-1) (-1)=n:=by cases n;simp only at Z h4;subst Z h4;rfl
  simp only [Tr.flat,mX,push,hn']
  rw [Y]
  simp [J,Z,h4,mX,hn']
 |un n a ih=>
  intro st ⟨⟨Y,J,Z,h4⟩,ha⟩
  have hn' :dR n (-1) (-1)=n:=by cases n;simp only at Z h4;subst Z h4;rfl
  simp only [Tr.flat]
  rw [ql,ih st ha]
  simp only [bo,mX,push]
  have e1:(dR n (((bU st+a.size:Nat):Int)-1) (-1)).Tag=n.Tag:=rfl
  rw [e1,Y]
  have e2:Dm (dR n (((bU st+a.size:Nat):Int)-1) (-1))=true:=J
  rw [e2]
  simp only [dR,beq_self_eq_true,Bool.and_self,gu,bo,mX]
  simp only [dR]at hn'
  rw [hn']
 |bi n a b iha ihb=>
  intro st ⟨⟨Y,J,Z,h4⟩,ha,V⟩
  have hn' :dR n (-1) (-1)=n:=by cases n;simp only at Z h4;subst Z h4;rfl
  simp only [Tr.flat]
  rw [ql,ql,iha st ha]
  simp only [bo]
  have e0:bU st+a.size=bU (a::st):=rfl
  rw [e0,ihb (a::st) V]
  simp only [bo,mX,push]
  have e1:(dR n (((bU (a::st):Nat):Int)-1) (((bU (a::st)+b.size:Nat):Int)-1)).Tag=n.Tag:=rfl
  rw [e1,Y]
  have e2:Dm (dR n (((bU (a::st):Nat):Int)-1) (((bU (a::st)+b.size:Nat):Int)-1))=true:=J
  rw [e2]
  simp only [dR,bU,beq_self_eq_true,Bool.and_self,gu,bo,mX]
  simp only [dR]at hn'
  rw [hn']
def iN(ns:List aj):Option Tr:=match mX ns []with
 |some [t]=>if ns.length<=1000 then some t else none
 |_=>none
def i8{t:Tr}(h:iN ns=some t):t.wf/\ns=t.flat 0/\t.size<=1000:=by
 unfold iN at h
 split at h
 ·rename_i t0 hp
  split at h
  ·rename_i hl
   cases h
   obtain⟨Y,J⟩:=qT hp (fun t D=>by cases D)
   simp only [sP,bU,je]at Y
   exact⟨J t (mp ..),Y.symm,by rw [<-t.flat_len 0,Y];exact hl⟩
  ·cases h
 ·cases h
def ny{t:Tr}(h:t.wf)(hs:t.size<=1000):iN (t.flat 0)=some t:=by
 unfold iN
 have h0:=F4 t [] h
 simp only [bU]at h0
 rw [h0]
 simp only [t.flat_len,hs,gu]
def fl:Tr->Nat->List Int
 | .lf _,s=>[(s:Int)]
 | .un _ a,s=>fl a s++[(s:Int)]
 | .bi _ a b,s=>fl a s++fl b (s+a.size)++[(s:Int)]
def ER:List Tr->List Int
 |[]=>[]
 |t::st=>ER st++fl t (bU st)
def j7:List Tr->List Int
 |[]=>[]
 |t::st=>j7 st++[((bU st+t.size:Nat):Int)-1]
def pX(t:Tr): ∀s,(fl t s).length=t.size:=by
 induction t with
 |lf n=>intro s;rfl
 |un n a ih=>intro s;simp [fl,Tr.size,ih]
 |bi n a b iha ihb=>intro s;simp [fl,Tr.size,iha,ihb];omega
def rF: ∀st:List Tr,(ER st).length=bU st
 |[]=>rfl
 |t::st=>by simp [ER,bU,rF st,pX]
def cY: ∀st:List Tr,(j7 st).length=st.length
 |[]=>rfl
 |t::st=>by simp [j7,cY st]
def Hu(t:Tr)(s:Nat):(fl t s)[t.size-1]? =some (s:Int):=by
 cases t with
 |lf n=>rfl
 |un n a=>simp only [fl,Tr.size];rw [qC (by rw [pX];omega),pX];simp
 |bi n a b=>simp only [fl,Tr.size];rw [qC (by simp [pX]),jO,pX,pX];simp
def AA(t:Tr)(st:List Tr)(rest:List Int):(ER st++fl t (bU st)++rest)[bU st+t.size-1]? =some (bU st:Int):=by
 have:=t.size_pos
 rw [vi (by rw [jO,rF,pX];omega),qC (by rw [rF];omega),rF,show bU st+t.size-1-bU st=t.size-1 from by omega]
 exact Hu t _
variable{e:Nat}
def Ce: ∀(ns:List aj) (st:List Tr),bU st+ns.length<=100000->jm ns (bU st) (ER st) (j7 st)=some (match mX ns st with
   |some st' =>(ER st',decide (st'.length=1)&&decide (bU st' <=1000))
   |none=>([],false)):=by
 intro ns
 induction ns with
 |nil=>
  intro st _
  simp only [jm,mX,cY,rF]
  congr 2
  congr 1
  ·rw [zn];simp;omega
  ·rw [zn];simp;omega
 |cons n ns ih=>
  intro st hs
  simp only [jv]at hs
  have hll:=BV st
  unfold jm
  rw [vD]
  simp only [bo,cY,AN]
  unfold mX
  unfold push
  -- the parts
  cases hk:pk n.Tag with
  |none=>
   have e:CT n.Tag= -1:=by unfold CT;rw [hk]
   simp [e]
  |some k=>
   have e:CT n.Tag=(k:Int):=by unfold CT;rw [hk]
   have hk3:k=0\/k=1\/k=2:=by
    unfold pk at hk
    repeat' split at hk
    all_goals simp at hk
    all_goals omega
   rw [e]
   rcases hk3 with rfl|rfl|rfl
   ·-- none
    simp only []
    have c1:(decide (((0:Nat):Int)<0)||decide ((st.length:Int)<((0:Nat):Int)))=false:=by simp
    simp only [c1,zx,gu,bo]
    cases hc:Dm n with
    |false=>simp
    |true=>
     simp only [mq,jx,gE,yW]
     rw [ia st.length st.length (by rw [bH (by omega) (by omega)];omega) rfl (dr _) (by rw [cY];exact dr _)]
     have hd:(List.take st.length (j7 st)).drop st.length=[]:=Bq (by simp;omega)
     simp only [hd,bo,ko]
     by_cases hL:n.L= -1/\n.R= -1
     ·have V:(n.L== -1&&n.R== -1)=true:=by simp [hL]
      rw [bE V,bn (by simp [hL.1,hL.2])]
      rw [cL (by simp only [jv,pT,rF];omega)]
      simp only [bo]
      rw [ia (i:=0) 0 st.length rfl (by rw [cY,bH (by omega) (by omega)];omega) (mJ _) (by rw [cY];exact dr _)]
      rw [nM (by rw [cY];exact dr _),t6]
      simp only [bo]
      rw [cL (by simp only [jv,pT,cY];omega)]
      simp only [bo]
      have J:=ih (.lf (dR n (-1) (-1))::st) (by simp [bU,Tr.size];omega)
      simp only [bU,Tr.size,ER,fl,j7]at J
      rw [show(((bU st+1:Nat):Int)-1)=(bU st:Int)from by omega]at J
      exact J
     ·have V:(n.L== -1&&n.R== -1)=false:=by
       rw [Cy];intro h;apply hL;simpa using h
      rw [V]
      rw [bE (by
       simp only [yu,G4]
       intro h
       have Y:(-1:Int)=n.L:=by injection h
       have J:(-1:Int)=n.R:=by injection h with _ h;injection h
       exact hL ⟨Y.symm,J.symm⟩)]
      simp
   ·-- one
    cases st with
    |nil=>simp
    |cons a st=>
     simp only []
     have c1:(decide (((1:Nat):Int)<0)||decide (((a::st).length:Int)<((1:Nat):Int)))=false:=by simp;omega
     simp only [c1,zx,gu,bo]
     cases hc:Dm n with
     |false=>simp
     |true=>
      simp only [mq,jx,gE,yW]
      simp only [jv]at hll ⊢
      simp only [bU]at hs hll
      have hap:=a.size_pos
      rw [ia st.length (st.length+1) (by rw [bH (by omega) (by omega)];omega) (by omega) (by omega) (by rw [cY];exact dr _)]
      have hd:(List.take (st.length+1) (j7 (a::st))).drop st.length=[((bU st+a.size:Nat):Int)-1]:=by
       rw [nM (by rw [cY];exact dr _)]
       simp only [j7]
       rw [DD (by rw [cY];exact dr _),Bq (by rw [cY];exact dr _),je]
      rw [hd]
      simp only [bo,ko]
      rw [kg (bU st+a.size-1) (by omega)]
      have X:=AA a st []
      rw [rR]at X
      simp only [ER]
      rw [X]
      simp only [bo]
      rw [kg 0 rfl]
      simp only [Fw,bo]
      have hset:([(-1:Int),-1].set ((0:Nat):Int).toNat (((bU st+a.size:Nat):Int)-1))=[((bU st+a.size:Nat):Int)-1,-1]:=rfl
      rw [hset]
      by_cases hL:n.L=((bU st+a.size:Nat):Int)-1/\n.R= -1
      ·have V:(n.L==((bU st+a.size:Nat):Int)-1&&n.R== -1)=true:=by simp [hL]
       rw [bE V,bn (by rw [hL.1,hL.2];simp)]
       rw [cL (by simp only [jv,pT,jO,rF,pX];omega)]
       simp only [bo]
       rw [ia (i:=0) 0 st.length rfl (by rw [cY,bH (by simp<;>omega) (by simp<;>omega)];simp) (mJ _) (by rw [cY];simp)]
       have D:(List.take st.length (j7 (a::st))).drop 0=j7 st:=by
        simp only [j7,t6]
        rw [vM (by rw [cY];exact dr _),nM (by rw [cY];exact dr _)]
       rw [D]
       simp only [bo]
       rw [cL (by simp only [jv,pT,cY];omega)]
       simp only [bo]
       have J:=ih (.un (dR n (-1) (-1)) a::st) (by simp [bU,Tr.size];omega)
       simp only [bU,Tr.size,ER,fl,j7]at J
       rw [show(((bU st+(a.size+1):Nat):Int)-1)=((bU st+a.size:Nat):Int)from by omega]at J
       have hm:min ((bU (a::st):Nat):Int) (bU st:Int)=(bU st:Int):=by simp only [bU];omega
       rw [hm]
       simp only [jC]at J ⊢
       exact J
      ·have V:(n.L==((bU st+a.size:Nat):Int)-1&&n.R== -1)=false:=by
        rw [Cy];intro h;apply hL;simpa using h
       rw [V]
       rw [bE (by
        simp only [yu,G4]
        intro h
        have Y:((bU st+a.size:Nat):Int)-1=n.L:=by injection h
        have J:(-1:Int)=n.R:=by injection h with _ h;injection h
        exact hL ⟨Y.symm,J.symm⟩)]
       simp
   ·-- two
    cases st with
    |nil=>simp
    |cons b st=>
     cases st with
     |nil=>simp
     |cons a st=>
      simp only []
      have c1:(decide (((2:Nat):Int)<0)||decide (((b::a::st).length:Int)<((2:Nat):Int)))=false:=by simp;omega
      simp only [c1,zx,gu,bo]
      cases hc:Dm n with
      |false=>simp
      |true=>
       simp only [mq,jx,gE,yW]
       simp only [jv]at hll ⊢
       simp only [bU]at hs hll
       have hap:=a.size_pos
       have hbp:=b.size_pos
       rw [ia st.length (st.length+1+1) (by rw [bH (by omega) (by omega)];omega) (by omega) (by omega) (by rw [cY];exact dr _)]
       have hd:(List.take (st.length+1+1) (j7 (b::a::st))).drop st.length=[((bU st+a.size:Nat):Int)-1,((bU st+a.size+b.size:Nat):Int)-1]:=by
        rw [nM (by rw [cY];exact dr _)]
        simp only [j7,bU,jC]
        rw [DD (by rw [cY];exact dr _),Bq (by rw [cY];exact dr _),je]
        rfl
       rw [hd]
       simp only [bo,ko]
       simp only [ER,bU]
       rw [kg (bU st+a.size-1) (by omega)]
       rw [AA a st (fl b (bU st+a.size))]
       simp only [bo]
       rw [kg 0 rfl]
       simp only [Fw,bo]
       have hset:([(-1:Int),-1].set ((0:Nat):Int).toNat (((bU st+a.size:Nat):Int)-1))=[((bU st+a.size:Nat):Int)-1,-1]:=rfl
       rw [hset]
       rw [kg (bU st+a.size+b.size-1) (by omega)]
       have X:=AA b (a::st) []
       rw [rR]at X
       simp only [ER,bU]at X
       rw [X]
       simp only [bo]
       rw [kg (0+1) rfl]
       simp only [List.getElem?_cons_succ,Fw,bo]
       have hset2:([((bU st+a.size:Nat):Int)-1,-1].set ((0+1:Nat):Int).toNat (((bU st+a.size+b.size:Nat):Int)-1))=[((bU st+a.size:Nat):Int)-1,((bU st+a.size+b.size:Nat):Int)-1]:=rfl
       rw [hset2]
       by_cases hL:n.L=((bU st+a.size:Nat):Int)-1/\n.R=((bU st+a.size+b.size:Nat):Int)-1
       ·have V:(n.L==((bU st+a.size:Nat):Int)-1&&n.R==((bU st+a.size+b.size:Nat):Int)-1)=true:=by rw [hL.1,hL.2];simp
        rw [bE V,bn (by rw [hL.1,hL.2];simp)]
        rw [cL (by simp only [jv,pT,jO,rF,pX];omega)]
        simp only [bo]
        rw [ia (i:=0) 0 st.length rfl (by rw [cY,bH (by simp;omega) (by simp;omega)];simp;omega) (mJ _) (by rw [cY];simp;omega)]
        have D:(List.take st.length (j7 (b::a::st))).drop 0=j7 st:=by
         simp only [j7,t6,jC]
         rw [vM (by rw [cY];exact dr _),nM (by rw [cY];exact dr _)]
        rw [D]
        simp only [bo]
        rw [cL (by simp only [jv,pT,cY];omega)]
        simp only [bo]
        have J:=ih (.bi (dR n (-1) (-1)) a b::st) (by simp [bU,Tr.size];omega)
        simp only [bU,Tr.size,ER,fl,j7]at J
        rw [show(((bU st+(a.size+b.size+1):Nat):Int)-1)=((bU st+a.size+b.size:Nat):Int)from by omega,show bU st+(a.size+b.size+1)=bU st+a.size+b.size+1 from by omega]at J
        have hm:min (min (((bU st+a.size+b.size:Nat)):Int) (bU st:Int)) ((bU st+a.size:Nat):Int)=(bU st:Int):=by omega
        rw [hm]
        simp only [jC]at J ⊢
        exact J
       ·have V:(n.L==((bU st+a.size:Nat):Int)-1&&n.R==((bU st+a.size+b.size:Nat):Int)-1)=false:=by
         rw [Cy];intro h;apply hL;simpa using h
        rw [V]
        rw [bE (by
         simp only [yu,G4]
         intro h
         have Y:((bU st+a.size:Nat):Int)-1=n.L:=by injection h
         have J:((bU st+a.size+b.size:Nat):Int)-1=n.R:=by injection h with _ h;injection h
         exact hL ⟨Y.symm,J.symm⟩)]
        simp

def i6{n:Nat}(h:n<=1000000):n<=gi:=by unfold gi;omega
def fd(ns:List aj):Bool:=(iN ns).isSome
def yH{st:List Tr}(h:mX ns []=some st):bU st=ns.length:=by
 have:=(qT h (fun t D=>by cases D)).1
 rw [<-Cd,this];simp [sP]
def lw(e:ai)(h:e.Nodes.length<=100000):me e=some (if fd e.Nodes then 0 else 200):=by
 unfold me pO fd iN
 have:=Ce e.Nodes [] (by simpa [bU] using h)
 simp only [bU,ER,j7]at this
 rw [this]
 cases hp:mX e.Nodes []with
 |none=>rfl
 |some st=>
  have hsz:=yH hp
  match st,hsz with
  |[],_=>rfl
  |[t],hsz=>
   simp only [bo,hsz]
   by_cases hl:e.Nodes.length<=1000<;>simp [hl]
  |t::t2::st,_=>simp
def LF(t:Tr):t.wf-> ∀(P R N:List aj) (fu:Nat),N=P++t.flat P.length++R->t.size<=fu->N.length<=100000->iq fu ⟨N⟩ (((P.length+t.size:Nat):Int)-1)=some (t.size:Int):=by
 induction t with
 |lf n=>
  intro⟨Y,J,Z,h4⟩ P R N fu hN X hl
  have hNl:=congrArg List.length hN
  simp only [jO,Tr.flat_len]at hNl
  simp only [Tr.size]at X hNl ⊢
  obtain⟨fu,rfl⟩: ∃k,fu=k+1:=⟨fu-1,by omega⟩
  unfold iq
  have I:N[P.length]? =some (dR n (-1) (-1)):=by
   rw [hN,jC,qC (dr _),xz];rfl
  rw [bn (by simp;omega),kg P.length (by omega),I]
  have e1:(dR n (-1) (-1)).Tag=n.Tag:=rfl
  simp only [bo]
  rw [e1,nY]
  have e:CT n.Tag=0:=by unfold CT;rw [Y];rfl
  simp only [e,bo,iP]
  have e2:Dm (dR n (-1) (-1))=true:=J
  rw [e2]
  simp [dR]
 |un n a ih=>
  intro⟨⟨Y,J,Z,h4⟩,ha⟩ P R N fu hN X hl
  obtain⟨m,hm⟩: ∃m,m=dR n (((P.length+a.size:Nat):Int)-1) (-1):=⟨_,rfl⟩
  have hNl:=congrArg List.length hN
  simp only [jO,Tr.flat_len]at hNl
  simp only [Tr.size]at X hNl ⊢
  simp only [Tr.flat,<-hm]at hN
  obtain⟨fu,rfl⟩: ∃k,fu=k+1:=⟨fu-1,by omega⟩
  have hpos:=a.size_pos
  have hi:=ih ha P ([m]++R) N fu (by rw [hN];simp only [jC]) (by omega) hl
  unfold iq
  have I:N[P.length+a.size]? =some m:=by
   rw [hN,jC,jC,<-jC P,qC (by simp [a.flat_len])]
   simp [a.flat_len]
  rw [bn (by simp;omega),kg (P.length+a.size) (by omega),I]
  simp only [bo]
  have e1:m.Tag=n.Tag:=by rw [hm];rfl
  rw [e1,nY]
  have e:CT n.Tag=1:=by unfold CT;rw [Y];rfl
  simp only [e,bo,iP]
  have e2:Dm m=true:=by rw [hm];exact J
  have eL:m.L=((P.length+a.size:Nat):Int)-1:=by rw [hm];rfl
  have eR:m.R= -1:=by rw [hm];rfl
  rw [bH (n:=((P.length+(a.size+1):Nat):Int)-1-1) (by omega) (by omega),show(((P.length+(a.size+1):Nat):Int)-1-1)=(((P.length+a.size:Nat):Int)-1)from by omega]
  rw [hi]
  simp only [bo]
  rw [bH (n:=(a.size:Int)+1) (by omega) (by omega)]
  have n1: ¬a.size=0:=by omega
  simp [e2,eL,eR,n1]
 |bi n a b iha ihb=>
  intro⟨⟨Y,J,Z,h4⟩,ha,V⟩ P R N fu hN X hl
  obtain⟨m,hm⟩: ∃m,m=dR n (((P.length+a.size:Nat):Int)-1) (((P.length+a.size+b.size:Nat):Int)-1):=⟨_,rfl⟩
  have hNl:=congrArg List.length hN
  simp only [jO,Tr.flat_len]at hNl
  simp only [Tr.size]at X hNl ⊢
  simp only [Tr.flat,<-hm]at hN
  obtain⟨fu,rfl⟩: ∃k,fu=k+1:=⟨fu-1,by omega⟩
  have hap:=a.size_pos
  have hbp:=b.size_pos
  have hi1:=iha ha P (b.flat (P.length+a.size)++[m]++R) N fu (by rw [hN];simp only [jC]) (by omega) hl
  have hi2:=ihb V (P++a.flat P.length) ([m]++R) N fu (by rw [hN];simp only [jC,jO,a.flat_len]) (by omega) hl
  rw [jO,a.flat_len]at hi2
  unfold iq
  have I:N[P.length+a.size+b.size]? =some m:=by
   rw [hN,jC,jC,<-jC P,qC (by simp [a.flat_len,b.flat_len];omega)]
   have:P.length+a.size+b.size-(P++(a.flat P.length++b.flat (P.length+a.size))).length=0:=by simp [a.flat_len,b.flat_len];omega
   rw [this];rfl
  rw [bn (by simp;omega),kg (P.length+a.size+b.size) (by omega),I]
  simp only [bo]
  have e1:m.Tag=n.Tag:=by rw [hm];rfl
  rw [e1,nY]
  have e:CT n.Tag=2:=by unfold CT;rw [Y];rfl
  simp only [e,bo,iP]
  have e2:Dm m=true:=by rw [hm];exact J
  have eL:m.L=((P.length+a.size:Nat):Int)-1:=by rw [hm];rfl
  have eR:m.R=((P.length+a.size+b.size:Nat):Int)-1:=by rw [hm];rfl
  rw [bH (n:=((P.length+(a.size+b.size+1):Nat):Int)-1-1) (by omega) (by omega),show(((P.length+(a.size+b.size+1):Nat):Int)-1-1)=(((P.length+a.size+b.size:Nat):Int)-1)from by omega]
  rw [hi2]
  simp only [bo]
  rw [bH (n:=((P.length+a.size+b.size:Nat):Int)-1-(b.size:Int)) (by omega) (by omega),show((P.length+a.size+b.size:Nat):Int)-1-(b.size:Int)=((P.length+a.size:Nat):Int)-1 from by omega]
  rw [hi1]
  simp only [bo]
  rw [bH (n:=(a.size:Int)+(b.size:Int)) (by omega) (by omega),bH (n:=(a.size:Int)+(b.size:Int)+1) (by omega) (by omega)]
  have n1: ¬a.size=0:=by omega
  have n2: ¬b.size=0:=by omega
  have e5:(P.length:Int)+(a.size:Int)+(b.size:Int)-1-(b.size:Int)=(P.length:Int)+(a.size:Int)-1:=by omega
  simp [e2,eL,eR,n1,n2,e5]
def LH(N:List aj)(hN:N.length<=100000): ∀(fu q:Nat),q<=N.length->q<fu-> ∃k:Nat,iq fu ⟨N⟩ ((q:Int)-1)=some (k:Int)/\(k=0\/ ∃(t:Tr) (P R:List aj),t.wf/\t.size=k/\N=P++t.flat P.length++R/\P.length+k=q):=by
 intro fu
 induction fu with
 |zero=>intro q _ h;omega
 |succ fu ih=>
  intro q hq X
  unfold iq
  by_cases h0:q=0
  ·subst h0
   exact⟨0,by rw [bE (by simp)];rfl,.inl rfl⟩
  rw [bn (by simp;omega),kg (q-1) (by omega)]
  have hlt:q-1<N.length:=by omega
  rw [rg hlt]
  obtain⟨n,hn⟩: ∃n,n=N[q-1]:=⟨_,rfl⟩
  rw [<-hn]
  have hd:N=N.take (q-1)++([n]++N.drop q):=by
   have Y:=sn (q-1) N
   rw [xB hlt,<-hn,show q-1+1=q from by omega]at Y
   exact Y.symm
  simp only [bo,nY,iP]
  cases hk:pk n.Tag with
  |none=>
   have e:CT n.Tag= -1:=by unfold CT;rw [hk]
   exact⟨0,by simp [e],.inl rfl⟩
  |some k=>
   have e:CT n.Tag=(k:Int):=by unfold CT;rw [hk]
   have hk3:k=0\/k=1\/k=2:=by
    unfold pk at hk
    repeat' split at hk
    all_goals simp at hk
    all_goals omega
   cases hc:Dm n with
   |false=>exact⟨0,by simp [e,hc],.inl rfl⟩
   |true=>
    rcases hk3 with rfl|rfl|rfl
    ·rw [e]
     by_cases hL:n.L= -1/\n.R= -1
     ·refine⟨1,by simp [hL],.inr ⟨.lf (dR n (-1) (-1)),N.take (q-1),N.drop q,⟨hk,hc,rfl,rfl⟩,rfl,?_,by simp;omega⟩⟩
      simp only [Tr.flat]
      rw [uW hL.1 hL.2,jC]
      exact hd
     ·refine⟨0,?_,.inl rfl⟩
      have:(n.L != -1||n.R != -1)=true:=by
       rw [wB,ss,ss]
       by_cases hl:n.L= -1
       ·exact .inr fun h=>hL ⟨hl,h⟩
       ·exact .inl hl
      simp [this]
    ·rw [e,bH (by omega) (by omega)]
     have e9:(((q-1:Nat):Int)-1)=(q:Int)-1-1:=by omega
     obtain⟨r2,J,h2'⟩:=ih (q-1) (by omega) (by omega)
     rw [e9]at J
     rw [J]
     rcases h2' with rfl|⟨t,P,R,hw,hs,hN2,hl⟩
     ·exact⟨0,by simp,.inl rfl⟩
     ·have hp:=t.size_pos
      by_cases hL:n.L=(q:Int)-1-1/\n.R= -1
      ·refine⟨r2+1,?_,.inr ⟨.un (dR n (-1) (-1)) t,P,N.drop q,⟨⟨hk,hc,rfl,rfl⟩,hw⟩,by simp only [Tr.size];omega,?_,by omega⟩⟩
       ·simp only [bo]
        rw [bH (n:=(r2:Int)+1) (by omega) (by omega)]
        have: ¬(r2=0):=by omega
        simp [hL,this]
       ·simp only [Tr.flat]
        rw [uW (by rw [hL.1];omega) hL.2]
        have D:N.take (q-1)=P++t.flat P.length:=by
         rw [hN2,vM (by simp [t.flat_len];omega),nM (by simp [t.flat_len];omega)]
        rw [D]at hd
        simpa only [jC] using hd
      ·refine⟨0,?_,.inl rfl⟩
       have:(n.L !=(q:Int)-1-1||n.R != -1)=true:=by
        rw [wB,ss,ss]
        by_cases hl:n.L=(q:Int)-1-1
        ·exact .inr fun h=>hL ⟨hl,h⟩
        ·exact .inl hl
       simp [this]
    ·rw [e,bH (n:=(q:Int)-1-1) (by omega) (by omega)]
     have e9:(((q-1:Nat):Int)-1)=(q:Int)-1-1:=by omega
     obtain⟨r2,J,h2'⟩:=ih (q-1) (by omega) (by omega)
     rw [e9]at J
     rw [J]
     rcases h2' with rfl|⟨t,P,R,hw,hs,hN2,hl⟩
     ·exact⟨0,by simp,.inl rfl⟩
     ·have hp:=t.size_pos
      simp only [bo]
      rw [bH (n:=(q:Int)-1-1-(r2:Int)) (by omega) (by omega)]
      have e8:(((q-1-r2:Nat):Int)-1)=(q:Int)-1-1-(r2:Int):=by omega
      have n2: ¬(r2=0):=by omega
      obtain⟨r3,Z,h3'⟩:=ih (q-1-r2) (by omega) (by omega)
      rw [e8]at Z
      rw [Z]
      rcases h3' with rfl|⟨t3,P3,R3,hw3,hs3,hN3,hl3⟩
      ·exact⟨0,by simp,.inl rfl⟩
      ·have hp3:=t3.size_pos
       have n3: ¬(r3=0):=by omega
       by_cases hL:n.R=(q:Int)-1-1/\n.L=(q:Int)-1-1-(r2:Int)
       ·refine⟨r3+r2+1,?_,.inr ⟨.bi (dR n (-1) (-1)) t3 t,P3,N.drop q,⟨⟨hk,hc,rfl,rfl⟩,hw3,hw⟩,by simp only [Tr.size];omega,?_,by omega⟩⟩
        ·simp only [bo]
         rw [bH (n:=(r3:Int)+(r2:Int)) (by omega) (by omega),bH (n:=(r3:Int)+(r2:Int)+1) (by omega) (by omega)]
         simp [hL,n2,n3]
        ·simp only [Tr.flat]
         rw [uW (by rw [hL.2];omega) (by rw [hL.1];omega)]
         have D:N.take (q-1)=P++t.flat P.length:=by
          rw [hN2,vM (by simp [t.flat_len];omega),nM (by simp [t.flat_len];omega)]
         have hP:P=N.take P.length:=by
          conv=>rhs;rw [hN2,jC,vM (dr _),nM (dr _)]
         have hP3:P=P3++t3.flat P3.length:=by
          rw [hP]
          have:P.length=P3.length+t3.size:=by omega
          conv=>lhs;rw [this,hN3]
          rw [vM (by simp [t3.flat_len]),nM (by simp [t3.flat_len])]
         have hPl:P.length=P3.length+t3.size:=by omega
         rw [D,hPl]at hd
         rw [hP3]at hd
         simpa only [jC] using hd
       ·clear ih hN2 hN3
        refine⟨0,?_,.inl rfl⟩
        have:(n.R !=(q:Int)-1-1||n.L !=(q:Int)-1-1-(r2:Int))=true:=by
         rw [wB,ss,ss]
         by_cases hl:n.R=(q:Int)-1-1
         ·exact .inr fun h=>hL ⟨hl,h⟩
         ·exact .inl hl
        have h' :=this
        rw [wB,ss,ss]at h'
        simp [n2,n3]
        intro Y J
        exact absurd J (by rcases h' with h' |h';exact absurd Y h';exact h')
def Am(e:ai):uv e=some (fd e.Nodes):=by
 unfold uv fd
 by_cases h:1<=e.Nodes.length/\e.Nodes.length<=1000
 ·rw [bE (by simp;omega),bH (by omega) (by omega)]
  unfold Ak
  obtain⟨k,Y,J⟩:=LH e.Nodes (by omega) gi e.Nodes.length (dr _) (ud (yY _) (i6 (by omega)))
  have h1' :iq gi e ((e.Nodes.length:Int)-1)=some (k:Int):=Y
  rw [h1']
  simp only [bo]
  congr 1
  rw [zn]
  constructor
  ·intro hk
   have hk' :k=e.Nodes.length:=by have:=eq_of_beq hk;omega
   rcases J with rfl|⟨t,P,R,hw,hs,hN,hl⟩
   ·omega
   ·have hP:P=[]:=vj (by omega)
    subst hP
    have hR:R=[]:=by
     have:=congrArg List.length hN
     simp [t.flat_len]at this
     exact vj (by omega)
    subst hR
    have hN' :e.Nodes=t.flat 0:=by simpa using hN
    rw [hN',ny hw (by omega)];rfl
  ·intro hi
   cases D:iN e.Nodes with
   |none=>rw [D]at hi;cases hi
   |some t=>
    obtain⟨hw,hN,hs⟩:=i8 D
    have hlen:e.Nodes.length=t.size:=by rw [hN,t.flat_len]
    have Z:=LF t hw [] [] e.Nodes gi (by simpa using hN) (i6 (by omega)) (by omega)
    simp only [pT,pS]at Z
    rw [<-hlen]at Z
    have h4:some (k:Int)=some (e.Nodes.length:Int):=Y.symm.trans Z
    simpa using h4
 ·rw [bn (by simp;omega)]
  simp only [bo]
  congr 1
  symm
  rw [Cy]
  intro hi
  cases D:iN e.Nodes with
  |none=>rw [D]at hi;cases hi
  |some t=>
   obtain⟨hw,hN,hs⟩:=i8 D
   have hlen:e.Nodes.length=t.size:=by rw [hN,t.flat_len]
   have:=t.size_pos
   omega
def s7(h:fd ns=true):1<=ns.length/\ns.length<=1000:=by
 unfold fd at h
 cases D:iN ns with
 |none=>rw [D]at h;cases h
 |some t=>
  obtain⟨hw,hN,hs⟩:=i8 D
  have hlen:ns.length=t.size:=by rw [hN,t.flat_len]
  have:=t.size_pos
  omega

def tU{α:Type} [DecidableEq α]:α->List α->List α
 |_,[]=>[]
 |p,x::t=>if x=p then tU x t else x::tU x t
variable{p:Nat}
def AR [DecidableEq α](p:α):tU p []=[]:=by unfold tU;rfl
def yg [DecidableEq α]{p x:α}(h:x=p)(t:List α):tU p (x::t)=tU x t:=by
 conv=>lhs;unfold tU
 rw [bE h]
def Dk [DecidableEq α]{p x:α}(h: ¬x=p)(t:List α):tU p (x::t)=x::tU x t:=by
 conv=>lhs;unfold tU
 rw [bn h]
def AQ{α:Type} [DecidableEq α]:List α->List α
 |[]=>[]
 |x::t=>x::tU x t
def AS{α:Type} [DecidableEq α]: ∀(p:α) (l:List α) (z:α),z∈tU p l->z∈l
 |p,x::t,z,h=>by
  unfold tU at h
  split at h
  ·exact nu _ (AS x t z h)
  ·rcases gB.1 h with rfl|h
   ·exact mp ..
   ·exact nu _ (AS x t z h)
def Au{α:Type} [DecidableEq α]: ∀(p:α) (l:List α) (z:α),z∈l->z=p\/z∈tU p l
 |p,x::t,z,h=>by
  unfold tU
  by_cases I:x=p
  ·rw [bE I]
   rcases gB.1 h with rfl|h
   ·exact .inl I
   ·rcases Au x t z h with h|h
    ·exact .inl (h.trans I)
    ·exact .inr h
  ·rw [bn I]
   rcases gB.1 h with rfl|h
   ·exact .inr (mp ..)
   ·rcases Au x t z h with h|h
    ·exact .inr (by rw [h];exact mp ..)
    ·exact .inr (nu _ h)
def B5 [DecidableEq α](l:List α)(z:α):z∈AQ l↔z∈l:=by
 cases l with
 |nil=>exact sr
 |cons x t=>
  constructor
  ·intro h
   rcases gB.1 h with rfl|h
   ·exact mp ..
   ·exact nu _ (AS x t z h)
  ·intro h
   rcases gB.1 h with rfl|h
   ·exact mp ..
   ·rcases Au x t z h with rfl|h
    ·exact mp ..
    ·exact nu _ h
def GG(p:List Int)(hp:p.length<=8000)(i:Nat)(y:List Int)(hy:i+y.length=p.length): ∀(k i1:Nat) (x:List Int) (x1:Nat),i1+k=y.length->0<i1->x.length=p.length->x1+1<=i+i1->x.drop (i+i1-1)=p.drop (i+i1-1)->
  dJ i y k i1 x (x1:Int)=some (x.take x1++tU ((p[i+i1-1]?).getD 0) (p.drop (i+i1))):=by
 intro k
 induction k with
 |zero=>
  intro i1 x x1 Y h0 I J Z
  simp only [dJ]
  have hx1:x1<=x.length:=by omega
  rw [uS hx1 (dr _)]
  simp only [bo,zr,t8]
  rw [show((0:Int))=((0:Nat):Int)from rfl,uS (mJ _) (by simp;omega)]
  simp only [bo,t6]
  have hn:p.drop (i+i1)=[]:=CA (by omega)
  rw [hn,AR,rR,vM (by simp;omega),vI,Nat.min_self]
 |succ k ih=>
  intro i1 x x1 Y h0 I J Z
  have e1:x[i+i1]? =p[i+i1]? :=by
   have:=congrArg (fun l:List Int=>l[1]?) Z
   simp only [ue]at this
   rwa [show i+i1-1+1=i+i1 from by omega]at this
  have e0:x[i+i1-1]? =p[i+i1-1]? :=by
   have:=congrArg (fun l:List Int=>l[0]?) Z
   simpa only [ue,tZ] using this
  have hlt:i+i1<p.length:=by omega
  have g1:BB x (i:Int) y.length (i1:Int)=some p[i+i1]:=by
   unfold BB
   rw [bE (by omega),show(i:Int)+(i1:Int)=((i+i1:Nat):Int)from by omega,cI,e1,rg hlt]
  have g0:BB x (i:Int) y.length (IntKind.i64.wrap ((i1:Int)-1))=some p[i+i1-1]:=by
   rw [bH (by omega) (by omega)]
   unfold BB
   rw [bE (by omega),show(i:Int)+((i1:Int)-1)=((i+i1-1:Nat):Int)from by omega,cI,e0,rg (by omega)]
  have hd:p.drop (i+i1)=p[i+i1]::p.drop (i+i1+1):=xB hlt
  have hp1:(p[i+i1-1]?).getD 0=p[i+i1-1]:=by rw [rg (by omega)];rfl
  simp only [dJ,g1,g0,bo]
  rw [hd,hp1]
  by_cases hx2:p[i+i1]=p[i+i1-1]
  ·rw [bn (by simp [hx2])]
   have h3' :x.drop (i+(i1+1)-1)=p.drop (i+(i1+1)-1):=by
    have:=congrArg (List.drop 1) Z
    rwa [p8,p8,show i+i1-1+1=i+(i1+1)-1 from by omega]at this
   rw [ih (i1+1) x x1 (by omega) (by omega) I (by omega) h3']
   rw [yg hx2,show i+(i1+1)-1=i+i1 from by omega,rg hlt,show i+(i1+1)=i+i1+1 from by omega]
   rfl
  ·rw [bE (by simp [hx2]),cI,rg (by omega)]
   simp only [bo,t8]
   rw [bH (by omega) (by omega),show((x1:Int)+1)=((x1+1:Nat):Int)from by omega]
   have h3' :(x.set x1 p[i+i1]).drop (i+(i1+1)-1)=p.drop (i+(i1+1)-1):=by
    rw [List.drop_set_of_lt (by omega)]
    have:=congrArg (List.drop 1) Z
    rwa [p8,p8,show i+i1-1+1=i+(i1+1)-1 from by omega]at this
   rw [ih (i1+1) _ (x1+1) (by omega) (by omega) (by simpa using I) (by omega) h3']
   rw [Dk hx2,show i+(i1+1)-1=i+i1 from by omega,rg hlt,show i+(i1+1)=i+i1+1 from by omega]
   have D:(x.set x1 p[i+i1]).take (x1+1)=x.take x1++[p[i+i1]]:=by
    rw [HW (by simp;omega),List.take_set_of_le (by omega)]
    simp
   rw [D]
   simp
def AX(p:List Int)(hp:p.length<=8000):iW p=some (AQ p):=by
 unfold iW
 by_cases J:p.length<2
 ·rw [bE (by simp;omega)]
  match p,J with
  |[],_=>rfl
  |[x],_=>rfl
 ·rw [bn (by simp;omega)]
  have key: ∀(l:List Int) (i:Nat),p.drop i=l->0<i->i<=p.length->AQ p=p.take i++tU ((p[i-1]?).getD 0) (p.drop i)->eD p l i=some (AQ p):=by
   intro l
   induction l with
   |nil=>
    intro i Y h0 hle Z
    have:=Bp.1 Y
    simp only [eD]
    rw [Z,Y,nM (by omega),AR,rR]
   |cons x t ih=>
    intro i Y h0 hle Z
    have hi:i<p.length:=by
     rcases lz i p.length with h|h
     ·exact h
     ·rw [CA h]at Y;cases Y
    have I:x=p[i]:=by rw [xB hi]at Y;exact(List.cons.inj Y).1.symm
    have D:p.drop (i+1)=t:=by rw [<-p8,Y];rfl
    have hp1:(p[i-1]?).getD 0=p[i-1]:=by rw [rg (by omega)];rfl
    simp only [eD]
    rw [bH (by omega) (by omega),show(i:Int)-1=((i-1:Nat):Int)from by omega,cI,rg (by omega)]
    simp only [bo]
    by_cases he:x=p[i-1]
    ·rw [bE (by simp [he])]
     rw [uS hle (dr _)]
     simp only [bo,zr]
     rw [GG p hp i (p.drop i) (by simp;omega) _ 1 p i (by simp;omega) (by omega) rfl (by omega) (by simp)]
     rw [Z,Y,hp1,yg he,<-D,I]
     rw [show i+1-1=i from by omega,rg hi];rfl
    ·rw [bn (by simp [he])]
     refine ih (i+1) D (by omega) (by omega) ?_
     rw [Z,Y,hp1,Dk he,HW hi,<-D,I,show i+1-1=i from by omega,rg hi]
     rw [jC];rfl
  have hpc:p=p[0]::p.drop 1:=by
   have:=xB (l:=p) (i:=0) (by omega)
   simpa using this
  refine key (p.drop 1) 1 rfl (by omega) (by omega) ?_
  have e:(p[1-1]?).getD 0=p[0]:=by simp [rg (show 0<p.length by omega)]
  rw [e]
  conv=>lhs;rw [hpc]
  have e2:p.take 1=[p[0]]:=by
   conv=>lhs;rw [hpc]
   rfl
  rw [e2];rfl

def B4(l:List Int)(z:Int):z∈sortI l↔z∈l:=by unfold sortI;simp
def wy: ∀(ns:List aj) (out:List Int),out.length+ns.length<=8000-> ∃cs,iw ns out=some cs/\ ∀c,c∈cs↔c∈out\/ ∃n∈ns,n.Tag=2/\n.Col=c
 |[],out,h=>by
  unfold iw;rw [xG]
  rw [bE (by simp at h;omega)]
  simp only [bo]
  rw [AX _ (by rw [uR];simpa using h)]
  exact⟨_,rfl,fun c=>by rw [B5,B4];simp⟩
 |n::ns,out,h=>by
  simp only [jv]at h
  unfold iw
  by_cases D:n.Tag=2
  ·rw [bE (by simp [D]),cL (by simp;omega)]
   simp only [bo]
   obtain⟨cs,Y,J⟩:=wy ns (out++[n.Col]) (by simp;omega)
   exact⟨cs,Y,fun c=>by rw [J];simp [D,or_assoc,eq_comm]⟩
  ·rw [bn (by simp [D])]
   obtain⟨cs,Y,J⟩:=wy ns out (by omega)
   exact⟨cs,Y,fun c=>by rw [J];simp [D]⟩
def xi(e:ai)(h:fd e.Nodes=true): ∃cs,kq e=some cs/\ ∀c,c∈cs↔ ∃n∈e.Nodes,n.Tag=2/\n.Col=c:=by
 have hl:=s7 h
 unfold kq
 rw [lw e (by omega),h]
 obtain⟨cs,Y,J⟩:=wy e.Nodes [] (by simp;omega)
 exact⟨cs,by simpa using Y,fun c=>by rw [J];simp⟩
def kn(tag l r:Int):Int×Bool:=(qO tag l r).getD (0,false)
def vA(tag l r:Int):qO tag l r=some (kn tag l r):=by
 unfold kn qO oR
 simp only [bo]
 repeat' split
 all_goals simp
def k4(k:Int):Prop:=k=0\/k=1\/k=2\/k=3
def Ny(tag l r:Int):k4 (kn tag l r).1:=by
 unfold kn qO oR
 simp only [bo]
 repeat' split
 all_goals simp [k4]
def GY(kinds:List Int)(n:aj)(x:Int)(I:k4 x)(hk:pk n.Tag=some 1):iH kinds n [x]=some (if(kn n.Tag x 0).2 then((kn n.Tag x 0).1,0)else(0,201)):=by
 obtain⟨tag,L,R,col,v⟩:=n
 have D:tag=4\/tag=5\/tag=6\/tag=7:=by
  unfold pk at hk
  repeat' split at hk
  all_goals simp at hk
  rename_i h
  have h:4<=tag/\tag<=7:=h
  omega
 rcases D with rfl|rfl|rfl|rfl<;>rcases I with rfl|rfl|rfl|rfl<;>rfl
def GX(kinds:List Int)(n:aj)(x y:Int)(I:k4 x)(hy:k4 y)(hk:pk n.Tag=some 2):iH kinds n [x,y]=some (if(kn n.Tag x y).2 then((kn n.Tag x y).1,0)else(0,201)):=by
 obtain⟨tag,L,R,col,v⟩:=n
 have D:tag=12\/tag=13\/tag=14\/tag=15\/tag=16\/tag=17\/tag=18\/tag=19\/tag=20\/tag=21\/tag=22\/tag=23:=by
  unfold pk at hk
  repeat' split at hk
  all_goals simp at hk
  rename_i h
  have h:12<=tag/\tag<=23:=h
  omega
 rcases D with rfl|rfl|rfl|rfl|rfl|rfl|rfl|rfl|rfl|rfl|rfl|rfl<;>rcases I with rfl|rfl|rfl|rfl<;>rcases hy with rfl|rfl|rfl|rfl<;>rfl
def kd(kinds:List Int):Tr->Option Int
 | .lf n=>if n.Tag=1 then some n.Value.Kind else some ((kinds[n.Col.toNat]?).getD 0)
 | .un n a=>(kd kinds a).bind fun x=>if(kn n.Tag x 0).2 then some (kn n.Tag x 0).1 else none
 | .bi n a b=>(kd kinds a).bind fun x=>(kd kinds b).bind fun y=>if(kn n.Tag x y).2 then some (kn n.Tag x y).1 else none
def Hm(kinds:List Int)(n:aj)(a:Tr):kd kinds (.un n a)=(kd kinds a).bind fun x=>if(kn n.Tag x 0).2 then some (kn n.Tag x 0).1 else none:=rfl
def EK(kinds:List Int)(n:aj)(a b:Tr):kd kinds (.bi n a b)=(kd kinds a).bind fun x=>(kd kinds b).bind fun y=>if(kn n.Tag x y).2 then some (kn n.Tag x y).1 else none:=rfl
def rL(m:Nat):Tr->Prop
 | .lf n=>n.Tag=2->n.Col<m
 | .un _ a=>rL m a
 | .bi _ a b=>rL m a/\rL m b
def RI(h:pk tag=some 0):tag=1\/tag=2:=by
 unfold pk at h
 repeat' split at h
 all_goals simp at h
 assumption
def PH{k:Nat}(h:pk tag=some k)(D:tag=2):k=0:=by subst D;simp [pk]at h;exact h.symm
def R4{n:aj}(h:Dm n=true)(D:n.Tag=1):wg n.Value=true:=by
 have J:=iP n
 rw [h]at J
 unfold jF at J
 rw [bE (by simp [D]),nZ]at J
 simp at J
 exact J.1
def KO{n:aj}(h:Dm n=true)(D:n.Tag=2):0<=n.Col/\n.Col<16:=by
 have J:=iP n
 rw [h]at J
 unfold jF at J
 rw [bn (by simp [D]),bE (by simp [D])]at J
 simp at J
 exact⟨J.1.2,J.2⟩
def J2{kinds:List Int}(hk: ∀k∈kinds,k4 k): ∀(t:Tr),t.wf-> ∀{k},kd kinds t=some k->k4 k
 | .lf n,⟨Y,J,_,_⟩,k,h=>by
  unfold kd at h
  split at h
  ·rename_i D
   have:=D9 (R4 J D)
   cases h;unfold k4;omega
  ·injection h with h
   subst h
   cases hc:kinds[n.Col.toNat]? with
   |none=>exact .inl rfl
   |some z=>exact hk z (sm hc)
 | .un n a,_,k,h=>by
  unfold kd at h
  cases ha:kd kinds a with
  |none=>rw [ha]at h;cases h
  |some x=>
   rw [ha,bo]at h
   split at h
   ·cases h;exact Ny ..
   ·cases h
 | .bi n a b,_,k,h=>by
  unfold kd at h
  cases ha:kd kinds a with
  |none=>rw [ha]at h;cases h
  |some x=>
   cases V:kd kinds b with
   |none=>rw [ha,V]at h;cases h
   |some y=>
    rw [ha,V]at h
    simp only [bo]at h
    split at h
    ·cases h;exact Ny ..
    ·cases h
def F6(stack l:List Int)(h:stack.length+l.length<=100000):ne (stack++l) (l.length:Int)=some (l,stack):=by
 unfold ne cu
 have e:IntKind.i64.wrap (((stack++l).length:Int)-(l.length:Int))=(stack.length:Int):=by
  rw [jO,bH (by omega) (by omega)];omega
 rw [e,ia stack.length (stack++l).length rfl rfl (by simp) (dr _)]
 simp only [bo,zr,DD (dr _),List.drop_length,je]
 rw [cL (by simp;omega)]
 simp only [bo,je]
 rw [ia (i:=0) 0 stack.length rfl rfl (mJ _) (by simp)]
 simp
def Ed(stack:List Int){b:Int}(h:b≠0):km b stack=some (0,b):=by
 unfold km;rw [bE (by simpa using h)]
def lu{k:Nat}(h:pk tag=some k):nt tag=some (k:Int):=by
 rw [vD];unfold CT;rw [h]
def Il(kinds:List Int)(hk: ∀k∈kinds,k4 k)(t:Tr):t.wf->rL kinds.length t-> ∀(s:Nat) (rest:List aj) (stack:List Int),stack.length+t.size<=50000->
  gz (iH kinds) (t.flat s++rest) 0 stack=match kd kinds t with
   |some k=>gz (iH kinds) rest 0 (stack++[k])
   |none=>some (0,201):=by
 induction t with
 |lf n=>
  intro⟨Y,J,Z,h4⟩ hc s rest stack hl
  simp only [Tr.flat,Tr.size,xA,je]at hl ⊢
  rw [gz]
  have e1:(dR n (-1) (-1)).Tag=n.Tag:=rfl
  rw [e1,lu Y]
  have h0:=F6 stack [] (by simp;omega)
  simp only [rR,pT]at h0
  simp only [bo]
  rw [h0]
  simp only [bo]
  have hv:iH kinds (dR n (-1) (-1)) []=(kd kinds (.lf n)).map (fun k=>(k,(0:Int))):=by
   unfold iH kp kd
   simp only [e1]
   rcases RI Y with D|D
   ·rw [bE (by simp [D]),bE D];rfl
   ·rw [bn (by simp [D]),bE (by simp [D]),bn (by simp [D])]
    have V:=KO J D
    have hm:n.Col<kinds.length:=hc D
    have e2:(dR n (-1) (-1)).Col=n.Col:=rfl
    rw [e2,kg n.Col.toNat (by omega),rg (by omega)]
    rfl
  rw [hv]
  have: ∃k,kd kinds (.lf n)=some k:=by unfold kd;split<;>exact⟨_,rfl⟩
  obtain⟨k,hk1⟩:=this
  rw [hk1]
  simp only [yr,bo]
  rw [bn (by simp),cL (by simp;omega)]
  rfl
 |un n a ih=>
  intro⟨⟨Y,J,Z,h4⟩,ha⟩ hc s rest stack hl
  simp only [Tr.flat,Tr.size,jC]at hl ⊢
  rw [Hm,ih ha hc s _ stack (by omega)]
  cases I:kd kinds a with
  |none=>rfl
  |some x=>
   have hx4:=J2 hk a ha I
   simp only [bo,xA,je]
   rw [gz]
   have e1:(dR n (((s+a.size:Nat):Int)-1) (-1)).Tag=n.Tag:=rfl
   rw [e1,lu Y]
   have h0:=F6 stack [x] (by simp;omega)
   simp only [bo]
   have e0:(([x]:List Int).length:Int)=((1:Nat):Int):=rfl
   rw [<-e0,h0]
   simp only [bo]
   rw [GY kinds _ x hx4 (by rw [e1];exact Y),e1]
   cases V:(kn n.Tag x 0).2 with
   |true=>
    simp only [gu,bo]
    rw [bn (by simp),cL (by simp;omega)]
    rfl
   |false=>
    simp only [jx,gE,bo]
    rw [bE (by decide),Ed _ (by decide)]
 |bi n a b iha ihb=>
  intro⟨⟨Y,J,Z,h4⟩,ha,V⟩ ⟨hca,hcb⟩ s rest stack hl
  simp only [Tr.flat,Tr.size,jC]at hl ⊢
  rw [EK,iha ha hca s _ stack (by omega)]
  cases I:kd kinds a with
  |none=>rfl
  |some x=>
   have hx4:=J2 hk a ha I
   simp only [bo]
   rw [ihb V hcb (s+a.size) _ (stack++[x]) (by have:=a.size_pos;simp;omega)]
   cases hy:kd kinds b with
   |none=>rfl
   |some y=>
    have hy4:=J2 hk b V hy
    have hap:=a.size_pos
    simp only [bo,xA,je]
    rw [gz]
    have e1:(dR n (((s+a.size:Nat):Int)-1) (((s+a.size+b.size:Nat):Int)-1)).Tag=n.Tag:=rfl
    rw [e1,lu Y]
    have h0:=F6 stack [x,y] (by simp;omega)
    simp only [bo]
    have e0:(([x,y]:List Int).length:Int)=((2:Nat):Int):=rfl
    have e9:stack++[x]++[y]=stack++[x,y]:=by simp
    rw [<-e0,e9,h0]
    simp only [bo]
    rw [GX kinds _ x y hx4 hy4 (by rw [e1];exact Y),e1]
    cases V:(kn n.Tag x y).2 with
    |true=>
     simp only [gu,bo]
     rw [bn (by simp),cL (by simp;omega)]
     rfl
    |false=>
     simp only [jx,gE,bo]
     rw [bE (by decide),Ed _ (by decide)]
def Jz(kinds:List Int)(hk: ∀k∈kinds,k4 k)(t:Tr):t.wf->rL kinds.length t-> ∀(rest:List aj) (own:List Int),own.length+t.size<=50000->
  (kd kinds t=none/\de kinds (t.flat own.length++rest) own=some (0,201))\/
  (∃k w,kd kinds t=some k/\w.length+1=t.size/\de kinds (t.flat own.length++rest) own=de kinds rest (own++w++[k])):=by
 induction t with
 |lf n=>
  intro⟨Y,J,Z,h4⟩ hc rest own hl
  simp only [Tr.flat,Tr.size,xA,je]at hl ⊢
  refine .inr ?_
  have e1:(dR n (-1) (-1)).Tag=n.Tag:=rfl
  unfold kd
  rcases RI Y with D|D
  ·refine⟨_,[],bE D,rfl,?_⟩
   rw [de]
   rw [e1,bE (by simp [D]),cL (by simp;omega)]
   simp only [bo,rR]
   rfl
  ·refine⟨_,[],bn (by simp [D]),rfl,?_⟩
   have V:=KO J D
   have hm:n.Col<kinds.length:=hc D
   have e2:(dR n (-1) (-1)).Col=n.Col:=rfl
   rw [de]
   rw [e1,bn (by simp [D]),bE (by simp [D]),e2,kg n.Col.toNat (by omega),rg (by omega)]
   simp only [bo,rR,BK]
   rw [cL (by simp;omega)]
   rfl
 |un n a ih=>
  intro⟨⟨Y,J,Z,h4⟩,ha⟩ hc rest own hl
  have hap:=a.size_pos
  simp only [Tr.flat,Tr.size,jC]at hl ⊢
  rcases ih ha hc ([dR n (((own.length+a.size:Nat):Int)-1) (-1)]++rest) own (by omega)with⟨I,he⟩|⟨x,w,I,hw,he⟩
  ·exact .inl ⟨by rw [Hm,I];rfl,by rw [he]⟩
  ·rw [he]
   rw [Hm,I]
   simp only [bo,xA,je]
   have e1:(dR n (((own.length+a.size:Nat):Int)-1) (-1)).Tag=n.Tag:=rfl
   have n1:n.Tag≠1:=fun h=>by rw [h]at Y;simp [pk]at Y
   have n2:n.Tag≠2:=fun h=>by rw [h]at Y;simp [pk]at Y
   have hstep:de kinds (dR n (((own.length+a.size:Nat):Int)-1) (-1)::rest) (own++w++[x])=if(kn n.Tag x 0).2 then de kinds rest (own++w++[x]++[(kn n.Tag x 0).1])else some (0,201):=by
    rw [de]
    rw [e1,bn (by simpa using n1),bn (by simpa using n2)]
    have eL:(dR n (((own.length+a.size:Nat):Int)-1) (-1)).L=((own.length+a.size:Nat):Int)-1:=rfl
    have eR:(dR n (((own.length+a.size:Nat):Int)-1) (-1)).R= -1:=rfl
    rw [eL,eR,kg (own++w).length (by simp;omega),qC (dr _),xz]
    simp only [Fw,bo]
    rw [bn (by decide)]
    unfold pi
    rw [e1,vA]
    simp only [bo]
    cases V:(kn n.Tag x 0).2 with
    |true=>
     simp only [mq,jx,gE,gu]
     rw [cL (by simp;omega)];rfl
    |false=>rfl
   rw [hstep]
   cases V:(kn n.Tag x 0).2 with
   |true=>exact .inr ⟨(kn n.Tag x 0).1,w++[x],by simp,by simp;omega,by simp⟩
   |false=>exact .inl ⟨by simp,by simp⟩
 |bi n a b iha ihb=>
  intro⟨⟨Y,J,Z,h4⟩,ha,V⟩ ⟨hca,hcb⟩ rest own hl
  have hap:=a.size_pos
  have hbp:=b.size_pos
  simp only [Tr.flat,Tr.size,jC]at hl ⊢
  obtain⟨m,hm⟩: ∃m,m=dR n (((own.length+a.size:Nat):Int)-1) (((own.length+a.size+b.size:Nat):Int)-1):=⟨_,rfl⟩
  rw [<-hm]
  rcases iha ha hca (b.flat (own.length+a.size)++([m]++rest)) own (by omega)with⟨I,he⟩|⟨x,w,I,hw,he⟩
  ·exact .inl ⟨by rw [EK,I];rfl,by rw [he]⟩
  ·rw [he]
   have hl2:(own++w++[x]).length=own.length+a.size:=by simp;omega
   rw [<-hl2]
   rcases ihb V hcb ([m]++rest) (own++w++[x]) (by rw [hl2];omega)with⟨hy,he2⟩|⟨y,w2,hy,hw2,he2⟩
   ·exact .inl ⟨by rw [EK,I,hy];rfl,by rw [he2]⟩
   ·rw [he2]
    rw [EK,I,hy]
    simp only [bo,xA,je]
    have e1:m.Tag=n.Tag:=by rw [hm];rfl
    have eL:m.L=((own.length+a.size:Nat):Int)-1:=by rw [hm];rfl
    have eR:m.R=((own.length+a.size+b.size:Nat):Int)-1:=by rw [hm];rfl
    have n1:n.Tag≠1:=fun h=>by rw [h]at Y;simp [pk]at Y
    have n2:n.Tag≠2:=fun h=>by rw [h]at Y;simp [pk]at Y
    have hstep:de kinds (m::rest) (own++w++[x]++w2++[y])=if(kn n.Tag x y).2 then de kinds rest (own++w++[x]++w2++[y]++[(kn n.Tag x y).1])else some (0,201):=by
     rw [de]
     rw [e1,bn (by simpa using n1),bn (by simpa using n2)]
     rw [eL,eR,kg (own++w).length (by simp;omega)]
     have g1:(own++w++[x]++w2++[y])[(own++w).length]? =some x:=by
      rw [jC,jC,qC (dr _),xz];rfl
     rw [g1]
     simp only [bo]
     rw [bE (by rw [zy];omega),kg (own++w++[x]++w2).length (by simp;omega)]
     have g2:(own++w++[x]++w2++[y])[(own++w++[x]++w2).length]? =some y:=by
      rw [qC (dr _),xz];rfl
     rw [g2]
     simp only [bo]
     unfold pi
     rw [e1,vA]
     simp only [bo]
     cases V:(kn n.Tag x y).2 with
     |true=>
      simp only [mq,jx,gE,gu]
      rw [cL (by simp;omega)];rfl
     |false=>rfl
    rw [hstep]
    cases V:(kn n.Tag x y).2 with
    |true=>exact .inr ⟨(kn n.Tag x y).1,w++[x]++w2++[y],by simp,by simp;omega,by simp⟩
    |false=>exact .inl ⟨by simp,by simp⟩
def oy(m:Nat)(ns:List aj):Bool:=ns.all fun n=> !((n.Tag==2)&&decide ((m:Int)<=n.Col))
def Fe(m:Nat)(n:aj)(ns:List aj):oy m (n::ns)=(!((n.Tag==2)&&decide ((m:Int)<=n.Col))&&oy m ns):=rfl
def rM(m:Nat)(t:Tr):t.wf-> ∀s,oy m (t.flat s)=true->rL m t:=by
 induction t with
 |lf n=>
  intro _ s h D
  simp only [oy,Tr.flat,vu,List.all_nil,zw]at h
  have e1:(dR n (-1) (-1)).Tag=n.Tag:=rfl
  have e2:(dR n (-1) (-1)).Col=n.Col:=rfl
  simp [e1,e2,D]at h
  exact h
 |un n a ih=>
  intro⟨_,ha⟩ s h
  simp only [oy,Tr.flat,List.all_append,jX]at h
  exact ih ha s h.1
 |bi n a b iha ihb=>
  intro⟨_,ha,V⟩ s h
  simp only [oy,Tr.flat,List.all_append,jX]at h
  exact⟨iha ha s h.1.1,ihb V _ h.1.2⟩
def Lk(kinds:List Int):Bool:=kinds.all fun k=>decide (0<=k)&&decide (k<=3)
def EL(k:Int)(ks:List Int):Lk (k::ks)=((decide (0<=k)&&decide (k<=3))&&Lk ks):=rfl
def Ho{kinds:List Int}(h:Lk kinds=true){k:Int}(hk:k∈kinds):k4 k:=by
 have:=jV.1 h k hk
 simp at this
 unfold k4;omega
def hU(e:ai)(kinds:List Int):Int×Int:=
 if fd e.Nodes then if Lk kinds then if oy kinds.length e.Nodes then match (iN e.Nodes).bind (kd kinds)with
  |some k=>(k,0)
  |none=>(0,201)else(0,2)else(0,2)else(0,200)
def A6(e:ai)(kinds:List Int): ∀cs:List Int,kW e kinds cs=if cs.all (fun c=>decide (c<(kinds.length:Int)))then m6 e (iH kinds)else some (0,2)
 |[]=>by
  unfold kW
  cases m6 e (iH kinds)<;>rfl
 |c::cs=>by
  unfold kW
  rw [A6 e kinds cs]
  by_cases h:(kinds.length:Int)<=c
  ·rw [bE (by simpa using h),bn (by simp;omega)]
  ·rw [bn (by simpa using h)]
   have:c<(kinds.length:Int):=by omega
   simp [this]
def tp(e:ai)(kinds:List Int)(hl:e.Nodes.length<=50000):qy e kinds=some (hU e kinds):=by
 unfold qy hU
 rw [lw e (by omega)]
 cases hr:fd e.Nodes with
 |false=>rfl
 |true=>
  simp only [gu,bo]
  rw [bn (by decide)]
  have key: ∀ks:List Int,oq e kinds ks=if Lk ks then(kq e).bind (kW e kinds)else some (0,2):=by
   intro ks
   induction ks with
   |nil=>rfl
   |cons k ks ih=>
    unfold oq
    rw [ih]
    by_cases h:k<0\/3<k
    ·rw [bE (by simpa using h),bn (by simp [Lk];omega)]
    ·rw [bn (by simpa using h)]
     have Y:(decide (0<=k)&&decide (k<=3))=true:=by simp;omega
     rw [EL,Y,yW]
  rw [key]
  cases hk:Lk kinds with
  |false=>rfl
  |true=>
   simp only [gu]
   obtain⟨cs,Y,J⟩:=xi e hr
   rw [Y,bo,A6]
   have hci:cs.all (fun c=>decide (c<(kinds.length:Int)))=oy kinds.length e.Nodes:=by
    rw [zn]
    simp only [jV,zy,oy,yu,Bool.and_eq_false_iff,beq_eq_false_iff_ne,G4]
    constructor
    ·intro h n hn
     by_cases D:n.Tag=2
     ·exact .inr (by have:=h _ ((J n.Col).2 ⟨n,hn,D,rfl⟩);omega)
     ·exact .inl D
    ·intro h c hc
     obtain⟨n,hn,D,rfl⟩:=(J c).1 hc
     rcases h n hn with h|h
     ·exact absurd D h
     ·omega
   rw [hci]
   cases hc:oy kinds.length e.Nodes with
   |false=>rfl
   |true=>
    simp only [gu]
    cases D:iN e.Nodes with
    |none=>unfold fd at hr;rw [D]at hr;cases hr
    |some t=>
     obtain⟨hw,hN,hs⟩:=i8 D
     have hct:=rM kinds.length t hw 0 (by rw [<-hN];exact hc)
     have:=Il kinds (fun k=>Ho hk) t hw hct 0 [] [] (by simp;omega)
     rw [rR,<-hN]at this
     unfold m6
     rw [this]
     simp only [bo]
     cases kd kinds t with
     |none=>rfl
     |some k=>rfl
def mV(e:ai)(kinds:List Int):qP e kinds=some (hU e kinds):=by
 unfold qP hU
 rw [Am e]
 cases hr:fd e.Nodes with
 |false=>rfl
 |true=>
  simp only [gu,bo,mq,jx,gE]
  have key2: ∀ns:List aj,mU e kinds ns=if oy kinds.length ns then de kinds e.Nodes []else some (0,2):=by
   intro ns
   induction ns with
   |nil=>rfl
   |cons n ns ih=>
    unfold mU
    rw [ih,Fe]
    cases ((n.Tag==2)&&decide ((kinds.length:Int)<=n.Col))<;>simp
  have key: ∀ks:List Int,ph e kinds ks=if Lk ks then mU e kinds e.Nodes else some (0,2):=by
   intro ks
   induction ks with
   |nil=>rfl
   |cons k ks ih=>
    unfold ph
    rw [ih]
    by_cases h:k<0\/3<k
    ·rw [bE (by simpa using h),bn (by simp [Lk];omega)]
    ·rw [bn (by simpa using h)]
     have Y:(decide (0<=k)&&decide (k<=3))=true:=by simp;omega
     rw [EL,Y,yW]
  rw [key,key2]
  cases hk:Lk kinds with
  |false=>rfl
  |true=>
   cases hc:oy kinds.length e.Nodes with
   |false=>rfl
   |true=>
    simp only [gu]
    cases D:iN e.Nodes with
    |none=>unfold fd at hr;rw [D]at hr;cases hr
    |some t=>
     obtain⟨hw,hN,hs⟩:=i8 D
     have hct:=rM kinds.length t hw 0 (by rw [<-hN];exact hc)
     have:=Jz kinds (fun k=>Ho hk) t hw hct [] [] (by simp;omega)
     rw [rR,pT,<-hN]at this
     simp only [bo]
     rcases this with⟨Y,J⟩|⟨k,w,Y,J,Z⟩
     ·rw [Y,J]
     ·rw [Y,Z]
      unfold de
      have hls:t.size<=1000:=hs
      rw [je,kg w.length (by rw [bH (by simp<;>omega) (by simp<;>omega)];simp),qC (dr _),xz]
      rfl
def GN(n:aj):Bool:=n.Tag==4||decide (12<=n.Tag)&&decide (n.Tag<=15)

def iL{tl:List α}{y:α}(h:xs.drop i=y::tl):cU xs (i:Int)=some y/\i<xs.length/\xs.drop (i+1)=tl:=by
 have hi:i<xs.length:=by
  rcases lz i xs.length with Y|Y
  ·exact Y
  ·rw [CA Y]at h;cases h
 rw [xB hi]at h
 injection h with Y J
 exact⟨by rw [cI,rg hi,Y],hi,J⟩
def Fa(h:xs.drop i=[]):xs.length<=i:=Bp.1 h
def sU{f:Int->Option Bool}{g:Int->Bool}(X: ∀v,f v=some (g v)): ∀(l:List Int) (i:Nat),∃j:Int,fg f l i=some j/\decide (0<=j)=l.any g
 |[],i=>⟨-1,rfl,rfl⟩
 |e::l,i=>by
  unfold fg
  rw [X,bo]
  cases h:g e with
  |true=>exact⟨(i:Int),by simp,by simp [h]⟩
  |false=>
   obtain⟨j,Y,J⟩:=sU X l (i+1)
   exact⟨j,by simpa using Y,by rw [J];simp [h]⟩
def p7{f:Int->Option Bool}{g:Int->Bool}(X: ∀v,f v=some (g v))(l:List Int):dX l f=some (l.any g):=by
 unfold dX jQ
 obtain⟨j,Y,J⟩:=sU X l 0
 rw [Y,bo,J]
def sT{f:jU->Option Bool}{g:jU->Bool}(X: ∀v,f v=some (g v)): ∀(l:List jU) (i:Nat),∃j:Int,dt f l i=some j/\decide (0<=j)=l.any g
 |[],i=>⟨-1,rfl,rfl⟩
 |e::l,i=>by
  unfold dt
  rw [X,bo]
  cases h:g e with
  |true=>exact⟨(i:Int),by simp,by simp [h]⟩
  |false=>
   obtain⟨j,Y,J⟩:=sT X l (i+1)
   exact⟨j,by simpa using Y,by rw [J];simp [h]⟩
def vt{f:jU->Option Bool}{g:jU->Bool}(X: ∀v,f v=some (g v))(l:List jU):eo l f=some (l.any g):=by
 unfold eo gG
 obtain⟨j,Y,J⟩:=sT X l 0
 rw [Y,bo,J]
def oE(l:List Int)(h:l.length<=68719476736):cu l=some l:=by
 unfold cu
 rw [cL (by simpa using h)];rfl
def No(n:Int)(h0:0<=n)(h:n<=68719476736):j3 n=some []:=by
 unfold j3 kM
 rw [bn (by simp;omega)]
 have e:IntKind.i64.wrap (n-IntKind.i64.wrap ((0:Int)-0))=n:=by
  rw [bH (n:=(0:Int)-0) (by omega) (by omega),bH (by omega) (by omega)];omega
 rw [e]
 by_cases hp:0<n
 ·rw [bE (by simpa using hp)]
  unfold RN zA
  rw [bE hp]
  simp only [bo]
  rw [bE ⟨h0,h⟩]
  simp only [bo]
  rw [show dk (List.replicate n.toNat (0:Int)) 0 0=some []from by unfold dk;rw [bE (by simp;omega)];simp]
  rfl
 ·rw [bn (by simpa using hp)];rfl
def GZ(a b:List Int)(ha:a.length<=8000)(V:b.length<=8000):hM [a,b]=some (a++b):=by
 unfold hM
 simp only [io]
 rw [bH (n:=(0:Int)+(a.length:Int)) (by omega) (by omega),bn (by simp),bH (by omega) (by omega),bn (by simp;omega),No _ (by omega) (by omega)]
 simp only [bo,im]
 rw [cL (by simp;omega)]
 simp only [bo,je]
 rw [cL (by omega)]
 rfl
structure cj(n:aa):Prop where
 cond:n.Cond.Nodes.length<=5000
 kinds:n.Kinds.length<=5000
 keys:n.Keys.length<=5000
 aggs:n.Aggs.length<=5000
 items:n.Items.length<=5000
 order:n.Order.length<=5000
 args: ∀g∈n.Aggs,g.Arg.Nodes.length<=5000
 exprs: ∀e∈n.Items,e.Nodes.length<=5000
def Bt(e:ai)(kinds:List Int):Bool:=(hU e kinds).2==0&&((hU e kinds).1==1||(hU e kinds).1==0)
def uB(e:ai)(kinds:List Int)(h:e.Nodes.length<=5000):pM e kinds=some (Bt e kinds):=by
 unfold pM
 rw [tp e kinds (by omega)]
 rfl
def nW(e:ai)(kinds:List Int):rn e kinds=some (Bt e kinds):=by
 unfold rn Bt
 rw [mV e kinds]
 simp only [bo,Bool.or_comm]
def Jb(a:gQ)(kinds:List Int):Int×Bool:=
 if a.Tag=1 then(2,a.Arg.Nodes.length==0)else if a.Tag=2 then(2,(hU a.Arg kinds).2==0)else if a.Tag=3 then(2,(hU a.Arg kinds).2==0&&((hU a.Arg kinds).1==2||(hU a.Arg kinds).1==0))else if a.Tag=4\/a.Tag=5 then((hU a.Arg kinds).1,(hU a.Arg kinds).2==0)else(0,false)
def Hk(n:Nat):((n:Int)==0)=(n==0):=by rw [zn];simp
def C1(a:gQ)(kinds:List Int)(h:a.Arg.Nodes.length<=5000):u3 a kinds=some (Jb a kinds):=by
 unfold u3 Jb qn
 by_cases Y:a.Tag=1
 ·rw [bE (by simp [Y]),bE Y,Hk]
 rw [bn (by simpa using Y),bn Y,tp _ _ (by omega)]
 simp only [bo]
 by_cases J:a.Tag=2
 ·rw [bE (by simp [J]),bE J]
 rw [bn (by simpa using J),bn J]
 by_cases Z:a.Tag=3
 ·rw [bE (by simp [Z]),bE Z]
 rw [bn (by simpa using Z),bn Z]
 by_cases h4:a.Tag=4
 ·rw [bE (by simp [h4]),bE (by simp [h4]),bE (.inl h4)]
 rw [bn (by simpa using h4)]
 by_cases h5:a.Tag=5
 ·rw [bE (by simp [h5]),bE (.inr h5)]
 rw [bn (by simpa using h5),bn (by omega)]
def IR(a:gQ)(kinds:List Int):Int×Bool:=(kZ a kinds).getD (0,false)
def wd(a:gQ)(kinds:List Int):kZ a kinds=some (IR a kinds):=by
 unfold IR kZ
 rw [mV]
 simp only [bo]
 repeat' split
 all_goals rfl
def HH(a:gQ)(kinds:List Int):(Jb a kinds).2=(IR a kinds).2/\((Jb a kinds).2=true->(Jb a kinds).1=(IR a kinds).1):=by
 unfold IR kZ Jb
 rw [mV]
 simp only [bo]
 by_cases Y:a.Tag=1
 ·simp [Y,Hk]
 by_cases J:a.Tag=2
 ·by_cases he:(hU a.Arg kinds).2=0<;>simp [J,he]
 by_cases Z:a.Tag=3
 ·by_cases he:(hU a.Arg kinds).2=0
  ·by_cases h0:(hU a.Arg kinds).1=0
   ·simp [Z,he,h0]
   ·by_cases h02:(hU a.Arg kinds).1=2<;>simp [Z,he,h0,h02]
  ·simp [Z,he]
 by_cases h4:a.Tag=4
 ·by_cases he:(hU a.Arg kinds).2=0<;>simp [h4,he]
 by_cases h5:a.Tag=5
 ·by_cases he:(hU a.Arg kinds).2=0<;>simp [h5,he]
 have:a.Tag<1\/5<a.Tag:=by omega
 simp [Y,J,Z,h4,h5,this]
def xq(p:Option (List Int×Bool))(q:Option (List Int×Bool))(last:Bool):Prop:=
 ∃k o k',p=some (k,o&&last)/\q=some (k',o)/\(o=true->k=k')
def Ie(c:au)(n:aa)(a b:List Int)(hn:cj n)(hop:n.Op=1):xq (gn c n) (bk n a b) true:=by
 have h:=hn.kinds
 have key: ∀(tl:List Int) (i:Nat) (fu:Nat) (ok:Bool),n.Kinds.drop i=tl->tl.length<fu->dQ n fu ok (i:Int)=some (n.Kinds,((((ok&&tl.all fun k=>decide (1<=k)&&decide (k<=3))&&(decide ((0:Int)<=n.Table)))&&(decide (n.Table<=(3:Int))))&&(decide ((1:Int)<=(n.Kinds.length:Int))))&&(decide ((n.Kinds.length:Int)<=(4:Int)))):=by
  intro tl
  induction tl with
  |nil=>
   intro i fu ok hd X
   obtain⟨fu,rfl⟩: ∃k,fu=k+1:=⟨fu-1,by omega⟩
   have:=Fa hd
   rw [dQ,bn (by simp;omega)]
   simp
  |cons x tl ih=>
   intro i fu ok hd X
   simp only [jv]at X
   obtain⟨fu,rfl⟩: ∃k,fu=k+1:=⟨fu-1,by omega⟩
   obtain⟨Y,J,Z⟩:=iL hd
   rw [dQ,bE (by simp;omega),Y,bH (by omega) (by omega)]
   simp only [bo]
   have e:((i:Int)+1)=((i+1:Nat):Int):=by omega
   rw [e]
   have e2:((if ok=true then some (decide ((1:Int)<=x))else some false).bind fun t=>(if t=true then some (decide (x<=(3:Int)))else some false).bind fun t1=>dQ n fu t1 ((i+1:Nat):Int))=dQ n fu (ok&&(decide (1<=x)&&decide (x<=3))) ((i+1:Nat):Int):=by
    cases ok<;>by_cases I:(1:Int)<=x<;>simp [I]
   rw [e2,ih (i+1) fu _ Z (by omega)]
   simp only [vu,BI]
 have hr:bk n a b=dQ n gi true (0:Int):=by unfold bk;rw [bE (by simp [hop])]
 rw [hr,show((0:Int))=((0:Nat):Int)from rfl,key n.Kinds 0 gi true rfl (ud (yY _) (i6 (by omega)))]
 unfold gn
 have hc:dX n.Kinds jH=some (n.Kinds.any fun k=> !(((k==(1:Int))||(k==(2:Int)))||(k==(3:Int)))):=p7 (fun v=>rfl) _
 rw [hc]
 simp only [bo]
 have e3:(!(n.Kinds.any fun k=> !(((k==(1:Int))||(k==(2:Int)))||(k==(3:Int)))))=n.Kinds.all fun k=>decide (1<=k)&&decide (k<=3):=by
  rw [List.not_any_eq_all_not]
  congr 1
  funext k
  rw [Bool.not_not,zn]
  simp;omega
 rw [e3]
 refine⟨n.Kinds,_,n.Kinds,?_,rfl,fun _=>rfl⟩
 cases h4:(n.Kinds.all fun k=>decide (1<=k)&&decide (k<=3))<;>by_cases t1:0<=n.Table<;>by_cases t2:n.Table<4<;>by_cases l1:(1:Int)<=(n.Kinds.length:Int)<;>by_cases l2:(n.Kinds.length:Int)<=4<;>simp [t1,t2,l1,l2]<;>omega
def Iy(c:au)(n:aa)(a b:List Int)(hn:cj n)(hop:n.Op=2)(ha:cU c.kinds n.A=some a)(V:cU c.kinds n.B=some b)(hal:a.length<=16)(hbl:b.length<=16):xq (gp c n) (bk n a b) true:=by
 unfold gp bk
 rw [ha,V,bn (by simp [hop]),bE (by simp [hop])]
 simp only [bo]
 rw [GZ _ _ (by omega) (by omega),cL (by simp;omega)]
 simp only [bo,je]
 rw [cL (by omega)]
 simp only [bo]
 rw [uB _ _ hn.cond,nW]
 exact⟨_,Bt n.Cond (a++b),_,by simp,rfl,fun _=>rfl⟩
def EU(c:au)(n:aa)(a b:List Int)(hn:cj n)(hop:n.Op=3)(ha:cU c.kinds n.A=some a):xq (fx c n) (bk n a b) true:=by
 unfold fx bk
 rw [ha,bn (by simp [hop]),bn (by simp [hop]),bE (by simp [hop])]
 simp only [bo]
 rw [uB _ _ hn.cond,nW]
 exact⟨_,Bt n.Cond a,_,by simp,rfl,fun _=>rfl⟩
def BF(c:au)(n:aa)(a b:List Int)(hop:n.Op=6)(ha:cU c.kinds n.A=some a):xq (eF c n) (bk n a b) true:=by
 unfold eF bk
 rw [ha,bn (by simp [hop]),bn (by simp [hop]),bn (by simp [hop]),bn (by simp [hop]),bn (by simp [hop]),bE (by simp [hop])]
 exact⟨_,true,_,rfl,rfl,fun _=>rfl⟩
def CS(c:au)(n:aa)(a b:List Int)(hn:cj n)(hop:n.Op=5)(ha:cU c.kinds n.A=some a):xq (fe c n) (bk n a b) true:=by
 have h:=hn.items
 have hr:bk n a b=dB n a gi [] true (0:Int):=by unfold bk;rw [bn (by simp [hop]),bn (by simp [hop]),bn (by simp [hop]),bn (by simp [hop]),bE (by simp [hop])]
 have key: ∀(tl:List ai) (i:Nat) (fu:Nat) (out:List Int) (ok:Bool),n.Items.drop i=tl->i+tl.length=n.Items.length->tl.length<fu->out.length=i->dB n a fu out ok (i:Int)=some (out++tl.map (fun e=>(hU e a).1),((ok&&tl.all fun e=>(hU e a).2==0)&&(decide ((1:Int)<=(n.Items.length:Int))))&&(decide ((n.Items.length:Int)<=(16:Int)))):=by
  intro tl
  induction tl with
  |nil=>
   intro i fu out ok hd hi X ho
   obtain⟨fu,rfl⟩: ∃k,fu=k+1:=⟨fu-1,by omega⟩
   simp only [pT,tZ]at hi
   rw [dB,bn (by simp;omega)]
   simp [ho,hi]
  |cons x tl ih=>
   intro i fu out ok hd hi X ho
   simp only [jv]at X hi
   obtain⟨fu,rfl⟩: ∃k,fu=k+1:=⟨fu-1,by omega⟩
   obtain⟨Y,J,Z⟩:=iL hd
   rw [dB,bE (by simp;omega),Y]
   simp only [bo]
   rw [mV]
   simp only [bo]
   rw [cL (by simp;omega),bH (by omega) (by omega)]
   simp only [bo]
   have e:((i:Int)+1)=((i+1:Nat):Int):=by omega
   rw [e,ih (i+1) fu _ _ Z (by omega) (by omega) (by simp [ho])]
   simp [BI]
 rw [hr,show((0:Int))=((0:Nat):Int)from rfl,key n.Items 0 gi [] true rfl (by simp) (ud (yY _) (i6 (by omega))) rfl]
 unfold fe
 have key2: ∀(tl:List ai) (out:List Int) (ok:Bool),(∀e∈tl,e.Nodes.length<=5000)->out.length+tl.length<=5000->eY c n tl out ok=some (out++tl.map (fun e=>(hU e a).1),ok&&tl.all fun e=>(hU e a).2==0):=by
  intro tl
  induction tl with
  |nil=>intro out ok _ _;simp [eY]
  |cons x tl ih=>
   intro out ok he hl
   simp only [jv]at hl
   rw [eY,ha]
   simp only [bo]
   rw [tp _ _ (by have:=he x (mp ..);omega)]
   simp only [bo]
   rw [cL (by simp;omega)]
   simp only [bo]
   rw [ih _ _ (fun e h=>he e (nu _ h)) (by simp;omega)]
   simp [BI]
 rw [key2 n.Items [] _ hn.exprs (by simp;omega)]
 refine⟨_,_,_,?_,rfl,fun _=>rfl⟩
 simp only [zw,yW]
 congr 2
 cases (n.Items.all fun e=>(hU e a).2==0)<;>simp
def OC(a:List Int)(e:Int):Int:=(a[e.toNat]?).getD 0
def CV(a:List Int)(e:Int):Bool:=decide (e<0)||decide ((a.length:Int)<=e)
def J7{a:List Int}{e:Int}(h:CV a e=false):cU a e=some (OC a e):=by
 simp [CV]at h
 rw [kg e.toNat (by omega),rg (by omega)]
 unfold OC
 rw [rg (by omega)];rfl
def Gl(c:au)(n:aa)(a b:List Int)(hn:cj n)(hop:n.Op=4)(ha:cU c.kinds n.A=some a):xq (fS c n) (bk n a b) true:=by
 have hK:=hn.keys
 have hA:=hn.aggs
 have hr:bk n a b=eU n a gi [] (0:Int):=by unfold bk;rw [bn (by simp [hop]),bn (by simp [hop]),bn (by simp [hop]),bE (by simp [hop])]
 have key3: ∀(tl:List gQ) (i:Nat) (fu:Nat) (out:List Int) (ok:Bool),n.Aggs.drop i=tl->i+tl.length=n.Aggs.length->tl.length<fu->out.length<=5000+i->eT n a fu out ok (i:Int)=some (out++tl.map (fun e=>(IR e a).1),(((ok&&tl.all fun e=>(IR e a).2)&&(decide ((n.Keys.length:Int)<=(3:Int))))&&(decide ((n.Aggs.length:Int)<=(12:Int))))&&(decide ((0:Int)<((out.length+tl.length:Nat):Int)))):=by
  intro tl
  induction tl with
  |nil=>
   intro i fu out ok hd hi X ho
   obtain⟨fu,rfl⟩: ∃k,fu=k+1:=⟨fu-1,by omega⟩
   simp only [pT,tZ]at hi
   rw [eT,bn (by simp;omega)]
   simp
  |cons x tl ih=>
   intro i fu out ok hd hi X ho
   simp only [jv]at X hi
   obtain⟨fu,rfl⟩: ∃k,fu=k+1:=⟨fu-1,by omega⟩
   obtain⟨Y,J,Z⟩:=iL hd
   rw [eT,bE (by simp;omega),Y]
   simp only [bo]
   rw [wd]
   simp only [bo]
   rw [cL (by simp;omega),bH (by omega) (by omega)]
   simp only [bo]
   have e:((i:Int)+1)=((i+1:Nat):Int):=by omega
   rw [e,ih (i+1) fu _ _ Z (by omega) (by omega) (by simp;omega)]
   simp only [py,vu,BI,jC,jO,jv,pT,xA,je]
   rw [show out.length+(0+1)+tl.length=out.length+(tl.length+1)from by omega]
 have key2: ∀(tl:List Int) (i:Nat) (fu:Nat) (out:List Int),n.Keys.drop i=tl->i+tl.length=n.Keys.length->tl.length<fu->out.length=i->eU n a fu out (i:Int)=if tl.any (CV a)then some ([],false)else eT n a gi (out++tl.map (OC a)) true 0:=by
  intro tl
  induction tl with
  |nil=>
   intro i fu out hd hi X ho
   obtain⟨fu,rfl⟩: ∃k,fu=k+1:=⟨fu-1,by omega⟩
   simp only [pT,tZ]at hi
   rw [eU,bn (by simp;omega)]
   simp
  |cons x tl ih=>
   intro i fu out hd hi X ho
   simp only [jv]at X hi
   obtain⟨fu,rfl⟩: ∃k,fu=k+1:=⟨fu-1,by omega⟩
   obtain⟨Y,J,Z⟩:=iL hd
   rw [eU,bE (by simp;omega),Y]
   simp only [bo]
   cases I:CV a x with
   |true=>
    have hx' :(decide (x<0)||decide ((a.length:Int)<=x))=true:=I
    rw [bE hx',bE (by simp [I])]
   |false=>
    have hx' : ¬(decide (x<0)||decide ((a.length:Int)<=x))=true:=by rw [show(decide (x<0)||decide ((a.length:Int)<=x))=CV a x from rfl,I];decide
    rw [bn hx',J7 I]
    simp only [bo]
    rw [cL (by simp;omega),bH (by omega) (by omega)]
    simp only [bo]
    have e:((i:Int)+1)=((i+1:Nat):Int):=by omega
    rw [e,ih (i+1) fu _ Z (by omega) (by omega) (by simp [ho])]
    simp [I]
 rw [hr,show((0:Int))=((0:Nat):Int)from rfl,key2 n.Keys 0 gi [] rfl (by simp) (ud (yY _) (i6 (by omega))) rfl]
 rw [show((0:Int))=((0:Nat):Int)from rfl,key3 n.Aggs 0 gi _ true rfl (by simp) (ud (yY _) (i6 (by omega))) (by simp;omega)]
 unfold fS
 rw [ha,bH (by omega) (by omega)]
 simp only [bo]
 have hp:qm n.Keys a=some (!(n.Keys.any (CV a))):=by
  unfold qm
  rw [p7 (f:=n8 a) (g:=CV a) (fun v=>rfl)]
  rfl
 rw [hp]
 simp only [bo,je,zp]
 have kl: ∀(tl:List gQ) (out:List Int) (ok:Bool),(∀e∈tl,e.Arg.Nodes.length<=5000)->out.length+tl.length<=10000->eE a tl out ok=some (out++tl.map (fun e=>(Jb e a).1),ok&&tl.all fun e=>(Jb e a).2):=by
  intro tl
  induction tl with
  |nil=>intro out ok _ _;simp [eE]
  |cons x tl ih=>
   intro out ok he hl
   simp only [jv]at hl
   rw [eE,C1 _ _ (he x (mp ..))]
   simp only [bo]
   rw [cL (by simp;omega)]
   simp only [bo]
   rw [ih _ _ (fun e h=>he e (nu _ h)) (by simp;omega)]
   simp [BI]
 have kl1: ∀(t:Bool) (tl out:List Int),tl.any (CV a)=false->out.length+tl.length<=5000->fK n a t tl out=eE a n.Aggs (out++tl.map (OC a)) t:=by
  intro t tl
  induction tl with
  |nil=>intro out _ _;simp [fK]
  |cons x tl ih=>
   intro out ho hl
   simp only [jv]at hl
   simp only [BH,yZ]at ho
   rw [fK,J7 ho.1]
   simp only [bo]
   rw [cL (by simp;omega)]
   simp only [bo]
   rw [ih _ ho.2 (by simp;omega)]
   simp
 have hall:(n.Aggs.all fun e=>(Jb e a).2)=n.Aggs.all fun e=>(IR e a).2:=by
  congr 1;funext e;exact(HH e a).1
 have hmap:(n.Aggs.all fun e=>(Jb e a).2)=true->n.Aggs.map (fun e=>(Jb e a).1)=n.Aggs.map fun e=>(IR e a).1:=by
  intro h
  exact Bn fun e he=>(HH e a).2 (jV.1 h e he)
 cases hany:n.Keys.any (CV a)with
 |true=>exact⟨[],false,[],by simp,by simp,fun _=>rfl⟩
 |false=>
  by_cases V:((n.Keys.length<=3/\n.Aggs.length<=12)/\0<n.Keys.length+n.Aggs.length)
  ·have hb' :(((decide ((n.Keys.length:Int)<=(3:Int)))&&(decide ((n.Aggs.length:Int)<=(12:Int))))&&(decide ((0:Int)<(n.Keys.length:Int)+(n.Aggs.length:Int))))=true:=by simp;omega
   simp only [hb',gu,zx,mq,jx,gE,bo]
   rw [kl1 true n.Keys [] hany (by simp;omega),kl n.Aggs _ true hn.args (by simp;omega)]
   refine⟨n.Keys.map (OC a)++n.Aggs.map (fun e=>(Jb e a).1),n.Aggs.all fun e=>(IR e a).2,n.Keys.map (OC a)++n.Aggs.map (fun e=>(IR e a).1),by simp [hall],?_,fun h=>?_⟩
   ·have Y:(decide ((n.Keys.length:Int)<=(3:Int)))=true:=by simp;omega
    have J:(decide ((n.Aggs.length:Int)<=(12:Int)))=true:=by simp;omega
    have Z:(decide ((0:Int)<((n.Keys.length+n.Aggs.length:Nat):Int)))=true:=by simp;omega
    simp only [Y,J,Z,zw,yW]
   ·rw [hmap (by rw [hall];exact h)]
  ·have hb' :(((decide ((n.Keys.length:Int)<=(3:Int)))&&(decide ((n.Aggs.length:Int)<=(12:Int))))&&(decide ((0:Int)<(n.Keys.length:Int)+(n.Aggs.length:Int))))=false:=by rw [Cy];simp;omega
   simp only [hb',gu,zx,jx,gE,bo]
   refine⟨[],false,n.Keys.map (OC a)++n.Aggs.map (fun e=>(IR e a).1),by simp,?_,by simp⟩
   have:((((true&&n.Aggs.all fun e=>(IR e a).2)&&(decide ((n.Keys.length:Int)<=(3:Int))))&&(decide ((n.Aggs.length:Int)<=(12:Int))))&&(decide ((0:Int)<((n.Keys.length+n.Aggs.length:Nat):Int))))=false:=by rw [Cy];simp;omega
   rw [this]
def Jp(x y:Int):Int:=if x=0 then y else x
def DO(p:Int×Int):Bool:=(p.2==Jp p.1 p.2)||p.2==0
def FI(c:au)(n:aa)(a b:List Int)(hop:n.Op=7)(ha:cU c.kinds n.A=some a)(V:cU c.kinds n.B=some b)(hal:a.length<=16):xq (fQ c n) (bk n a b) true:=by
 unfold fQ bk
 rw [ha,V,bn (by simp [hop]),bn (by simp [hop]),bn (by simp [hop]),bn (by simp [hop]),bn (by simp [hop]),bn (by simp [hop]),bE (by simp [hop])]
 simp only [bo]
 by_cases hl:a.length=b.length
 ·rw [bn (by simp;omega),bn (by simp;omega),oE _ (by omega)]
  simp only [bo]
  have kc: ∀(tl pre suf:List Int) (ok:Bool),suf.length=tl.length->dp tl pre.length (pre++suf) ok=some (pre++List.zipWith Jp suf tl,ok&&(suf.zip tl).all DO):=by
   intro tl
   induction tl with
   |nil=>
    intro pre suf ok h
    have:suf=[]:=vj h
    subst this
    simp [dp]
   |cons y tl ih=>
    intro pre suf ok h
    cases suf with
    |nil=>simp at h
    |cons x suf=>
     simp only [jv,Nat.add_right_cancel_iff]at h
     rw [dp,cI,qC (dr _),xz]
     simp only [Fw,bo]
     have step: ∀(z:Int),gK (dp tl) pre.length y ok (pre++z::suf)=some (pre++z::List.zipWith Jp suf tl,ok&&((z==y||y==0)&&(suf.zip tl).all DO)):=by
      intro z
      unfold gK
      rw [cI,qC (dr _),xz]
      simp only [Fw,bo]
      have e1:pre++z::suf=(pre++[z])++suf:=by simp
      have e2:pre.length+1=(pre++[z]).length:=by simp
      cases ok with
      |true=>
       simp only [gu,bo,yW]
       rw [e1,e2,ih (pre++[z]) suf _ h]
       simp
      |false=>
       simp only [jx,gE,bo,Bool.false_and]
       rw [e1,e2,ih (pre++[z]) suf _ h]
       simp
     by_cases I:x=0
     ·subst I
      rw [bE (by simp)]
      have e3:(pre++(0:Int)::suf).set ((pre.length:Int)).toNat y=pre++y::suf:=by
       rw [t8,List.set_append_right _ _ (dr _),xz];rfl
      rw [e3]
      refine(step y).trans ?_
      simp [DO,Jp]
     ·rw [bn (by simpa using I),step x]
      have:Jp x y=x:=by unfold Jp;rw [bn I]
      simp only [List.zipWith_cons_cons,List.zip_cons_cons,vu,DO,this]
      have e4:(y==x)=(x==y):=by rw [zn,tE,tE];exact eq_comm
      rw [e4]
  have kr: ∀(tl tb:List Int) (i:Nat) (out:List Int) (ok:Bool),b.drop i=tb->tl.length=tb.length->out.length+tl.length<=1000->jj b tl i out ok=some (out++List.zipWith Jp tl tb,ok&&(tl.zip tb).all DO):=by
   intro tl
   induction tl with
   |nil=>
    intro tb i out ok hd h _
    have:tb=[]:=vj h.symm
    subst this
    simp [jj]
   |cons x tl ih=>
    intro tb i out ok hd h hm
    cases tb with
    |nil=>simp at h
    |cons y tb=>
     simp only [jv,Nat.add_right_cancel_iff]at h hm
     obtain⟨Y,J,Z⟩:=iL hd
     rw [jj,Y]
     simp only [bo]
     have step: ∀z:Int,nX b (jj b tl) i out ok z=some (out++z::List.zipWith Jp tl tb,ok&&((y==z||y==0)&&(tl.zip tb).all DO)):=by
      intro z
      unfold nX
      rw [cL (by simp;omega),Y]
      simp only [bo]
      cases ok with
      |true=>
       simp only [gu,bo,yW]
       cases hyz:y==z with
       |true=>
        simp only [mq,jx,gE,bo]
        rw [ih tb (i+1) _ _ Z h (by simp;omega)]
        simp
       |false=>
        simp only [zx,gu,bo]
        rw [ih tb (i+1) _ _ Z h (by simp;omega)]
        simp
      |false=>
       simp only [jx,gE,bo,Bool.false_and]
       rw [ih tb (i+1) _ _ Z h (by simp;omega)]
       simp
     by_cases I:x=0
     ·subst I
      rw [bE (by simp),step y]
      simp [DO,Jp]
     ·rw [bn (by simpa using I),step x]
      have:Jp x y=x:=by unfold Jp;rw [bn I]
      simp only [List.zipWith_cons_cons,List.zip_cons_cons,vu,DO,this]
  have Y:=kc b [] a true hl
  rw [pT,je]at Y
  rw [Y,kr a b 0 [] true rfl hl (by simp;omega)]
  exact⟨_,_,_,by rw [zw],rfl,fun _=>rfl⟩
 ·rw [bE (by simp;omega),bE (by simp;omega)]
  exact⟨[],false,[],rfl,rfl,fun _=>rfl⟩
def F9(c:au)(n:aa)(a b:List Int)(hn:cj n)(hop:n.Op=8)(ha:cU c.kinds n.A=some a):xq (fR c n) (bk n a b) ((c.kinds.length:Int)==IntKind.i64.wrap ((c.Logic.Nodes.length:Int)-(1:Int))):=by
 have h:=hn.order
 have hr:bk n a b=dP n a gi true (0:Int):=by unfold bk;rw [bn (by simp [hop]),bn (by simp [hop]),bn (by simp [hop]),bn (by simp [hop]),bn (by simp [hop]),bn (by simp [hop]),bn (by simp [hop])]
 have key: ∀(tl:List jU) (i:Nat) (fu:Nat) (ok:Bool),n.Order.drop i=tl->i+tl.length=n.Order.length->tl.length<fu->dP n a fu ok (i:Int)=some (a,((((ok&&tl.all fun e=>decide (0<=e.Col)&&decide (e.Col<(a.length:Int)))&&(decide ((n.Order.length:Int)<=(3:Int))))&&(decide ((-1:Int)<=n.Limit)))&&(decide (n.Limit<=(2147483647:Int))))):=by
  intro tl
  induction tl with
  |nil=>
   intro i fu ok hd hi X
   obtain⟨fu,rfl⟩: ∃k,fu=k+1:=⟨fu-1,by omega⟩
   simp only [pT,tZ]at hi
   rw [dP,bn (by simp;omega)]
   simp
  |cons x tl ih=>
   intro i fu ok hd hi X
   simp only [jv]at X hi
   obtain⟨fu,rfl⟩: ∃k,fu=k+1:=⟨fu-1,by omega⟩
   obtain⟨Y,J,Z⟩:=iL hd
   rw [dP,bE (by simp;omega),Y,bH (by omega) (by omega)]
   simp only [bo]
   have e:((i:Int)+1)=((i+1:Nat):Int):=by omega
   rw [e]
   have e2:((if ok=true then some (decide ((0:Int)<=x.Col))else some false).bind fun t=>(if t=true then some (decide (x.Col<(a.length:Int)))else some false).bind fun t1=>dP n a fu t1 ((i+1:Nat):Int))=dP n a fu (ok&&(decide (0<=x.Col)&&decide (x.Col<(a.length:Int)))) ((i+1:Nat):Int):=by
    cases ok<;>by_cases I:(0:Int)<=x.Col<;>simp [I]
   rw [e2,ih (i+1) fu _ Z (by omega) (by omega)]
   simp only [vu,BI]
 rw [hr,show((0:Int))=((0:Nat):Int)from rfl,key n.Order 0 gi true rfl (by simp) (ud (yY _) (i6 (by omega)))]
 unfold fR
 rw [ha]
 simp only [bo]
 rw [vt (f:=ju a) (g:=fun o=>(decide (o.Col<(0:Int)))||(decide ((a.length:Int)<=o.Col))) (fun v=>rfl)]
 simp only [bo]
 have e3:(!(n.Order.any fun o=>(decide (o.Col<(0:Int)))||(decide ((a.length:Int)<=o.Col))))=n.Order.all fun e=>decide (0<=e.Col)&&decide (e.Col<(a.length:Int)):=by
  rw [List.not_any_eq_all_not]
  congr 1
  funext k
  rw [zn]
  simp
 rw [e3]
 refine⟨a,_,a,?_,rfl,fun _=>rfl⟩
 cases h4:(n.Order.all fun e=>decide (0<=e.Col)&&decide (e.Col<(a.length:Int)))<;>by_cases l1:(n.Order.length:Int)<=3<;>simp [l1]

def BZ(op:Int):Bool:=decide (1<=op)&&decide (op<=8)
def sI{op:Int}(h:BZ op=true):op=1\/op=2\/op=3\/op=4\/op=5\/op=6\/op=7\/op=8:=by
 simp [BZ]at h;omega
def xU(n:aa):Bool:=(sG n).getD false
def qk(n:aa):sG n=some (xU n):=by
 unfold xU sG
 repeat' split
 all_goals rfl
def RX(l:List α):((l.length:Int)==0)=l.isEmpty:=by cases l<;>simp<;>omega
def Oz(l:List α):decide ((0:Int)<(l.length:Int))= !l.isEmpty:=by cases l<;>simp<;>omega
def JI(n:aa)(h:BZ n.Op=true):((q0 n).bind fun r=>(qY r).bind fun r1=>some r1)=some (xU n):=by
 obtain⟨op,A,B,table,kinds,left,cond,keys,aggs,items,order,limit⟩:=n
 unfold xU sG q0 qY
 simp only [RX,Oz]
 rcases sI h with h|h|h|h|h|h|h|h<;>simp only at h<;>subst h<;>simp<;>(try (by_cases t:table=0<;>simp [t]))<;>(try (by_cases lm:limit=0<;>simp [lm]))<;>(try (cases left<;>simp))<;>(try (by_cases e1:kinds=[]<;>simp [e1]))<;>(try (by_cases e2:cond.Nodes=[]<;>simp [e2]))<;>(try (by_cases e3:keys=[]<;>simp [e3]))<;>(try (by_cases e4:aggs=[]<;>simp [e4]))<;>(try (by_cases e5:items=[]<;>simp [e5]))<;>(try (by_cases e6:order=[]<;>simp [e6]))
def Nw{β:Type}(f1 f2 f3 f4 f5 f6 f7 f8:β)(k:Int):n7 (eM (eM (eM (eM (eM (eM (eM (eM ([]:List (Int×β)) 1 f1) 2 f2) 3 f3) 4 f4) 5 f5) 6 f6) 7 f7) 8 f8) k=
  if k=1 then some f1 else if k=2 then some f2 else if k=3 then some f3 else if k=4 then some f4 else if k=5 then some f5 else if k=6 then some f6 else if k=7 then some f7 else if k=8 then some f8 else none:=by
 have e:eM (eM (eM (eM (eM (eM (eM (eM ([]:List (Int×β)) 1 f1) 2 f2) 3 f3) 4 f4) 5 f5) 6 f6) 7 f7) 8 f8=[(1,f1),(2,f2),(3,f3),(4,f4),(5,f5),(6,f6),(7,f7),(8,f8)]:=rfl
 rw [e]
 simp only [n7,eq_comm (b:=k)]
def Aw(op:Int):ry op=some (if op=1 then 0 else if op=2\/op=7 then 2 else 1):=by
 unfold ry n9
 by_cases Y:op=1
 ·simp [Y]
 by_cases J:op=2
 ·simp [J]
 by_cases h7:op=7
 ·simp [h7]
 simp [Y,J,h7]
def ka(op:Int):uu op=some (if op=1 then 0 else if op=2\/op=7 then 2 else if BZ op then 1 else -1):=by
 unfold uu qN j9
 by_cases h:BZ op=true
 ·rcases sI h with rfl|rfl|rfl|rfl|rfl|rfl|rfl|rfl<;>rfl
 ·have h' : ¬(1<=op/\op<=8):=fun hh=>h (by simp [BZ];omega)
  have Y: ¬op=1:=by omega
  have J: ¬op=2:=by omega
  have Z: ¬op=3:=by omega
  have h4: ¬op=4:=by omega
  have h5: ¬op=5:=by omega
  have h6: ¬op=6:=by omega
  have h7: ¬op=7:=by omega
  have h8: ¬op=8:=by omega
  simp [Y,J,Z,h4,h5,h6,h7,h8,h]
structure GV(l:aw)(j:Nat)(f:Int)(ks:List Int)(s:Nat):Prop where
 pos:1<=s
 le:s<=j+1
 fst:f=(j:Int)+1-(s:Int)
 size: ∀fu,j+1<fu->bW fu l (j:Int)=some (s:Int)
 len:ks.length<=16
 kinds: ∀fu,j+1<fu->cg fu l (j:Int)=some (ks,true)
structure Fv(l:aw)(i:Nat)(first:List Int)(kinds:List (List Int)):Prop where
 fl:first.length=i
 kl:kinds.length=i
 node: ∀j,j<i-> ∃f ks s,first[j]? =some f/\kinds[j]? =some ks/\GV l j f ks s
variable{first:List Int}
def Fv.push{kinds:List (List Int)}(h:Fv l i first kinds){f:Int}{ks:List Int}(hn:GV l i f ks s):Fv l (i+1) (first++[f]) (kinds++[ks]):=by
 refine⟨by simp [h.fl],by simp [h.kl],fun j hj=>?_⟩
 by_cases hji:j=i
 ·subst hji
  refine⟨f,ks,s,?_,?_,hn⟩
  ·rw [qC (by rw [h.fl];exact dr _),h.fl,xz];rfl
  ·rw [qC (by rw [h.kl];exact dr _),h.kl,xz];rfl
 ·obtain⟨f',ks',s',Y,J,Z⟩:=h.node j (by omega)
  exact⟨f',ks',s',by rw [vi (by rw [h.fl];omega)];exact Y,by rw [vi (by rw [h.kl];omega)];exact J,Z⟩
def HK(n:aa)(i:Nat):Prop:=
 (n.Op=1->n.A= -1/\n.B= -1)/\(n.Op≠1->0<i/\0<=n.A/\n.A<i)/\(n.Op=2\/n.Op=7->n.B=(i:Int)-1)/\(n.Op≠1->n.Op≠2->n.Op≠7->n.B= -1)
def sy(l:aw){fu:Nat}(X:0<fu){p:Int}(h:p<0):bW fu l p=some 0:=by
 obtain⟨fu,rfl⟩: ∃k,fu=k+1:=⟨fu-1,by omega⟩
 unfold bW
 rw [bE (by simp [h])]
def GM{kinds:List (List Int)}(hI:Fv l i first kinds)(hn:cU l.Nodes (i:Int)=some n)(hi:i<l.Nodes.length)(hl:l.Nodes.length<=1000)(hop:BZ n.Op=true):
  ∃f ok,iS ⟨l,kinds,first⟩ (i:Int)=some (f,ok)/\((ok=true/\ ∃s:Nat,1<=s/\s<=i+1/\f=(i:Int)+1-(s:Int)/\(∀fu,i+1<fu->bW fu l (i:Int)=some (s:Int))/\HK n i)\/(ok=false/\ ∀fu,i+1<fu->bW fu l (i:Int)=some 0)):=by
 have hstep: ∀fu,i+1<fu-> ∃fu',fu=fu' +1/\i<fu' :=fun fu h=>⟨fu-1,by omega,by omega⟩
 unfold iS
 simp only [hn,bo,Aw]
 by_cases Y:n.Op=1
 ·-- nothing below
  simp only [Y,gu]
  rw [bE (by decide)]
  refine⟨_,_,rfl,?_⟩
  by_cases hAB:n.A= -1/\n.B= -1
  ·refine .inl ⟨by simp [hAB],1,dr _,by omega,by omega,fun fu X=>?_,⟨fun _=>hAB,fun h=>absurd Y h,fun h=>by omega,fun h=>absurd Y h⟩⟩
   obtain⟨fu',rfl,_⟩:=hstep fu X
   unfold bW
   rw [bn (by simp;omega),hn]
   simp only [bo,ka,Y,gu]
   rw [bE (by decide),bE (by simp [hAB])];rfl
  ·have V:(n.A== -1&&n.B== -1)=false:=by rw [Cy];intro h;apply hAB;simpa using h
   refine .inr ⟨V,fun fu X=>?_⟩
   obtain⟨fu',rfl,_⟩:=hstep fu X
   unfold bW
   rw [bn (by simp;omega),hn]
   simp only [bo,ka,Y,gu]
   rw [bE (by decide),bn (by rw [V];decide)]
 ·by_cases h27:n.Op=2\/n.Op=7
  ·-- two below
   simp only [Y,h27,gu,gE]
   rw [bn (by decide),bn (by decide)]
   have hsz: ∀fu,i<fu->bW (fu+1) l (i:Int)=if n.B=(i:Int)-1 then((bW fu) l n.B).bind (fun r2=>if((decide ((0:Int)<r2))&&(n.A==(IntKind.i64.wrap (n.B-r2))))then(((bW fu) l n.A).bind fun r3=>if(decide ((0:Int)<r3))then(some (IntKind.i64.wrap ((IntKind.i64.wrap (r3+r2))+(1:Int))))else(some (0:Int)))else(some (0:Int)))else some 0:=by
    intro fu hfu
    conv=>lhs;unfold bW
    rw [bn (by simp;omega),hn]
    simp only [bo,ka,Y,h27,gu,gE]
    rw [bn (by decide),bn (by decide),bE (by decide),bH (n:=(i:Int)-1) (by omega) (by omega)]
    by_cases hB:n.B=(i:Int)-1
    ·rw [bE (by simp [hB]),bE hB]
    ·rw [bn (by simpa using hB),bn hB]
   by_cases hB:n.B=(i:Int)-1/\0<i
   ·have hcond:(!((n.B !=IntKind.i64.wrap ((i:Int)-1))||((i:Int)==0)))=true:=by
     rw [bH (by omega) (by omega)]
     have: ¬((i:Int)=0):=by omega
     simp [hB.1,this];omega
    rw [bE hcond]
    obtain⟨fB,kB,sB,g1,g2,g3⟩:=hI.node (i-1) (by omega)
    have hBi:n.B=((i-1:Nat):Int):=by omega
    have hidx:cU first n.B=some fB:=by rw [hBi,cI];exact g1
    rw [hidx]
    have hfB:=g3.fst
    have hsB:=g3.pos
    have hsB2:=g3.le
    simp only [bo]
    rw [bH (n:=fB-1) (by omega) (by omega)]
    by_cases hA:n.A=fB-1/\0<=n.A
    ·rw [bn (by simp [hA.1];omega)]
     obtain⟨fA,kA,sA,q1,q2,q3⟩:=hI.node n.A.toNat (by omega)
     have hidA:cU first n.A=some fA:=by
      rw [show n.A=((n.A.toNat:Nat):Int)from by omega,cI];exact q1
     rw [hidA]
     have hfA:=q3.fst
     have hsA:=q3.pos
     have hsA2:=q3.le
     refine⟨fA,true,rfl,.inl ⟨rfl,sA+sB+1,by omega,by omega,by omega,fun fu X=>?_,⟨fun h=>absurd h Y,fun _=>⟨hB.2,hA.2,by omega⟩,fun _=>hB.1,fun _ J h7=>by rcases h27 with h|h;exact absurd h J;exact absurd h h7⟩⟩⟩
     obtain⟨fu',rfl,hf'⟩:=hstep fu X
     rw [hsz fu' hf',bE hB.1]
     have e1:=g3.size fu' (by omega)
     rw [<-hBi]at e1
     rw [e1]
     simp only [bo]
     rw [bH (n:=n.B-(sB:Int)) (by omega) (by omega),bE (by simp;omega)]
     have e2:=q3.size fu' (by omega)
     rw [show((n.A.toNat:Nat):Int)=n.A from by omega]at e2
     rw [e2]
     simp only [bo]
     rw [bE (by simp;omega),bH (n:=(sA:Int)+(sB:Int)) (by omega) (by omega),bH (by omega) (by omega)]
     congr 1
    ·have V:(n.A !=fB-1||decide (n.A<0))=true:=by
      simp only [wB,ss,zy]
      by_cases h:n.A=fB-1
      ·exact .inr (by omega)
      ·exact .inl h
     rw [bE V]
     refine⟨0,false,rfl,.inr ⟨rfl,fun fu X=>?_⟩⟩
     obtain⟨fu',rfl,hf'⟩:=hstep fu X
     rw [hsz fu' hf',bE hB.1]
     have e1:=g3.size fu' (by omega)
     rw [<-hBi]at e1
     rw [e1]
     simp only [bo]
     rw [bH (n:=n.B-(sB:Int)) (by omega) (by omega)]
     by_cases h:n.A=fB-1
     ·rw [bE (by simp;omega),sy l (by omega) (by omega)]
      rfl
     ·rw [bn (by simp;omega)]
   ·have hcond:(!((n.B !=IntKind.i64.wrap ((i:Int)-1))||((i:Int)==0)))=false:=by
     rw [bH (by omega) (by omega)]
     by_cases h:n.B=(i:Int)-1
     ·have:i=0:=by omega
      simp [this]
     ·simp [h]
    rw [hcond]
    simp only [jx,gE,bo,Bool.true_or,gu]
    refine⟨0,false,rfl,.inr ⟨rfl,fun fu X=>?_⟩⟩
    obtain⟨fu',rfl,hf'⟩:=hstep fu X
    rw [hsz fu' hf']
    by_cases h:n.B=(i:Int)-1
    ·rw [bE h]
     rw [sy l (by omega) (by omega)]
     rfl
    ·rw [bn h]
  ·-- one below
   simp only [Y,h27,gE]
   rw [bn (by decide),bE (by decide)]
   have hsz: ∀fu,i<fu->bW (fu+1) l (i:Int)=if n.A=(i:Int)-1/\n.B= -1 then((bW fu) l n.A).bind (fun r1=>if(decide ((0:Int)<r1))then(some (IntKind.i64.wrap (r1+(1:Int))))else(some (0:Int)))else some 0:=by
    intro fu hfu
    conv=>lhs;unfold bW
    rw [bn (by simp;omega),hn]
    simp only [bo,ka,Y,h27,hop,gu,gE]
    rw [bn (by decide),bE (by decide),bH (n:=(i:Int)-1) (by omega) (by omega)]
    by_cases hB:n.A=(i:Int)-1/\n.B= -1
    ·rw [bE (by simp [hB]),bE hB]
    ·rw [bn (by simpa using hB),bn hB]
   rw [bH (by omega) (by omega)]
   by_cases hA:(n.A=(i:Int)-1/\n.B= -1)/\0<i
   ·rw [bn (by simp [hA.1];omega)]
    obtain⟨fA,kA,sA,g1,g2,g3⟩:=hI.node (i-1) (by omega)
    have hAi:n.A=((i-1:Nat):Int):=by omega
    have hidx:cU first n.A=some fA:=by rw [hAi,cI];exact g1
    rw [hidx]
    have hfA:=g3.fst
    have hsA:=g3.pos
    have hsA2:=g3.le
    refine⟨fA,true,rfl,.inl ⟨rfl,sA+1,by omega,by omega,by omega,fun fu X=>?_,⟨fun h=>absurd h Y,fun _=>⟨hA.2,by omega,by omega⟩,fun h=>absurd h h27,fun _ _ _=>hA.1.2⟩⟩⟩
    obtain⟨fu',rfl,hf'⟩:=hstep fu X
    rw [hsz fu' hf',bE hA.1]
    have e1:=g3.size fu' (by omega)
    rw [<-hAi]at e1
    rw [e1]
    simp only [bo]
    rw [bE (by simp;omega),bH (by omega) (by omega)]
    rfl
   ·have V:(n.A !=(i:Int)-1||n.B != -1||(i:Int)==0)=true:=by
     simp only [wB,ss,tE]
     by_cases h:n.A=(i:Int)-1
     ·by_cases h' :n.B= -1
      ·exact .inr (by omega)
      ·exact .inl (.inr h')
     ·exact .inl (.inl h)
    rw [bE V]
    refine⟨0,false,rfl,.inr ⟨rfl,fun fu X=>?_⟩⟩
    obtain⟨fu',rfl,hf'⟩:=hstep fu X
    rw [hsz fu' hf']
    by_cases h:n.A=(i:Int)-1/\n.B= -1
    ·rw [bE h,sy l (by omega) (by omega)]
     rfl
    ·rw [bn h]
def Gi{kinds:List (List Int)}(hI:Fv l i first kinds)(hn:cU l.Nodes (i:Int)=some n)(hl:l.Nodes.length<=1000)(hi:i<l.Nodes.length)(hs:1<=s)(hsz: ∀fu,i+1<fu->bW fu l (i:Int)=some (s:Int))(hp:HK n i)(ho:xU n=true)(hop:BZ n.Op=true):
  ∃a b,(n.Op≠1->cU kinds n.A=some a)/\(n.Op=2\/n.Op=7->cU kinds n.B=some b)/\a.length<=16/\b.length<=16/\ ∀fu,i+1<fu->cg fu l (i:Int)=f9 l (i:Int) n a b:=by
 obtain⟨p1,p2,p3,p4⟩:=hp
 have hsz0:gI l (i:Int)=some (s:Int):=hsz gi (ud (yY _) (i6 (by omega)))
 have hu: ∀fu,cg (fu+1) l (i:Int)=if(decide ((0:Int)<=n.A))then(((cg fu) l n.A).bind fun r4=>if(!r4.2)then(some ([],false))else(ee (cg fu) l (i:Int) n r4.1))else(ee (cg fu) l (i:Int) n ([])):=by
  intro fu
  conv=>lhs;unfold cg
  rw [hsz0,hn]
  simp only [bo,qk,ho]
  have: ¬(s=0):=by omega
  simp [this]
 by_cases Y:n.Op=1
 ·obtain⟨hA,hB⟩:=p1 Y
  refine⟨[],[],fun h=>absurd Y h,fun h=>by omega,by simp,by simp,fun fu X=>?_⟩
  obtain⟨fu,rfl⟩: ∃k,fu=k+1:=⟨fu-1,by omega⟩
  rw [hu,bn (by simp [hA])]
  unfold ee
  rw [bn (by simp [hB])]
 ·obtain⟨hi0,hA0,hAi⟩:=p2 Y
  obtain⟨fA,kA,sA,g1,g2,g3⟩:=hI.node n.A.toNat (by omega)
  have eA:((n.A.toNat:Nat):Int)=n.A:=by omega
  have hkA:cU kinds n.A=some kA:=by rw [<-eA,cI];exact g2
  by_cases h27:n.Op=2\/n.Op=7
  ·have hB:=p3 h27
   obtain⟨fB,kB,sB,q1,q2,q3⟩:=hI.node (i-1) (by omega)
   have eB:((i-1:Nat):Int)=n.B:=by omega
   have hkB:cU kinds n.B=some kB:=by rw [<-eB,cI];exact q2
   refine⟨kA,kB,fun _=>hkA,fun _=>hkB,g3.len,q3.len,fun fu X=>?_⟩
   obtain⟨fu,rfl⟩: ∃k,fu=k+1:=⟨fu-1,by omega⟩
   rw [hu,bE (by simpa using hA0)]
   have e1:=g3.kinds fu (by omega)
   rw [eA]at e1
   rw [e1]
   simp only [bo,mq,jx,gE]
   unfold ee
   rw [bE (by simp;omega)]
   have e2:=q3.kinds fu (by omega)
   rw [eB]at e2
   rw [e2]
   simp only [bo,mq,jx,gE]
  ·have hB:=p4 Y (fun h=>h27 (.inl h)) (fun h=>h27 (.inr h))
   refine⟨kA,[],fun _=>hkA,fun h=>absurd h h27,g3.len,by simp,fun fu X=>?_⟩
   obtain⟨fu,rfl⟩: ∃k,fu=k+1:=⟨fu-1,by omega⟩
   rw [hu,bE (by simpa using hA0)]
   have e1:=g3.kinds fu (by omega)
   rw [eA]at e1
   rw [e1]
   simp only [bo,mq,jx,gE]
   unfold ee
   rw [bn (by simp [hB])]
def Ay(hn:cU l.Nodes (i:Int)=some n)(hl:i<1000)(h:(∀fu,i+1<fu->bW fu l (i:Int)=some 0)\/((∃s:Int,∀fu,i+1<fu->bW fu l (i:Int)=some s)/\xU n=false)):pH l (i:Int)=some ([],false):=by
 have hF:i+1<gi:=ud (yY _) (i6 (by omega))
 have e:gi=(gi-1)+1:=by omega
 unfold pH
 rw [e]
 unfold cg gI
 rcases h with h|⟨⟨s,h⟩,ho⟩
 ·rw [h _ hF];simp
 ·rw [h _ hF,hn]
  simp only [bo,qk,ho]
  by_cases hs:s=0<;>simp [hs]

def fM(l:aw):Prop:= ∀n∈l.Nodes,cj n
abbrev RB:=au->aa->Option (((List Int)×Bool)×au)
def yJ:List (Int×RB):=(eM (eM (eM (eM (eM (eM (eM (eM ([]:List (Int×(au->aa->Option (((List Int)×Bool)×au)))) (1:Int) (fun(mc:au) (mx:aa)=>(gn mc mx).map fun mr=>(mr,mc))) (2:Int) (fun(mc:au) (mx:aa)=>(gp mc mx).map fun mr=>(mr,mc))) (3:Int) (fun(mc:au) (mx:aa)=>(fx mc mx).map fun mr=>(mr,mc))) (4:Int) (fun(mc:au) (mx:aa)=>(fS mc mx).map fun mr=>(mr,mc))) (5:Int) (fun(mc:au) (mx:aa)=>(fe mc mx).map fun mr=>(mr,mc))) (6:Int) (fun(mc:au) (mx:aa)=>(eF mc mx).map fun mr=>(mr,mc))) (7:Int) (fun(mc:au) (mx:aa)=>(fQ mc mx).map fun mr=>(mr,mc))) (8:Int) (fun(mc:au) (mx:aa)=>(fR mc mx).map fun mr=>(mr,mc)))
def JX(op:Int):(n7 yJ op).isSome=BZ op:=by
 unfold yJ
 rw [Nw]
 by_cases h:BZ op=true
 ·rw [h]
  rcases sI h with rfl|rfl|rfl|rfl|rfl|rfl|rfl|rfl<;>rfl
 ·rw [Cy.2 h]
  have h' : ¬(1<=op/\op<=8):=fun hh=>h (by simp [BZ];omega)
  have Y: ¬op=1:=by omega
  have J: ¬op=2:=by omega
  have Z: ¬op=3:=by omega
  have h4: ¬op=4:=by omega
  have h5: ¬op=5:=by omega
  have h6: ¬op=6:=by omega
  have h7: ¬op=7:=by omega
  have h8: ¬op=8:=by omega
  simp [Y,J,Z,h4,h5,h6,h7,h8]
def Iu(c:au)(n:aa)(a b:List Int)(hn:cj n)(hop:BZ n.Op=true)(ha:n.Op≠1->cU c.kinds n.A=some a)(V:n.Op=2\/n.Op=7->cU c.kinds n.B=some b)(hal:a.length<=16)(hbl:b.length<=16):
  ∃k o k',((n7 yJ n.Op).getD (fun _ _=>none)) c n=some ((k,o&&(if n.Op=8 then(c.kinds.length:Int)==IntKind.i64.wrap ((c.Logic.Nodes.length:Int)-(1:Int))else true)),c)/\bk n a b=some (k',o)/\(o=true->k=k'):=by
 have go: ∀(m:Option (List Int×Bool)) (last:Bool),xq m (bk n a b) last->((n7 yJ n.Op).getD (fun _ _=>none)) c n=m.map (fun mr=>(mr,c))->(if n.Op=8 then(c.kinds.length:Int)==IntKind.i64.wrap ((c.Logic.Nodes.length:Int)-(1:Int))else true)=last-> ∃k o k',((n7 yJ n.Op).getD (fun _ _=>none)) c n=some ((k,o&&(if n.Op=8 then(c.kinds.length:Int)==IntKind.i64.wrap ((c.Logic.Nodes.length:Int)-(1:Int))else true)),c)/\bk n a b=some (k',o)/\(o=true->k=k'):=by
  intro m last ⟨k,o,k',Y,J,Z⟩ he hl
  exact⟨k,o,k',by rw [he,Y,hl];rfl,J,Z⟩
 unfold yJ at go ⊢
 rw [Nw]at go ⊢
 rcases sI hop with h|h|h|h|h|h|h|h
 ·exact go _ _ (Ie c n a b hn h) (by simp [h]) (by simp [h])
 ·exact go _ _ (Iy c n a b hn h (ha (by omega)) (V (.inl h)) hal hbl) (by simp [h]) (by simp [h])
 ·exact go _ _ (EU c n a b hn h (ha (by omega))) (by simp [h]) (by simp [h])
 ·exact go _ _ (Gl c n a b hn h (ha (by omega))) (by simp [h]) (by simp [h])
 ·exact go _ _ (CS c n a b hn h (ha (by omega))) (by simp [h]) (by simp [h])
 ·exact go _ _ (BF c n a b h (ha (by omega))) (by simp [h]) (by simp [h])
 ·exact go _ _ (FI c n a b h (ha (by omega)) (V (.inr h)) hal) (by simp [h]) (by simp [h])
 ·exact go _ _ (F9 c n a b hn h (ha (by omega))) (by simp [h]) (by simp [h])
def Is{Sg:Type}(yld:(Int×Bool)->Sg->Option (Bool×Sg)){kinds:List (List Int)}(hI:Fv l i first kinds){tl:List aa}(hd:l.Nodes.drop i=n::tl)(hS:fM l)(hl:l.Nodes.length<=60)(st:Sg):
  ∃first' kinds' ok,bm yld (n::tl) i st ⟨l,kinds,first⟩=((yld ((i:Int),ok) st).bind fun r2=>if((!r2.1)||(!ok))then some (r2.2,⟨l,kinds',first'⟩)else bm yld tl (i+1) r2.2 ⟨l,kinds',first'⟩)/\(∃x,pH l (i:Int)=some (x,ok))/\(ok=true->Fv l (i+1) first' kinds'):=by
 obtain⟨hn,hi,_⟩:=iL hd
 have hfl:=hI.fl
 have hkl:=hI.kl
 have hSn:cj n:=hS n (by
  rw [cI]at hn
  exact sm hn)
 have hF:i+1<gi:=ud (yY _) (i6 (by omega))
 have hu:bm yld (n::tl) i st ⟨l,kinds,first⟩=(if(n7 yJ n.Op).isSome then((q0 n).bind fun r=>(qY r).bind fun r1=>some r1)else some false).bind fun t=>if t then((iS ⟨l,kinds,first⟩ (i:Int)).bind fun r4=>(jT first ([r4.1])).bind fun l7=>dT yld (bm yld tl) i n st r4.2 ⟨l,kinds,l7⟩)else(dT yld (bm yld tl) i n st t ⟨l,kinds,first⟩):=rfl
 rw [hu,JX]
 have hk2: ∀(ok1:Bool) (k:List Int) (f' :List Int),fL yld (bm yld tl) i st ok1 k ⟨l,kinds,f'⟩=((yld ((i:Int),ok1&&decide (k.length<=16)) st).bind fun r2=>if((!r2.1)||(!(ok1&&decide (k.length<=16))))then some (r2.2,⟨l,kinds++[k],f'⟩)else bm yld tl (i+1) r2.2 ⟨l,kinds++[k],f'⟩):=by
  intro ok1 k f'
  unfold fL
  rw [cL (by simp;omega)]
  have:decide ((k.length:Int)<=16)=decide (k.length<=16):=by rw [zn];simp;omega
  simp only [bo,this]
 have hk1: ∀(f' :List Int),dT yld (bm yld tl) i n st false ⟨l,kinds,f'⟩=((yld ((i:Int),false) st).bind fun r2=>if((!r2.1)||(!false))then some (r2.2,⟨l,kinds++[[]],f'⟩)else bm yld tl (i+1) r2.2 ⟨l,kinds++[[]],f'⟩):=by
  intro f'
  unfold dT
  rw [bn (by decide),hk2]
  rfl
 by_cases hop:BZ n.Op=true
 ·rw [bE hop,JI n hop]
  simp only [bo]
  obtain⟨f,ok,hb1,hb2⟩:=GM hI hn hi (by omega) hop
  cases ho:xU n with
  |false=>
   simp only [jx,gE]
   rw [hk1]
   refine⟨first,kinds++[[]],false,rfl,⟨[],Ay hn (by omega) (.inr ⟨?_,ho⟩)⟩,by simp⟩
   rcases hb2 with⟨_,s,_,_,_,h,_⟩|⟨_,h⟩
   ·exact⟨s,h⟩
   ·exact⟨0,h⟩
  |true=>
   simp only [gu]
   rw [hb1]
   simp only [bo]
   rw [cL (by simp;omega)]
   simp only [bo]
   rcases hb2 with⟨hok,s,hs,hs2,X,hsz,hp⟩|⟨hok,h⟩
   ·subst hok
    obtain⟨a,b,ha,V,hal,hbl,hK⟩:=Gi hI hn (by omega) hi hs hsz hp ho hop
    obtain⟨k,o,k',m1,m2,m3⟩:=Iu ⟨l,kinds,first++[f]⟩ n a b hSn hop ha V hal hbl
    have hk1' :dT yld (bm yld tl) i n st true ⟨l,kinds,first++[f]⟩=((((n7 yJ n.Op).getD (fun _ _=>none)) ⟨l,kinds,first++[f]⟩ n).bind fun r3=>fL yld (bm yld tl) i st r3.1.2 r3.1.1 r3.2):=rfl
    rw [hk1',m1]
    simp only [bo]
    rw [hk2]
    have hlast:((kinds.length:Int)==IntKind.i64.wrap ((l.Nodes.length:Int)-1))=((i:Int)==IntKind.i64.wrap ((l.Nodes.length:Int)-1)):=by rw [hkl]
    have hKk: ∀fu,i+1<fu-> ∃x,cg fu l (i:Int)=some (x,(o&&(if n.Op=8 then(kinds.length:Int)==IntKind.i64.wrap ((l.Nodes.length:Int)-(1:Int))else true))&&decide (k.length<=16))/\(((o&&(if n.Op=8 then(kinds.length:Int)==IntKind.i64.wrap ((l.Nodes.length:Int)-(1:Int))else true))&&decide (k.length<=16))=true->x=k):=by
     intro fu X
     rw [hK fu X]
     unfold f9
     rw [m2]
     simp only [bo]
     rw [hlast]
     cases o with
     |false=>
      simp only [Bool.false_and]
      split
      ·exact⟨_,rfl,by simp⟩
      ·exact⟨_,rfl,by simp⟩
     |true=>
      have:=m3 rfl
      subst this
      simp only [yW]
      by_cases h8:n.Op=8
      ·by_cases hL:(i:Int)=IntKind.i64.wrap ((l.Nodes.length:Int)-1)
       ·by_cases h16:k.length<=16
        ·rw [bn (by simp [<-hL];omega)]
         exact⟨k,by simp [h8,hL,h16],fun _=>rfl⟩
        ·rw [bE (by simp;omega)]
         exact⟨[],by simp [h16],by simp [h16]⟩
       ·rw [bE (by simp [h8,hL])]
        exact⟨[],by simp [h8,hL],by simp [h8,hL]⟩
      ·by_cases h16:k.length<=16
       ·rw [bn (by simp [h8];omega)]
        exact⟨k,by simp [h8,h16],fun _=>rfl⟩
       ·rw [bE (by simp;omega)]
        exact⟨[],by simp [h16],by simp [h16]⟩
    refine⟨first++[f],kinds++[k],_,rfl,?_,fun hok=>?_⟩
    ·obtain⟨x,Y,_⟩:=hKk gi hF
     exact⟨x,Y⟩
    ·refine hI.push (s:=s) ⟨hs,hs2,X,hsz,?_,fun fu hfu=>?_⟩
     ·simp at hok;exact hok.2
     ·obtain⟨x,Y,J⟩:=hKk fu hfu
      rw [Y,J hok,hok]
   ·subst hok
    rw [hk1]
    exact⟨first++[f],kinds++[[]],false,rfl,⟨[],Ay hn (by omega) (.inl h)⟩,by simp⟩
 ·rw [bn hop]
  simp only [bo,jx,gE]
  rw [hk1]
  refine⟨first,kinds++[[]],false,rfl,⟨[],Ay hn (by omega) (.inl fun fu X=>?_)⟩,by simp⟩
  obtain⟨fu,rfl⟩: ∃k,fu=k+1:=⟨fu-1,by omega⟩
  unfold bW
  rw [bn (by simp;omega),hn]
  simp only [bo,ka]
  have Y: ¬n.Op=1:=fun h=>hop (by rw [h];rfl)
  have J: ¬n.Op=2:=fun h=>hop (by rw [h];rfl)
  have h7: ¬n.Op=7:=fun h=>hop (by rw [h];rfl)
  simp [Y,J,h7,hop]
def LU(hS:fM l)(hl:l.Nodes.length<=60): ∀(tl:List aa) (i:Nat) (first:List Int) (kinds:List (List Int)),Fv l i first kinds->l.Nodes.drop i=tl->i+tl.length=l.Nodes.length->
  ∃st ob,bm (xm (fun x s=>m4 x s.1 s.2.1 s.2.2)) tl i (none,(false,(0:Int),false)) ⟨l,kinds,first⟩=some (st,ob)/\ob.Logic=l/\
   ((st=(none,(false,(0:Int),false))/\Fv l l.Nodes.length ob.first ob.kinds/\eV l tl i=eV l [] l.Nodes.length)\/(∃j:Nat,st=(some 0,(false,(j:Int),true))/\eV l tl i=some (j:Int))):=by
 intro tl
 induction tl with
 |nil=>
  intro i first kinds hI hd hi
  simp only [pT,tZ]at hi
  subst hi
  exact⟨_,_,rfl,rfl,.inl ⟨rfl,hI,rfl⟩⟩
 |cons n tl ih=>
  intro i first kinds hI hd hi
  simp only [jv]at hi
  obtain⟨f',k',ok,Y,⟨x,J⟩,Z⟩:=Is (xm (fun x s=>m4 x s.1 s.2.1 s.2.2)) hI hd hS hl (none,(false,(0:Int),false))
  rw [Y]
  have hW:eV l (n::tl) i=if(!ok)then some (i:Int)else eV l tl (i+1):=by
   conv=>lhs;unfold eV
   rw [J];rfl
  rw [hW]
  cases ok with
  |false=>exact⟨_,_,rfl,rfl,.inr ⟨i,rfl,rfl⟩⟩
  |true=>
   obtain⟨st,ob,g1,g2,g3⟩:=ih (i+1) f' k' (Z rfl) (iL hd).2.2 (by omega)
   refine⟨st,ob,?_,g2,?_⟩
   ·exact g1
   ·simpa using g3
def Fv.nil(l:aw):Fv l 0 [] []:=⟨rfl,rfl,fun j h=>absurd h (Nat.not_lt_zero _)⟩
structure GW(l:aw)(ob:au):Prop where
 logic:ob.Logic=l
 pos:1<=l.Nodes.length
 le:l.Nodes.length<=60
 inv:Fv l l.Nodes.length ob.first ob.kinds
 whole:gI l ((l.Nodes.length:Int)-1)=some (l.Nodes.length:Int)
def LV(hS:fM l): ∃ob j ok,lY l=some (ob,j,ok)/\pG l=some (if ok then -1 else j)/\(0<=j)/\(ok=true->GW l ob/\j=(l.Nodes.length:Int)-1):=by
 unfold lY pG
 by_cases h:l.Nodes.length<1\/60<l.Nodes.length
 ·rw [bE (by simp;omega),bE (by simp;omega)]
  exact⟨_,_,_,rfl,rfl,Int.le_refl _,by simp⟩
 ·rw [bn (by simp;omega),bn (by simp;omega)]
  unfold oa
  simp only [bo]
  unfold j5
  obtain⟨st,ob,Y,J,Z⟩:=LU hS (by omega) l.Nodes 0 [] [] (Fv.nil l) rfl (by simp)
  have h1' :bm (xm (fun x s=>m4 x s.1 s.2.1 s.2.2)) (⟨l,[],[]⟩:au).Logic.Nodes 0 (none,(false,(0:Int),false)) ⟨l,[],[]⟩=some (st,ob):=Y
  rw [h1']
  simp only [bo]
  rcases Z with⟨rfl,hI,hW⟩|⟨j,rfl,hW⟩
  ·simp only [Option.isNone_none,gu]
   rw [bH (by omega) (by omega)]
   obtain⟨f,ks,s,g1,g2,g3⟩:=hI.node (l.Nodes.length-1) (by omega)
   have e:((l.Nodes.length-1:Nat):Int)=(l.Nodes.length:Int)-1:=by omega
   have hid:cU ob.first ((l.Nodes.length:Int)-1)=some f:=by rw [<-e,cI];exact g1
   rw [hid]
   simp only [bo]
   have hsz:gI l ((l.Nodes.length:Int)-1)=some (s:Int):=by
    have:=g3.size gi (ud (yY _) (i6 (by omega)))
    rw [e]at this;exact this
   have X:=g3.fst
   refine⟨_,_,_,rfl,?_,by omega,fun hok=>?_⟩
   ·rw [hW]
    unfold eV
    rw [bH (by omega) (by omega),hsz]
    simp only [bo]
    by_cases hs:s=l.Nodes.length
    ·rw [bn (by simp [hs]),bE (by simp;omega)]
    ·rw [bE (by simp;omega),bn (by simp;omega)]
   ·have hs:s=l.Nodes.length:=by simp at hok;omega
    exact⟨⟨J,by omega,by omega,hI,by rw [hsz,hs]⟩,rfl⟩
  ·simp only [Option.isNone_some,jx,gE]
   refine⟨ob,(j:Int),false,rfl,by rw [hW];rfl,by omega,by simp⟩

def od{n:Nat}(h:n<=900000):n<gi:=ud (yY _) (i6 (by omega))
def tQ(d x:Int):Int:=if 0<=x then IntKind.i64.wrap (x+d)else x
def oO(d:Int)(n:aa):aa:={n with A:=tQ d n.A,B:=tQ d n.B}
def cj.sh(h:cj n)(d:Int):cj (oO d n):=⟨h.cond,h.kinds,h.keys,h.aggs,h.items,h.order,h.args,h.exprs⟩
def cj.at(h:cj n)(a b:Int):cj {n with A:=a,B:=b}:=⟨h.cond,h.kinds,h.keys,h.aggs,h.items,h.order,h.args,h.exprs⟩
def Bv(n:aa)(d:Int):we n d=some (oO d n):=by
 unfold we rZ rY oO tQ
 by_cases hA:0<=n.A<;>by_cases hB:0<=n.B<;>simp [hA,hB]
def set_same{e:α}(h:xs[i]? =some e):xs.set i e=xs:=by
 apply BM
 intro j
 rw [List.getElem?_set]
 split
 ·rename_i hj;subst hj
  split
  ·exact h.symm
  ·rename_i J;rw [zz (by omega)]
 ·rfl
def qp(h:cj n):lc n=some n:=by
 have hK:=h.kinds
 have hk:=h.keys
 have hA:=h.aggs
 have hI:=h.items
 have hO:=h.order
 have hc:=h.cond
 have hcl: ∀{l:List aj},l.length<=5000->aX l=some l:=fun{l} hl=>by
  unfold aX;rw [cL (by simp;omega)];rfl
 unfold lc
 rw [oE _ (by omega),oE _ (by omega)]
 simp only [bo]
 have e1:dM n.Order=some n.Order:=by unfold dM;rw [cL (by simp;omega)];rfl
 rw [e1]
 simp only [bo]
 rw [hcl hc]
 simp only [bo]
 have e2:eP n.Aggs=some n.Aggs:=by unfold eP;rw [cL (by simp;omega)];rfl
 rw [e2]
 simp only [bo]
 have e3:ce n.Items=some n.Items:=by unfold ce;rw [cL (by simp;omega)];rfl
 rw [e3]
 simp only [bo]
 have key2: ∀(tl:List ai) (i:Nat),n.Items.drop i=tl->(∀e∈tl,e.Nodes.length<=5000)->k6 tl i n=some n:=by
  intro tl
  induction tl with
  |nil=>intro i _ _;rfl
  |cons x tl ih=>
   intro i hd hs
   obtain⟨Y,J,Z⟩:=iL hd
   unfold k6
   rw [Y]
   simp only [bo]
   rw [hcl (hs x (mp ..))]
   simp only [bo,t8]
   rw [cI]at Y
   have e4:n.Items.set i ({x with Nodes:=x.Nodes}:ai)=n.Items:=set_same Y
   rw [e4]
   exact ih (i+1) Z (fun e he=>hs e (nu _ he))
 have key1: ∀(tl:List gQ) (i:Nat),n.Aggs.drop i=tl->(∀e∈tl,e.Arg.Nodes.length<=5000)->k7 tl i n=some n:=by
  intro tl
  induction tl with
  |nil=>intro i _ _;exact key2 n.Items 0 rfl h.exprs
  |cons x tl ih=>
   intro i hd hs
   obtain⟨Y,J,Z⟩:=iL hd
   unfold k7
   rw [Y]
   simp only [bo]
   rw [hcl (hs x (mp ..))]
   simp only [bo,t8]
   rw [cI]at Y
   have e4:n.Aggs.set i ({x with Arg:=({x.Arg with Nodes:=x.Arg.Nodes}:ai)}:gQ)=n.Aggs:=set_same Y
   rw [e4]
   exact ih (i+1) Z (fun e he=>hs e (nu _ he))
 exact key1 n.Aggs 0 rfl h.args
def pW(h:cj n)(d:Int):mA n d=some (oO d n):=by
 unfold mA nd oO tQ
 by_cases hA:0<=n.A<;>by_cases hB:0<=n.B
 ·rw [bE (by simpa using hA),bE (by simpa using hB),bE hA,bE hB]
  exact qp (h.at _ _)
 ·rw [bE (by simpa using hA),bn (by simpa using hB),bE hA,bn hB]
  exact qp (h.at _ _)
 ·rw [bn (by simpa using hA),bE (by simpa using hB),bn hA,bE hB]
  exact qp (h.at _ _)
 ·rw [bn (by simpa using hA),bn (by simpa using hB),bn hA,bn hB]
  exact qp (h.at _ _)
def bS(l:aw):Bool:=decide ((pG l).getD 0<0)
def pE(h:fM l):yD l=some (bS l)/\(∃j,kG l=some (if bS l then(0,0)else(j,230)))/\(∃ob j,lY l=some (ob,j,bS l)/\(bS l=true->GW l ob/\j=(l.Nodes.length:Int)-1)):=by
 obtain⟨ob,j,ok,Y,J,Z,h4⟩:=LV h
 have e:bS l=ok:=by
  unfold bS
  rw [J]
  cases ok<;>simp<;>omega
 refine⟨?_,⟨j,?_⟩,ob,j,?_⟩
 ·unfold yD bS
  rw [J];rfl
 ·unfold kG
  rw [Y,e]
  cases ok<;>rfl
 ·rw [e]
  exact⟨Y,h4⟩
def zX(hA:n.A<=100000)(hB:n.B<=100000):oO 0 n=n:=by
 have h: ∀x:Int,x<=100000->tQ 0 x=x:=by
  intro x I
  unfold tQ
  by_cases h:0<=x
  ·rw [bE h,Int.add_zero,bH (by omega) (by omega)]
  ·rw [bn h]
 unfold oO
 rw [h _ hA,h _ hB]
def CZ{d:Int}{ns:List aa}(h: ∀n∈ns,cj n): ∀n∈ns.map (oO d),cj n:=by
 intro n hn
 obtain⟨m,hm,rfl⟩:=rQ.1 hn
 exact(h m hm).sh d

structure uN(l:aw)(sz:Nat->Nat)(ks:Nat->List Int)(j:Nat)(n:aa):Prop where
 node:cU l.Nodes (j:Int)=some n
 op:BZ n.Op=true
 own:xU n=true
 lf:n.Op=1->n.A= -1/\n.B= -1/\sz j=1
 un:n.Op≠1->n.Op≠2->n.Op≠7->0<j/\n.A=(j:Int)-1/\n.B= -1/\sz j=sz (j-1)+1
 bi:n.Op=2\/n.Op=7->0<j/\n.B=(j:Int)-1/\sz (j-1)<j/\n.A=(j:Int)-1-(sz (j-1):Int)/\sz j=sz (j-1-sz (j-1))+sz (j-1)+1
 kinds:bk n (if n.A<0 then []else ks n.A.toNat) (if n.B<0 then []else ks n.B.toNat)=some (ks j,true)
 last:n.Op=8->j+1=l.Nodes.length
 len:(ks j).length<=16
 pos:1<=sz j
 le:sz j<=j+1
def BW(hn:cU l.Nodes (j:Int)=some n)(hj:j<l.Nodes.length)(hl:l.Nodes.length<=1000)(fu:Nat):bW (fu+1) l (j:Int)=
  if n.Op=1 then(if n.A= -1/\n.B= -1 then some 1 else some 0)
  else if n.Op=2\/n.Op=7 then(if n.B=(j:Int)-1 then((bW fu) l n.B).bind (fun r2=>if((decide ((0:Int)<r2))&&(n.A==(IntKind.i64.wrap (n.B-r2))))then(((bW fu) l n.A).bind fun r3=>if(decide ((0:Int)<r3))then(some (IntKind.i64.wrap ((IntKind.i64.wrap (r3+r2))+(1:Int))))else(some (0:Int)))else(some (0:Int)))else some 0)
  else if BZ n.Op=true then(if n.A=(j:Int)-1/\n.B= -1 then((bW fu) l n.A).bind (fun r1=>if(decide ((0:Int)<r1))then(some (IntKind.i64.wrap (r1+(1:Int))))else(some (0:Int)))else some 0)
  else some 0:=by
 conv=>lhs;unfold bW
 rw [bn (by simp;omega),hn]
 simp only [bo,ka]
 by_cases Y:n.Op=1
 ·simp only [Y,gu]
  rw [bE (by decide)]
  by_cases hAB:n.A= -1/\n.B= -1
  ·rw [bE hAB,bE (by simp [hAB])]
  ·rw [bn hAB,bn (by simpa using hAB)]
 by_cases h27:n.Op=2\/n.Op=7
 ·simp only [Y,h27,gu,gE]
  rw [bn (by decide),bn (by decide),bE (by decide),bH (n:=(j:Int)-1) (by omega) (by omega)]
  by_cases hB:n.B=(j:Int)-1
  ·rw [bE (by simp [hB]),bE hB]
  ·rw [bn (by simpa using hB),bn hB]
 by_cases hop:BZ n.Op=true
 ·simp only [Y,h27,hop,gu,gE]
  rw [bn (by decide),bE (by decide),bH (n:=(j:Int)-1) (by omega) (by omega)]
  by_cases hB:n.A=(j:Int)-1/\n.B= -1
  ·rw [bE (by simp [hB]),bE hB]
  ·rw [bn (by simpa using hB),bn hB]
 ·simp only [Y,h27,hop,gE]
  rw [bn (by decide),bn (by decide),bn (by decide)]
  rfl
def xa{s:Int}(hn:cU l.Nodes (j:Int)=some n)(hs:gI l (j:Int)=some s)(hs0:s≠0)(ho:xU n=true)(fu:Nat):cg (fu+1) l (j:Int)=if(decide ((0:Int)<=n.A))then(((cg fu) l n.A).bind fun r4=>if(!r4.2)then(some ([],false))else(ee (cg fu) l (j:Int) n r4.1))else(ee (cg fu) l (j:Int) n ([])):=by
 conv=>lhs;unfold cg
 rw [hs,hn]
 simp only [bo,qk,ho]
 have:(s==0)=false:=by simpa using hs0
 simp [this]
def vS(first:List Int)(j:Nat):Nat:=((j:Int)+1-(first[j]?).getD 0).toNat
def Ew(kinds:List (List Int))(j:Nat):List Int:=(kinds[j]?).getD []
def Fv.at{kinds:List (List Int)}(h:Fv l i first kinds)(hj:j<i):GV l j ((j:Int)+1-(vS first j:Int)) (Ew kinds j) (vS first j)/\first[j]? =some ((j:Int)+1-(vS first j:Int)):=by
 obtain⟨f,k,s,Y,J,Z⟩:=h.node j hj
 have e1:Ew kinds j=k:=by unfold Ew;rw [J];rfl
 have X:=Z.fst
 have hp:=Z.pos
 have e2:vS first j=s:=by unfold vS;rw [Y];simp only [BK];omega
 rw [e1,e2,<-X]
 exact⟨Z,Y⟩
def EX{kinds:List (List Int)}(hI:Fv l l.Nodes.length first kinds)(hl:l.Nodes.length<=60)(hj:j<l.Nodes.length): ∃n,uN l (vS first) (Ew kinds) j n:=by
 obtain⟨N0,_⟩:=hI.at hj
 have hn:cU l.Nodes (j:Int)=some l.Nodes[j]:=by rw [cI,rg hj]
 obtain⟨n,hnn⟩: ∃n,n=l.Nodes[j]:=⟨_,rfl⟩
 rw [<-hnn]at hn
 have hpos:=N0.pos
 have hsz:=N0.size (j+3) (by omega)
 rw [BW hn hj (by omega)]at hsz
 have hnone: ∀{x:Int},x=0-> ¬(some x=some (vS first j:Int)):=by
  intro x I h
  injection h with h
  omega
 -- the places
 have P:BZ n.Op=true/\(n.Op=1->n.A= -1/\n.B= -1/\vS first j=1)/\(n.Op≠1->n.Op≠2->n.Op≠7->0<j/\n.A=(j:Int)-1/\n.B= -1/\vS first j=vS first (j-1)+1)/\(n.Op=2\/n.Op=7->0<j/\n.B=(j:Int)-1/\vS first (j-1)<j/\n.A=(j:Int)-1-(vS first (j-1):Int)/\vS first j=vS first (j-1-vS first (j-1))+vS first (j-1)+1):=by
  by_cases Y:n.Op=1
  ·rw [bE Y]at hsz
   by_cases hAB:n.A= -1/\n.B= -1
   ·rw [bE hAB]at hsz
    injection hsz with hsz
    exact⟨by rw [Y];rfl,fun _=>⟨hAB.1,hAB.2,by omega⟩,fun h=>absurd Y h,fun h=>by omega⟩
   ·rw [bn hAB]at hsz;exact absurd hsz (hnone rfl)
  rw [bn Y]at hsz
  by_cases h27:n.Op=2\/n.Op=7
  ·rw [bE h27]at hsz
   by_cases hB:n.B=(j:Int)-1
   ·rw [bE hB]at hsz
    by_cases hj0:j=0
    ·rw [sy l (by omega) (by omega)]at hsz
     exact absurd hsz (hnone rfl)
    ·obtain⟨NB,_⟩:=hI.at (j:=j-1) (by omega)
     have eB:((j-1:Nat):Int)=n.B:=by omega
     have hszB:=NB.size (j+2) (by omega)
     have hpB:=NB.pos
     have hlB:=NB.le
     rw [eB]at hszB
     rw [hszB]at hsz
     simp only [bo]at hsz
     rw [bH (n:=n.B-_) (by omega) (by omega)]at hsz
     by_cases hA:n.A=n.B-(vS first (j-1):Int)
     ·rw [bE (by simp [hA];omega)]at hsz
      by_cases hA0:n.A<0
      ·rw [sy l (by omega) hA0]at hsz
       exact absurd hsz (hnone rfl)
      ·obtain⟨NA,_⟩:=hI.at (j:=j-1-vS first (j-1)) (by omega)
       have eA:((j-1-vS first (j-1):Nat):Int)=n.A:=by omega
       have hszA:=NA.size (j+2) (by omega)
       have hpA:=NA.pos
       have hlA:=NA.le
       rw [eA]at hszA
       rw [hszA]at hsz
       simp only [bo]at hsz
       rw [bE (by simp;omega),bH (n:=(vS first (j-1-vS first (j-1)):Int)+(vS first (j-1):Int)) (by omega) (by omega),bH (by omega) (by omega)]at hsz
       injection hsz with hsz
       refine⟨?_,fun h=>absurd h Y,fun _ J h7=>by rcases h27 with h|h;exact absurd h J;exact absurd h h7,fun _=>⟨by omega,hB,by omega,by omega,by omega⟩⟩
       rcases h27 with h|h<;>rw [h]<;>rfl
     ·rw [bn (by simp;intro _;exact hA)]at hsz
      exact absurd hsz (hnone rfl)
   ·rw [bn hB]at hsz;exact absurd hsz (hnone rfl)
  rw [bn h27]at hsz
  by_cases hop:BZ n.Op=true
  ·rw [bE hop]at hsz
   by_cases hA:n.A=(j:Int)-1/\n.B= -1
   ·rw [bE hA]at hsz
    by_cases hj0:j=0
    ·rw [sy l (by omega) (by omega)]at hsz
     exact absurd hsz (hnone rfl)
    ·obtain⟨NA,_⟩:=hI.at (j:=j-1) (by omega)
     have eA:((j-1:Nat):Int)=n.A:=by omega
     have hszA:=NA.size (j+2) (by omega)
     have hpA:=NA.pos
     have hlA:=NA.le
     rw [eA]at hszA
     rw [hszA]at hsz
     simp only [bo]at hsz
     rw [bE (by simp;omega),bH (by omega) (by omega)]at hsz
     injection hsz with hsz
     exact⟨hop,fun h=>absurd h Y,fun _ _ _=>⟨by omega,hA.1,hA.2,by omega⟩,fun h=>absurd h h27⟩
   ·rw [bn hA]at hsz;exact absurd hsz (hnone rfl)
  ·rw [bn hop]at hsz;exact absurd hsz (hnone rfl)
 obtain⟨p0,p1,p2,p3⟩:=P
 -- what it has of its own, and its kinds
 have hk:=N0.kinds (j+3) (by omega)
 have hszR:gI l (j:Int)=some (vS first j:Int):=N0.size gi (od (by omega))
 have ho:xU n=true:=by
  cases ho:xU n with
  |true=>rfl
  |false=>
   exfalso
   unfold cg at hk
   rw [hszR,hn]at hk
   simp only [bo,qk,ho]at hk
   have: ¬(vS first j=0):=by omega
   simp [this]at hk
 have hpl:n.A<(j:Int)/\n.B<(j:Int):=by
  by_cases Y:n.Op=1
  ·obtain⟨a,b,_⟩:=p1 Y;omega
  by_cases h27:n.Op=2\/n.Op=7
  ·obtain⟨a,b,c,d,_⟩:=p3 h27;omega
  ·obtain⟨a,b,c,_⟩:=p2 Y (fun h=>h27 (.inl h)) (fun h=>h27 (.inr h));omega
 rw [xa hn hszR (by omega) ho]at hk
 have hkA: ∀(p:Int),0<=p->p<(j:Int)->cg (j+2) l p=some (Ew kinds p.toNat,true):=by
  intro p hp0 hpj
  obtain⟨NA,_⟩:=hI.at (j:=p.toNat) (by omega)
  have:=NA.kinds (j+2) (by omega)
  rw [show((p.toNat:Nat):Int)=p from by omega]at this
  exact this
 have hk1: ∀a,ee (cg (j+2)) l (j:Int) n a=f9 l (j:Int) n a (if n.B<0 then []else Ew kinds n.B.toNat):=by
  intro a
  unfold ee
  by_cases hB:0<=n.B
  ·rw [bE (by simpa using hB),hkA n.B hB hpl.2,bn (by omega)]
   rfl
  ·rw [bn (by simpa using hB),bE (by omega)]
 have hk2:f9 l (j:Int) n (if n.A<0 then []else Ew kinds n.A.toNat) (if n.B<0 then []else Ew kinds n.B.toNat)=some (Ew kinds j,true):=by
  by_cases hA:0<=n.A
  ·rw [bE (by simpa using hA),hkA n.A hA hpl.1]at hk
   simp only [bo,mq,jx,gE]at hk
   rw [hk1]at hk
   rw [bn (show¬n.A<0 by omega)]
   exact hk
  ·rw [bn (by simpa using hA),hk1]at hk
   rw [bE (show n.A<0 by omega)]
   exact hk
 unfold f9 at hk2
 cases hr:bk n (if n.A<0 then []else Ew kinds n.A.toNat) (if n.B<0 then []else Ew kinds n.B.toNat)with
 |none=>rw [hr]at hk2;cases hk2
 |some r=>
  rw [hr]at hk2
  simp only [bo]at hk2
  split at hk2
  ·simp at hk2
  ·rename_i hc
   injection hk2 with hk2
   injection hk2 with e1 e2
   refine⟨n,hn,p0,ho,p1,p2,p3,?_,fun h8=>?_,N0.len,N0.pos,N0.le⟩
   ·rw [hr,<-e1,<-e2]
   ·simp only [wB,jX,tE,ss,zy,not_or,not_and,Decidable.not_not]at hc
    have:=hc.1 h8
    rw [bH (by omega) (by omega)]at this
    omega
def ID{sz:Nat->Nat}{ks:Nat->List Int}{m:Nat}(hl:l.Nodes.length<=60)(hm:m<=l.Nodes.length)(h: ∀j,j<m-> ∃n,uN l sz ks j n): ∀(j:Nat),j<m->(∀fu,j+1<fu->bW fu l (j:Int)=some (sz j:Int))/\ ∀fu,j+1<fu->cg fu l (j:Int)=some (ks j,true):=by
 intro j
 induction j using Nat.strongRecOn with
 |ind j ih=>
  intro hj
  obtain⟨n,F⟩:=h j hj
  have hpl:n.A<(j:Int)/\n.B<(j:Int):=by
   by_cases Y:n.Op=1
   ·obtain⟨a,b,_⟩:=F.lf Y;omega
   by_cases h27:n.Op=2\/n.Op=7
   ·obtain⟨a,b,c,d,_⟩:=F.bi h27;omega
   ·obtain⟨a,b,c,_⟩:=F.un Y (fun h=>h27 (.inl h)) (fun h=>h27 (.inr h));omega
  have hS: ∀fu,j+1<fu->bW fu l (j:Int)=some (sz j:Int):=by
   intro fu X
   obtain⟨fu,rfl⟩: ∃k,fu=k+1:=⟨fu-1,by omega⟩
   rw [BW F.node (by omega) (by omega)]
   by_cases Y:n.Op=1
   ·obtain⟨a,b,c⟩:=F.lf Y
    rw [bE Y,bE ⟨a,b⟩,c];rfl
   rw [bn Y]
   by_cases h27:n.Op=2\/n.Op=7
   ·obtain⟨a,b,c,d,e⟩:=F.bi h27
    obtain⟨nB,FB⟩:=h (j-1) (by omega)
    obtain⟨nA,FA⟩:=h (j-1-sz (j-1)) (by omega)
    have hB:=(ih (j-1) (by omega) (by omega)).1 fu (by omega)
    have hA:=(ih (j-1-sz (j-1)) (by omega) (by omega)).1 fu (by omega)
    rw [show((j-1:Nat):Int)=n.B from by omega]at hB
    rw [show((j-1-sz (j-1):Nat):Int)=n.A from by omega]at hA
    have q1:=FB.pos
    have q2:=FB.le
    have q3:=FA.pos
    have q4:=FA.le
    rw [bE h27,bE b,hB]
    simp only [bo]
    rw [bH (n:=n.B-_) (by omega) (by omega),bE (by simp;omega),hA]
    simp only [bo]
    rw [bE (by simp;omega),bH (n:=(sz (j-1-sz (j-1)):Int)+(sz (j-1):Int)) (by omega) (by omega),bH (by omega) (by omega),e]
    rfl
   ·obtain⟨a,b,c,d⟩:=F.un Y (fun h=>h27 (.inl h)) (fun h=>h27 (.inr h))
    obtain⟨nA,FA⟩:=h (j-1) (by omega)
    have hA:=(ih (j-1) (by omega) (by omega)).1 fu (by omega)
    rw [show((j-1:Nat):Int)=n.A from by omega]at hA
    have q1:=FA.pos
    have q2:=FA.le
    rw [bn h27,bE F.op,bE ⟨b,c⟩,hA]
    simp only [bo]
    rw [bE (by simp;omega),bH (by omega) (by omega),d]
    rfl
  refine⟨hS,fun fu X=>?_⟩
  obtain⟨fu,rfl⟩: ∃k,fu=k+1:=⟨fu-1,by omega⟩
  have hszR:gI l (j:Int)=some (sz j:Int):=hS gi (od (by omega))
  have hp:=F.pos
  rw [xa F.node hszR (by omega) F.own]
  have hkA: ∀(p:Int),0<=p->p<(j:Int)->cg fu l p=some (ks p.toNat,true):=by
   intro p hp0 hpj
   have:=(ih p.toNat (by omega) (by omega)).2 fu (by omega)
   rw [show((p.toNat:Nat):Int)=p from by omega]at this
   exact this
  have hk1: ∀a,ee (cg fu) l (j:Int) n a=f9 l (j:Int) n a (if n.B<0 then []else ks n.B.toNat):=by
   intro a
   unfold ee
   by_cases hB:0<=n.B
   ·rw [bE (by simpa using hB),hkA n.B hB hpl.2,bn (by omega)]
    rfl
   ·rw [bn (by simpa using hB),bE (by omega)]
  have hk2:f9 l (j:Int) n (if n.A<0 then []else ks n.A.toNat) (if n.B<0 then []else ks n.B.toNat)=some (ks j,true):=by
   unfold f9
   rw [F.kinds]
   simp only [bo]
   rw [bn]
   have hlen:=F.len
   simp only [wB,jX,tE,ss,zy,not_or,not_and,Decidable.not_not]
   refine⟨fun h8=>?_,by omega⟩
   have:=F.last h8
   rw [bH (by omega) (by omega)]
   omega
  by_cases hA:0<=n.A
  ·rw [bE (by simpa using hA),hkA n.A hA hpl.1]
   simp only [bo,mq,jx,gE]
   rw [hk1]
   rw [bn (show¬n.A<0 by omega)]at hk2
   exact hk2
  ·rw [bn (by simpa using hA),hk1]
   rw [bE (show n.A<0 by omega)]at hk2
   exact hk2
def EW{sz:Nat->Nat}{ks:Nat->List Int}(hl:l.Nodes.length<=60)(hp:1<=l.Nodes.length)(h: ∀j,j<l.Nodes.length-> ∃n,uN l sz ks j n)(hw:sz (l.Nodes.length-1)=l.Nodes.length):bS l=true:=by
 have tD:=ID hl (dr _) h
 unfold bS pG
 rw [bn (by simp;omega)]
 have key: ∀(tl:List aa) (i:Nat),l.Nodes.drop i=tl->i+tl.length=l.Nodes.length->eV l tl i=some (-1):=by
  intro tl
  induction tl with
  |nil=>
   intro i _ _
   unfold eV
   have:=(tD (l.Nodes.length-1) (by omega)).1 gi (od (by omega))
   rw [bH (by omega) (by omega),show(l.Nodes.length:Int)-1=((l.Nodes.length-1:Nat):Int)from by omega]
   unfold gI
   rw [this,hw]
   simp
  |cons n tl ih=>
   intro i hd hi
   simp only [jv]at hi
   obtain⟨_,J,Z⟩:=iL hd
   unfold eV pH
   rw [(tD i J).2 gi (od (by omega))]
   simp only [bo,mq,jx,gE]
   exact ih (i+1) Z (by omega)
 rw [key l.Nodes 0 rfl (by simp)]
 rfl

def uE{e:ai}{kinds:List Int}(h:(hU e kinds).2=0):fd e.Nodes=true:=by
 unfold hU at h
 cases hr:fd e.Nodes with
 |true=>rfl
 |false=>rw [hr]at h;simp at h
def FJ{e:ai}{kinds:List Int}(h:Bt e kinds=true):fd e.Nodes=true:=by
 unfold Bt at h
 simp only [jX,tE]at h
 exact uE h.1
structure RP(n:aa):Prop where
 cond:0<n.Cond.Nodes.length->fd n.Cond.Nodes=true
 items: ∀e∈n.Items,0<e.Nodes.length->fd e.Nodes=true
 args: ∀g∈n.Aggs,0<g.Arg.Nodes.length->fd g.Arg.Nodes=true
def ui(e:ai):Bool:= !e.Nodes.isEmpty&&e.Nodes.any GN
def Lz(g:gQ):Bool:=if g.Tag=3 then true else ui g.Arg
def zN(n:aa):Bool:=ui n.Cond||n.Items.any ui||n.Aggs.any Lz
def rO{f:ai->Option Bool}{g:ai->Bool}: ∀(l:List ai) (i:Nat),(∀v∈l,f v=some (g v))-> ∃j:Int,db f l i=some j/\decide (0<=j)=l.any g
 |[],i,_=>⟨-1,rfl,rfl⟩
 |e::l,i,X=>by
  unfold db
  rw [X e (mp ..),bo]
  cases h:g e with
  |true=>exact⟨(i:Int),by simp,by simp [h]⟩
  |false=>
   obtain⟨j,Y,J⟩:=rO l (i+1) (fun v hv=>X v (nu _ hv))
   exact⟨j,by simpa using Y,by rw [J];simp [h]⟩

def tabs(ns:List aa):List Int:=(ns.filter fun n=>n.Op==1).map (·.Table)
def ib(l:aw)(e p:Nat):aw:=⟨((l.Nodes.take (p+1)).drop e).map (oO (-(e:Int)))⟩
def oT(hp:p<l.Nodes.length):(ib l e p).Nodes.length=p+1-e:=by
 unfold ib;simp;omega
def n6(h:fM l)(e p:Nat):fM (ib l e p):=
 CZ fun n hn=>h n (List.mem_of_mem_take (List.mem_of_mem_drop hn))
def GU(hS:fM l)(hl:l.Nodes.length<=60)(hp:p<l.Nodes.length)(he:e<=100): ∀(tl:List aa) (i fu:Nat) (out:aw),(l.Nodes.take (p+1)).drop i=tl->i+tl.length=p+1->tl.length<fu->out.Nodes.length<=i->ln l (p:Int) (e:Int) fu (i:Int) out=some (⟨out.Nodes++tl.map (oO (-(e:Int)))⟩,0):=by
 intro tl
 induction tl with
 |nil=>
  intro i fu out hd hi X _
  obtain⟨fu,rfl⟩: ∃k,fu=k+1:=⟨fu-1,by omega⟩
  simp only [pT,tZ]at hi
  rw [ln,bn (by simp;omega)]
  simp
 |cons x tl ih=>
  intro i fu out hd hi X ho
  simp only [jv]at hi X
  obtain⟨fu,rfl⟩: ∃k,fu=k+1:=⟨fu-1,by omega⟩
  obtain⟨Y,J,Z⟩:=iL hd
  have h1' :cU l.Nodes (i:Int)=some x:=by
   rw [cI]at Y ⊢
   rw [wE (by omega)]at Y
   exact Y
  have I:cj x:=hS x (by rw [cI]at h1';exact sm h1')
  rw [ln,bE (by simp;omega),h1']
  simp only [bo]
  rw [bH (n:=(0:Int)-(e:Int)) (by omega) (by omega),pW I]
  simp only [bo]
  rw [cL (by simp;omega),bH (by omega) (by omega),show((i:Int)+1)=((i+1:Nat):Int)from by omega]
  simp only [bo]
  rw [ih (i+1) fu _ Z (by omega) (by omega) (by simp;omega)]
  simp
def xQ(hl:l.Nodes.length<=60)(hp:p<l.Nodes.length)(hs:e+s=p+1): ∀(tl:List aa) (i fu:Nat) (out:aw),(l.Nodes.take (p+1)).drop i=tl->i+tl.length=p+1->tl.length<fu->out.Nodes.length<=i->mT l (p:Int) (s:Int) fu (i:Int) out=some ⟨out.Nodes++tl.map (oO (-(e:Int)))⟩:=by
 intro tl
 induction tl with
 |nil=>
  intro i fu out hd hi X _
  obtain⟨fu,rfl⟩: ∃k,fu=k+1:=⟨fu-1,by omega⟩
  simp only [pT,tZ]at hi
  rw [mT,bn (by simp;omega)]
  simp
 |cons x tl ih=>
  intro i fu out hd hi X ho
  simp only [jv]at hi X
  obtain⟨fu,rfl⟩: ∃k,fu=k+1:=⟨fu-1,by omega⟩
  obtain⟨Y,J,Z⟩:=iL hd
  have h1' :cU l.Nodes (i:Int)=some x:=by
   rw [cI]at Y ⊢
   rw [wE (by omega)]at Y
   exact Y
  rw [mT,bE (by simp;omega),h1']
  simp only [bo]
  rw [bH (n:=(p:Int)-(s:Int)) (by omega) (by omega),bH (n:=(p:Int)-(s:Int)+1) (by omega) (by omega),bH (n:=(0:Int)-_) (by omega) (by omega),show(0:Int)-((p:Int)-(s:Int)+1)= -(e:Int)from by omega,Bv]
  simp only [bo]
  rw [cL (by simp;omega),bH (by omega) (by omega),show((i:Int)+1)=((i+1:Nat):Int)from by omega]
  simp only [bo]
  rw [ih (i+1) fu _ Z (by omega) (by omega) (by simp;omega)]
  simp
def zc(first:List Int)(p:Nat):Nat:=p+1-vS first p
def LN(hS:fM l){ob:au}{j:Int}(uF:lY l=some (ob,j,true))(hL:GW l ob)(hp:p<l.Nodes.length):lZ l (p:Int)=some (ib l (zc ob.first p) p,0)/\Aj l (p:Int)=some (ib l (zc ob.first p) p):=by
 have hle:=hL.le
 obtain⟨N0,X⟩:=hL.inv.at hp
 have Y:=N0.pos
 have J:=N0.le
 have V:(zc ob.first p:Int)=(p:Int)+1-(vS ob.first p:Int):=by unfold zc;omega
 have hb2:zc ob.first p+vS ob.first p=p+1:=by unfold zc;omega
 have hfi:cU ob.first (p:Int)=some (zc ob.first p:Int):=by rw [cI,X,V]
 constructor
 ·unfold lZ
  rw [uF]
  simp only [bo,mq,jx,gE]
  rw [bn (by simp;omega),hfi]
  simp only [bo]
  rw [GU hS hle hp (by omega) ((l.Nodes.take (p+1)).drop (zc ob.first p)) (zc ob.first p) gi _ rfl (by simp;omega) (od (by simp;omega)) (by simp)]
  rfl
 ·unfold Aj
  have hs:gI l (p:Int)=some (vS ob.first p:Int):=N0.size gi (od (by omega))
  rw [hs]
  simp only [bo]
  rw [bH (n:=(p:Int)-_) (by omega) (by omega),bH (by omega) (by omega),show(p:Int)-(vS ob.first p:Int)+1=(zc ob.first p:Int)from by omega]
  rw [xQ hle hp hb2 ((l.Nodes.take (p+1)).drop (zc ob.first p)) (zc ob.first p) gi _ rfl (by simp;omega) (od (by simp;omega)) (by simp)]
  rfl
end Go.Proofs.YtbmmihfagmchaaaGreat

