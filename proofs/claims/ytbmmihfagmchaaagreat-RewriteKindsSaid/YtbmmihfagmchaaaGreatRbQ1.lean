/- cP of this claim: L1, L2, L3, L4, L5, L6, L7, L8, L9. -/
import Derived.Test.YtbmmihfagmchaaaGreatRbR16
import Derived.KernelRfl
set_option linter.all false
namespace Go.Proofs.YtbmmihfagmchaaaGreat
open Go

variable{n:aa}
def bB{n:Int}(h: -9223372036854775808<=n)(J:n<=9223372036854775807):IntKind.i64.wrap n=n:=by rw [IntKind.wrap_i64];omega
variable{α:Type}{xs:List α}
def cC{ys:List α}(h:xs.length+ys.length<=68719476736):jp xs ys=some (xs++ys):=bD h
variable{l:aw}
def uK{l m:Nat}(h:l<=m)(J:m<=xs.length):db xs (l:Int) (m:Int)=some ((xs.take m).drop l):=by
 unfold db
 rw [bD (by omega)]
 simp
variable{i j:Nat}
def gU{i j:Int}(l m:Nat)(hi:i=(l:Int))(hj:j=(m:Int))(h:l<=m)(J:m<=xs.length):db xs i j=some ((xs.take m).drop l):=by
 subst hi hj;exact uK h J
def j5{i:Int}(k:Nat)(hi:i=(k:Int)):cQ xs i=xs[k]? :=by subst hi;exact cw _ _
def vN(v:bK):Bool:=(nr v).getD false
def Ai(v:bK):nr v=some (vN v):=by
 unfold vN nr
 repeat' split
 all_goals rfl
def zF(v:bK):q7 v=some (if vN v then 0 else 120):=by
 obtain⟨k,n,u,s⟩:=v
 unfold vN nr q7 t6
 simp only [i7,nN,nM,nL]
 by_cases h0:k=0
 ·subst h0;simp
  repeat' split
  all_goals simp_all
 by_cases Y:k=1
 ·subst Y
  by_cases n0:n=0
  ·subst n0;simp
   repeat' split
   all_goals simp_all
  by_cases n1:n=1
  ·subst n1;simp
   repeat' split
   all_goals simp_all
  simp [n0,n1]
 by_cases J:k=2
 ·subst J;simp
  repeat' split
  all_goals simp_all
 by_cases Z:k=3
 ·subst Z;simp
  repeat' split
  all_goals simp_all
 by_cases h4:k=4
 ·subst h4;simp
  repeat' split
  all_goals simp_all
 simp [h0,Y,J,Z,h4]
def vS(v:bK):Bool:=vN v&&(v.Kind !=4)
def zE(v:bK):q6 v=some (vS v):=by
 unfold q6 vS
 rw [zF]
 cases vN v<;>simp
def nV(v:bK):uk v=some (vS v):=by
 unfold uk vS
 rw [Ai]
 rfl
def D3{v:bK}(h:vS v=true):0<=v.Kind/\v.Kind<=3:=by
 obtain⟨k,n,u,s⟩:=v
 unfold vS vN nr at h
 simp only [iX,q0,ne_eq]at h
 obtain⟨Y,J⟩:=h
 by_cases h0:k=0
 ·simp [h0]
 by_cases k1:k=1
 ·simp [k1]
 by_cases k2:k=2
 ·simp [k2]
 by_cases k3:k=3
 ·simp [k3]
 simp [h0,k1,k2,k3,J]at Y
def pk(tag:Int):Option Nat:=if tag=1\/tag=2 then some 0 else if 4<=tag/\tag<=7 then some 1 else if 12<=tag/\tag<=23 then some 2 else none
def CM(tag:Int):Int:=match pk tag with
 |some k=>(k:Int)
 |none=> -1
variable{tag:Int}
def vm(tag:Int):nl tag=some (CM tag):=by
 unfold nl CM pk
 by_cases Y:tag=1\/tag=2
 ·rw [bD Y,bD (by simpa using Y)];rfl
 rw [bo Y,bo (by simpa using Y)]
 by_cases J:4<=tag/\tag<=7
 ·rw [bD J,bD (by simpa using J)];rfl
 rw [bo J,bo (by simpa using J)]
 by_cases Z:12<=tag/\tag<=23
 ·rw [bD Z,bD (by simpa using Z)];rfl
 rw [bo Z,bo (by simpa using Z)]
def nU(tag:Int):uj tag=some (CM tag):=by
 unfold uj yF CM pk
 by_cases Y:tag=1\/tag=2
 ·rw [bD Y];rcases Y with rfl|rfl<;>rfl
 rw [bo Y]
 by_cases J:4<=tag/\tag<=7
 ·rw [bD J]
  have:tag=4\/tag=5\/tag=6\/tag=7:=by omega
  rcases this with rfl|rfl|rfl|rfl<;>rfl
 rw [bo J]
 by_cases Z:12<=tag/\tag<=23
 ·rw [bD Z,bo (by simp;omega),bo (by simp;omega),bo (by simp;omega),bo (by simp;omega)];rfl
 rw [bo Z]
 by_cases h4:tag=3\/(8<=tag/\tag<=11)
 ·rw [bD (by simpa using h4)]
 rw [bo (by simpa using h4),bD (by simp;omega)]
 rfl
def Dd(n:aj):Bool:=(jv n).getD false
def iH(n:aj):jv n=some (Dd n):=by
 unfold Dd jv
 rw [nV]
 split
 ·rfl
 ·split<;>rfl
def AJ(n:aj):rr n=some (Dd n):=by
 rw [<-iH]
 unfold rr jv
 rw [nV,zE]
inductive Tr where
 |lf (n:aj)
 |un (n:aj) (a:Tr)
 |bi (n:aj) (a b:Tr)
 deriving Inhabited
def Tr.size:Tr->Nat
 | .lf _=>1
 | .un _ a=>a.size+1
 | .bi _ a b=>a.size+b.size+1
def dK(n:aj)(l r:Int):aj:={n with L:=l,R:=r}
def Tr.flat:Tr->Nat->List aj
 | .lf n,_=>[dK n (-1) (-1)]
 | .un n a,s=>a.flat s++[dK n ((s+a.size:Nat)-1) (-1)]
 | .bi n a b,s=>a.flat s++b.flat (s+a.size)++[dK n ((s+a.size:Nat)-1) ((s+a.size+b.size:Nat)-1)]
def Ox(k:Nat)(n:aj):Prop:=pk n.Tag=some k/\Dd n=true/\n.L= -1/\n.R= -1
def Tr.wf:Tr->Prop
 | .lf n=>Ox 0 n
 | .un n a=>Ox 1 n/\a.wf
 | .bi n a b=>Ox 2 n/\a.wf/\b.wf
def Tr.size_pos(t:Tr):0<t.size:=by cases t<;>simp [Tr.size]
def Tr.flat_len(t:Tr): ∀s,(t.flat s).length=t.size:=by
 induction t with
 |lf n=>intro s;rfl
 |un n a ih=>intro s;simp [Tr.flat,Tr.size,ih]
 |bi n a b iha ihb=>intro s;simp [Tr.flat,Tr.size,iha,ihb];omega
def bT:List Tr->Nat
 |[]=>0
 |t::st=>bT st+t.size
def sE:List Tr->List aj
 |[]=>[]
 |t::st=>sE st++t.flat (bT st)
def B7: ∀st:List Tr,(sE st).length=bT st
 |[]=>rfl
 |t::st=>by simp [sE,bT,B7 st,t.flat_len]
def BM: ∀st:List Tr,st.length<=bT st
 |[]=>iQ _
 |t::st=>by have:=BM st;have:=t.size_pos;simp [bT];omega
def push(st:List Tr)(n:aj):Option (List Tr):=
 match pk n.Tag,st with
 |some 0,st=>if Dd n&&n.L== -1&&n.R== -1 then some (.lf (dK n (-1) (-1))::st)else none
 |some 1,a::st=>if Dd n&&n.L==((bT st+a.size:Nat):Int)-1&&n.R== -1 then some (.un (dK n (-1) (-1)) a::st)else none
 |some 2,b::a::st=>if Dd n&&n.L==((bT st+a.size:Nat):Int)-1&&n.R==((bT st+a.size+b.size:Nat):Int)-1 then some (.bi (dK n (-1) (-1)) a b::st)else none
 |_,_=>none
def mO:List aj->List Tr->Option (List Tr)
 |[],st=>some st
 |n::ns,st=>(push st n).bind (mO ns)
def RE(st:List Tr):Prop:= ∀t∈st,t.wf
def uM{n:aj}{l r:Int}(h:n.L=l)(J:n.R=r):dK (dK n (-1) (-1)) l r=n:=by subst h J;rfl
def Ic{st st' :List Tr}{n:aj}(h:push st n=some st')(hw:RE st):sE st' =sE st++[n]/\bT st' =bT st+1/\RE st' :=by
 unfold push at h
 split at h
 ·rename_i k st0 hk
  split at h
  ·rename_i hc
   simp only [iX,se]at hc
   obtain⟨⟨Y,J⟩,Z⟩:=hc
   cases h
   refine⟨?_,rfl,fun t D=>?_⟩
   ·simp only [sE,Tr.flat]
    rw [uM J Z]
   ·rcases fT.1 D with rfl|D
    ·exact⟨hk,Y,rfl,rfl⟩
    ·exact hw t D
  ·cases h
 ·rename_i k a st0 hk
  split at h
  ·rename_i hc
   simp only [iX,se]at hc
   obtain⟨⟨Y,J⟩,Z⟩:=hc
   cases h
   refine⟨?_,by simp [bT,Tr.size];omega,fun t D=>?_⟩
   ·simp only [sE,Tr.flat]
    rw [uM J Z,jr]
   ·rcases fT.1 D with rfl|D
    ·exact⟨⟨hk,Y,rfl,rfl⟩,hw a (lK ..)⟩
    ·exact hw t (mZ _ D)
  ·cases h
 ·rename_i k b a st0 hk
  split at h
  ·rename_i hc
   simp only [iX,se]at hc
   obtain⟨⟨Y,J⟩,Z⟩:=hc
   cases h
   refine⟨?_,by simp [bT,Tr.size];omega,fun t D=>?_⟩
   ·simp only [sE,Tr.flat,bT]
    rw [uM J Z]
    simp only [jr]
   ·rcases fT.1 D with rfl|D
    ·exact⟨⟨hk,Y,rfl,rfl⟩,hw a (mZ _ (lK ..)),hw b (lK ..)⟩
    ·exact hw t (mZ _ (mZ _ D))
  ·cases h
 ·cases h
variable{ns:List aj}
def qL: ∀{ns:List aj} {st st' :List Tr},mO ns st=some st' ->RE st->sE st' =sE st++ns/\RE st'
 |[],st,st',h,hw=>by cases h;simp [hw]
 |n::ns,st,st',h,hw=>by
  unfold mO at h
  cases hp:push st n with
  |none=>rw [hp]at h;cases h
  |some st1=>
   rw [hp]at h
   obtain⟨Y,_,Z⟩:=Ic hp hw
   obtain⟨h4,h5⟩:=qL (ns:=ns) h Z
   exact⟨by rw [h4,Y];simp,h5⟩
def qa: ∀(ns ms:List aj) (st:List Tr),mO (ns++ms) st=(mO ns st).bind (mO ms)
 |[],ms,st=>rfl
 |n::ns,ms,st=>by
  simp only [xr,mO]
  cases push st n with
  |none=>rfl
  |some st1=>exact qa ns ms st1
def FY(t:Tr): ∀(st:List Tr),t.wf->mO (t.flat (bT st)) st=some (t::st):=by
 induction t with
 |lf n=>
  intro st ⟨Y,J,Z,h4⟩
  have hn' :dK n (-1) (-1)=n:=by cases n;simp only at Z h4;subst Z h4;rfl
  simp only [Tr.flat,mO,push,hn']
  rw [Y]
  simp [J,Z,h4,mO,hn']
 |un n a ih=>
  intro st ⟨⟨Y,J,Z,h4⟩,ha⟩
  have hn' :dK n (-1) (-1)=n:=by cases n;simp only at Z h4;subst Z h4;rfl
  simp only [Tr.flat]
  rw [qa,ih st ha]
  simp only [bt,mO,push]
  have e1:(dK n (((bT st+a.size:Nat):Int)-1) (-1)).Tag=n.Tag:=rfl
  rw [e1,Y]
  have e2:Dd (dK n (((bT st+a.size:Nat):Int)-1) (-1))=true:=J
  rw [e2]
  simp only [dK,beq_self_eq_true,Bool.and_self,fP,bt,mO]
  simp only [dK]at hn'
  rw [hn']
 |bi n a b iha ihb=>
  intro st ⟨⟨Y,J,Z,h4⟩,ha,V⟩
  have hn' :dK n (-1) (-1)=n:=by cases n;simp only at Z h4;subst Z h4;rfl
  simp only [Tr.flat]
  rw [qa,qa,iha st ha]
  simp only [bt]
  have e0:bT st+a.size=bT (a::st):=rfl
  rw [e0,ihb (a::st) V]
  simp only [bt,mO,push]
  have e1:(dK n (((bT (a::st):Nat):Int)-1) (((bT (a::st)+b.size:Nat):Int)-1)).Tag=n.Tag:=rfl
  rw [e1,Y]
  have e2:Dd (dK n (((bT (a::st):Nat):Int)-1) (((bT (a::st)+b.size:Nat):Int)-1))=true:=J
  rw [e2]
  simp only [dK,bT,beq_self_eq_true,Bool.and_self,fP,bt,mO]
  simp only [dK]at hn'
  rw [hn']
def iF(ns:List aj):Option Tr:=match mO ns []with
 |some [t]=>if ns.length<=1000 then some t else none
 |_=>none
def iR{t:Tr}(h:iF ns=some t):t.wf/\ns=t.flat 0/\t.size<=1000:=by
 unfold iF at h
 split at h
 ·rename_i t0 hp
  split at h
  ·rename_i hl
   cases h
   obtain⟨Y,J⟩:=qL hp (fun t D=>by cases D)
   simp only [sE,bT,iW]at Y
   exact⟨J t (lK ..),Y.symm,by rw [<-t.flat_len 0,Y];exact hl⟩
  ·cases h
 ·cases h
def np{t:Tr}(h:t.wf)(hs:t.size<=1000):iF (t.flat 0)=some t:=by
 unfold iF
 have h0:=FY t [] h
 simp only [bT]at h0
 rw [h0]
 simp only [t.flat_len,hs,fP]
def fl:Tr->Nat->List Int
 | .lf _,s=>[(s:Int)]
 | .un _ a,s=>fl a s++[(s:Int)]
 | .bi _ a b,s=>fl a s++fl b (s+a.size)++[(s:Int)]
def EM:List Tr->List Int
 |[]=>[]
 |t::st=>EM st++fl t (bT st)
def jU:List Tr->List Int
 |[]=>[]
 |t::st=>jU st++[((bT st+t.size:Nat):Int)-1]
def pS(t:Tr): ∀s,(fl t s).length=t.size:=by
 induction t with
 |lf n=>intro s;rfl
 |un n a ih=>intro s;simp [fl,Tr.size,ih]
 |bi n a b iha ihb=>intro s;simp [fl,Tr.size,iha,ihb];omega
def rm: ∀st:List Tr,(EM st).length=bT st
 |[]=>rfl
 |t::st=>by simp [EM,bT,rm st,pS]
def cS: ∀st:List Tr,(jU st).length=st.length
 |[]=>rfl
 |t::st=>by simp [jU,cS st]
def Hq(t:Tr)(s:Nat):(fl t s)[t.size-1]? =some (s:Int):=by
 cases t with
 |lf n=>rfl
 |un n a=>simp only [fl,Tr.size];rw [qq (by rw [pS];omega),pS];simp
 |bi n a b=>simp only [fl,Tr.size];rw [qq (by simp [pS]),jE,pS,pS];simp
def Au(t:Tr)(st:List Tr)(rest:List Int):(EM st++fl t (bT st)++rest)[bT st+t.size-1]? =some (bT st:Int):=by
 have:=t.size_pos
 rw [u4 (by rw [jE,rm,pS];omega),qq (by rw [rm];omega),rm,show bT st+t.size-1-bT st=t.size-1 from by omega]
 exact Hq t _
def B8: ∀(ns:List aj) (st:List Tr),bT st+ns.length<=100000->je ns (bT st) (EM st) (jU st)=some (match mO ns st with
   |some st' =>(EM st',decide (st'.length=1)&&decide (bT st' <=1000))
   |none=>([],false)):=by
 intro ns
 induction ns with
 |nil=>
  intro st _
  simp only [je,mO,cS,rm]
  congr 2
  congr 1
  ·rw [zk];simp;omega
  ·rw [zk];simp;omega
 |cons n ns ih=>
  intro st hs
  simp only [i6]at hs
  have hll:=BM st
  unfold je
  rw [vm]
  simp only [bt,cS,AJ]
  unfold mO
  unfold push
  -- the parts
  cases hk:pk n.Tag with
  |none=>
   have e:CM n.Tag= -1:=by unfold CM;rw [hk]
   simp [e]
  |some k=>
   have e:CM n.Tag=(k:Int):=by unfold CM;rw [hk]
   have hk3:k=0\/k=1\/k=2:=by
    unfold pk at hk
    repeat' split at hk
    all_goals simp at hk
    all_goals omega
   rw [e]
   rcases hk3 with rfl|rfl|rfl
   ·-- none
    simp only []
    have c1:(decide (((0:Nat):Int)<0)||decide ((st.length:Int)<((0:Nat):Int)))=false:=by simp
    simp only [c1,ym,fP,bt]
    cases hc:Dd n with
    |false=>simp
    |true=>
     simp only [nC,kP,iB,xq]
     rw [gU st.length st.length (by rw [bB (by omega) (by omega)];omega) rfl (iQ _) (by rw [cS];exact iQ _)]
     have hd:(List.take st.length (jU st)).drop st.length=[]:=Bj (by simp;omega)
     simp only [hd,bt,j8]
     by_cases hL:n.L= -1/\n.R= -1
     ·have V:(n.L== -1&&n.R== -1)=true:=by simp [hL]
      rw [bD V,bo (by simp [hL.1,hL.2])]
      rw [cC (by simp only [i6,pM,rm];omega)]
      simp only [bt]
      rw [gU (i:=0) 0 st.length rfl (by rw [cS,bB (by omega) (by omega)];omega) (mC _) (by rw [cS];exact iQ _)]
      rw [nE (by rw [cS];exact iQ _),tQ]
      simp only [bt]
      rw [cC (by simp only [i6,pM,cS];omega)]
      simp only [bt]
      have J:=ih (.lf (dK n (-1) (-1))::st) (by simp [bT,Tr.size];omega)
      simp only [bT,Tr.size,EM,fl,jU]at J
      rw [show(((bT st+1:Nat):Int)-1)=(bT st:Int)from by omega]at J
      exact J
     ·have V:(n.L== -1&&n.R== -1)=false:=by
       rw [wv];intro h;apply hL;simpa using h
      rw [V]
      rw [bD (by
       simp only [yo,GY]
       intro h
       have Y:(-1:Int)=n.L:=by injection h
       have J:(-1:Int)=n.R:=by injection h with _ h;injection h
       exact hL ⟨Y.symm,J.symm⟩)]
      simp
   ·-- one
    cases st with
    |nil=>simp
    |cons a st=>
     simp only []
     have c1:(decide (((1:Nat):Int)<0)||decide (((a::st).length:Int)<((1:Nat):Int)))=false:=by simp;omega
     simp only [c1,ym,fP,bt]
     cases hc:Dd n with
     |false=>simp
     |true=>
      simp only [nC,kP,iB,xq]
      simp only [i6]at hll ⊢
      simp only [bT]at hs hll
      have hap:=a.size_pos
      rw [gU st.length (st.length+1) (by rw [bB (by omega) (by omega)];omega) (by omega) (by omega) (by rw [cS];exact iQ _)]
      have hd:(List.take (st.length+1) (jU (a::st))).drop st.length=[((bT st+a.size:Nat):Int)-1]:=by
       rw [nE (by rw [cS];exact iQ _)]
       simp only [jU]
       rw [Dw (by rw [cS];exact iQ _),Bj (by rw [cS];exact iQ _),iW]
      rw [hd]
      simp only [bt,j8]
      rw [j5 (bT st+a.size-1) (by omega)]
      have X:=Au a st []
      rw [rD]at X
      simp only [EM]
      rw [X]
      simp only [bt]
      rw [j5 0 rfl]
      simp only [Fs,bt]
      have hset:([(-1:Int),-1].set ((0:Nat):Int).toNat (((bT st+a.size:Nat):Int)-1))=[((bT st+a.size:Nat):Int)-1,-1]:=rfl
      rw [hset]
      by_cases hL:n.L=((bT st+a.size:Nat):Int)-1/\n.R= -1
      ·have V:(n.L==((bT st+a.size:Nat):Int)-1&&n.R== -1)=true:=by simp [hL]
       rw [bD V,bo (by rw [hL.1,hL.2];simp)]
       rw [cC (by simp only [i6,pM,jE,rm,pS];omega)]
       simp only [bt]
       rw [gU (i:=0) 0 st.length rfl (by rw [cS,bB (by simp<;>omega) (by simp<;>omega)];simp) (mC _) (by rw [cS];simp)]
       have D:(List.take st.length (jU (a::st))).drop 0=jU st:=by
        simp only [jU,tQ]
        rw [vy (by rw [cS];exact iQ _),nE (by rw [cS];exact iQ _)]
       rw [D]
       simp only [bt]
       rw [cC (by simp only [i6,pM,cS];omega)]
       simp only [bt]
       have J:=ih (.un (dK n (-1) (-1)) a::st) (by simp [bT,Tr.size];omega)
       simp only [bT,Tr.size,EM,fl,jU]at J
       rw [show(((bT st+(a.size+1):Nat):Int)-1)=((bT st+a.size:Nat):Int)from by omega]at J
       have hm:min ((bT (a::st):Nat):Int) (bT st:Int)=(bT st:Int):=by simp only [bT];omega
       rw [hm]
       simp only [jr]at J ⊢
       exact J
      ·have V:(n.L==((bT st+a.size:Nat):Int)-1&&n.R== -1)=false:=by
        rw [wv];intro h;apply hL;simpa using h
       rw [V]
       rw [bD (by
        simp only [yo,GY]
        intro h
        have Y:((bT st+a.size:Nat):Int)-1=n.L:=by injection h
        have J:(-1:Int)=n.R:=by injection h with _ h;injection h
        exact hL ⟨Y.symm,J.symm⟩)]
       simp
   ·-- two
    cases st with
    |nil=>simp
    |cons b st=>
     cases st with
     |nil=>simp
     |cons a st=>
      simp only []
      have c1:(decide (((2:Nat):Int)<0)||decide (((b::a::st).length:Int)<((2:Nat):Int)))=false:=by simp;omega
      simp only [c1,ym,fP,bt]
      cases hc:Dd n with
      |false=>simp
      |true=>
       simp only [nC,kP,iB,xq]
       simp only [i6]at hll ⊢
       simp only [bT]at hs hll
       have hap:=a.size_pos
       have hbp:=b.size_pos
       rw [gU st.length (st.length+1+1) (by rw [bB (by omega) (by omega)];omega) (by omega) (by omega) (by rw [cS];exact iQ _)]
       have hd:(List.take (st.length+1+1) (jU (b::a::st))).drop st.length=[((bT st+a.size:Nat):Int)-1,((bT st+a.size+b.size:Nat):Int)-1]:=by
        rw [nE (by rw [cS];exact iQ _)]
        simp only [jU,bT,jr]
        rw [Dw (by rw [cS];exact iQ _),Bj (by rw [cS];exact iQ _),iW]
        rfl
       rw [hd]
       simp only [bt,j8]
       simp only [EM,bT]
       rw [j5 (bT st+a.size-1) (by omega)]
       rw [Au a st (fl b (bT st+a.size))]
       simp only [bt]
       rw [j5 0 rfl]
       simp only [Fs,bt]
       have hset:([(-1:Int),-1].set ((0:Nat):Int).toNat (((bT st+a.size:Nat):Int)-1))=[((bT st+a.size:Nat):Int)-1,-1]:=rfl
       rw [hset]
       rw [j5 (bT st+a.size+b.size-1) (by omega)]
       have X:=Au b (a::st) []
       rw [rD]at X
       simp only [EM,bT]at X
       rw [X]
       simp only [bt]
       rw [j5 (0+1) rfl]
       simp only [List.getElem?_cons_succ,Fs,bt]
       have hset2:([((bT st+a.size:Nat):Int)-1,-1].set ((0+1:Nat):Int).toNat (((bT st+a.size+b.size:Nat):Int)-1))=[((bT st+a.size:Nat):Int)-1,((bT st+a.size+b.size:Nat):Int)-1]:=rfl
       rw [hset2]
       by_cases hL:n.L=((bT st+a.size:Nat):Int)-1/\n.R=((bT st+a.size+b.size:Nat):Int)-1
       ·have V:(n.L==((bT st+a.size:Nat):Int)-1&&n.R==((bT st+a.size+b.size:Nat):Int)-1)=true:=by rw [hL.1,hL.2];simp
        rw [bD V,bo (by rw [hL.1,hL.2];simp)]
        rw [cC (by simp only [i6,pM,jE,rm,pS];omega)]
        simp only [bt]
        rw [gU (i:=0) 0 st.length rfl (by rw [cS,bB (by simp;omega) (by simp;omega)];simp;omega) (mC _) (by rw [cS];simp;omega)]
        have D:(List.take st.length (jU (b::a::st))).drop 0=jU st:=by
         simp only [jU,tQ,jr]
         rw [vy (by rw [cS];exact iQ _),nE (by rw [cS];exact iQ _)]
        rw [D]
        simp only [bt]
        rw [cC (by simp only [i6,pM,cS];omega)]
        simp only [bt]
        have J:=ih (.bi (dK n (-1) (-1)) a b::st) (by simp [bT,Tr.size];omega)
        simp only [bT,Tr.size,EM,fl,jU]at J
        rw [show(((bT st+(a.size+b.size+1):Nat):Int)-1)=((bT st+a.size+b.size:Nat):Int)from by omega,show bT st+(a.size+b.size+1)=bT st+a.size+b.size+1 from by omega]at J
        have hm:min (min (((bT st+a.size+b.size:Nat)):Int) (bT st:Int)) ((bT st+a.size:Nat):Int)=(bT st:Int):=by omega
        rw [hm]
        simp only [jr]at J ⊢
        exact J
       ·have V:(n.L==((bT st+a.size:Nat):Int)-1&&n.R==((bT st+a.size+b.size:Nat):Int)-1)=false:=by
         rw [wv];intro h;apply hL;simpa using h
        rw [V]
        rw [bD (by
         simp only [yo,GY]
         intro h
         have Y:((bT st+a.size:Nat):Int)-1=n.L:=by injection h
         have J:((bT st+a.size+b.size:Nat):Int)-1=n.R:=by injection h with _ h;injection h
         exact hL ⟨Y.symm,J.symm⟩)]
        simp

def jk{n:Nat}(h:n<=1000000):n<=fQ:=by unfold fQ;omega
def dX(ns:List aj):Bool:=(iF ns).isSome
def yH{st:List Tr}(h:mO ns []=some st):bT st=ns.length:=by
 have:=(qL h (fun t D=>by cases D)).1
 rw [<-B7,this];simp [sE]
def jI(e:ai)(h:e.Nodes.length<=100000):l0 e=some (if dX e.Nodes then 0 else 200):=by
 unfold l0 pG dX iF
 have:=B8 e.Nodes [] (by simpa [bT] using h)
 simp only [bT,EM,jU]at this
 rw [this]
 cases hp:mO e.Nodes []with
 |none=>rfl
 |some st=>
  have hsz:=yH hp
  match st,hsz with
  |[],_=>rfl
  |[t],hsz=>
   simp only [bt,hsz]
   by_cases hl:e.Nodes.length<=1000<;>simp [hl]
  |t::t2::st,_=>simp
def LJ(t:Tr):t.wf-> ∀(P R N:List aj) (fu:Nat),N=P++t.flat P.length++R->t.size<=fu->N.length<=100000->ib fu ⟨N⟩ (((P.length+t.size:Nat):Int)-1)=some (t.size:Int):=by
 induction t with
 |lf n=>
  intro⟨Y,J,Z,h4⟩ P R N fu hN X hl
  have hNl:=congrArg List.length hN
  simp only [jE,Tr.flat_len]at hNl
  simp only [Tr.size]at X hNl ⊢
  obtain⟨fu,rfl⟩: ∃k,fu=k+1:=⟨fu-1,by omega⟩
  unfold ib
  have I:N[P.length]? =some (dK n (-1) (-1)):=by
   rw [hN,jr,qq (iQ _),xp];rfl
  rw [bo (by simp;omega),j5 P.length (by omega),I]
  have e1:(dK n (-1) (-1)).Tag=n.Tag:=rfl
  simp only [bt]
  rw [e1,nU]
  have e:CM n.Tag=0:=by unfold CM;rw [Y];rfl
  simp only [e,bt,iH]
  have e2:Dd (dK n (-1) (-1))=true:=J
  rw [e2]
  simp [dK]
 |un n a ih=>
  intro⟨⟨Y,J,Z,h4⟩,ha⟩ P R N fu hN X hl
  obtain⟨m,hm⟩: ∃m,m=dK n (((P.length+a.size:Nat):Int)-1) (-1):=⟨_,rfl⟩
  have hNl:=congrArg List.length hN
  simp only [jE,Tr.flat_len]at hNl
  simp only [Tr.size]at X hNl ⊢
  simp only [Tr.flat,<-hm]at hN
  obtain⟨fu,rfl⟩: ∃k,fu=k+1:=⟨fu-1,by omega⟩
  have hpos:=a.size_pos
  have hi:=ih ha P ([m]++R) N fu (by rw [hN];simp only [jr]) (by omega) hl
  unfold ib
  have I:N[P.length+a.size]? =some m:=by
   rw [hN,jr,jr,<-jr P,qq (by simp [a.flat_len])]
   simp [a.flat_len]
  rw [bo (by simp;omega),j5 (P.length+a.size) (by omega),I]
  simp only [bt]
  have e1:m.Tag=n.Tag:=by rw [hm];rfl
  rw [e1,nU]
  have e:CM n.Tag=1:=by unfold CM;rw [Y];rfl
  simp only [e,bt,iH]
  have e2:Dd m=true:=by rw [hm];exact J
  have eL:m.L=((P.length+a.size:Nat):Int)-1:=by rw [hm];rfl
  have eR:m.R= -1:=by rw [hm];rfl
  rw [bB (n:=((P.length+(a.size+1):Nat):Int)-1-1) (by omega) (by omega),show(((P.length+(a.size+1):Nat):Int)-1-1)=(((P.length+a.size:Nat):Int)-1)from by omega]
  rw [hi]
  simp only [bt]
  rw [bB (n:=(a.size:Int)+1) (by omega) (by omega)]
  have n1: ¬a.size=0:=by omega
  simp [e2,eL,eR,n1]
 |bi n a b iha ihb=>
  intro⟨⟨Y,J,Z,h4⟩,ha,V⟩ P R N fu hN X hl
  obtain⟨m,hm⟩: ∃m,m=dK n (((P.length+a.size:Nat):Int)-1) (((P.length+a.size+b.size:Nat):Int)-1):=⟨_,rfl⟩
  have hNl:=congrArg List.length hN
  simp only [jE,Tr.flat_len]at hNl
  simp only [Tr.size]at X hNl ⊢
  simp only [Tr.flat,<-hm]at hN
  obtain⟨fu,rfl⟩: ∃k,fu=k+1:=⟨fu-1,by omega⟩
  have hap:=a.size_pos
  have hbp:=b.size_pos
  have hi1:=iha ha P (b.flat (P.length+a.size)++[m]++R) N fu (by rw [hN];simp only [jr]) (by omega) hl
  have hi2:=ihb V (P++a.flat P.length) ([m]++R) N fu (by rw [hN];simp only [jr,jE,a.flat_len]) (by omega) hl
  rw [jE,a.flat_len]at hi2
  unfold ib
  have I:N[P.length+a.size+b.size]? =some m:=by
   rw [hN,jr,jr,<-jr P,qq (by simp [a.flat_len,b.flat_len];omega)]
   have:P.length+a.size+b.size-(P++(a.flat P.length++b.flat (P.length+a.size))).length=0:=by simp [a.flat_len,b.flat_len];omega
   rw [this];rfl
  rw [bo (by simp;omega),j5 (P.length+a.size+b.size) (by omega),I]
  simp only [bt]
  have e1:m.Tag=n.Tag:=by rw [hm];rfl
  rw [e1,nU]
  have e:CM n.Tag=2:=by unfold CM;rw [Y];rfl
  simp only [e,bt,iH]
  have e2:Dd m=true:=by rw [hm];exact J
  have eL:m.L=((P.length+a.size:Nat):Int)-1:=by rw [hm];rfl
  have eR:m.R=((P.length+a.size+b.size:Nat):Int)-1:=by rw [hm];rfl
  rw [bB (n:=((P.length+(a.size+b.size+1):Nat):Int)-1-1) (by omega) (by omega),show(((P.length+(a.size+b.size+1):Nat):Int)-1-1)=(((P.length+a.size+b.size:Nat):Int)-1)from by omega]
  rw [hi2]
  simp only [bt]
  rw [bB (n:=((P.length+a.size+b.size:Nat):Int)-1-(b.size:Int)) (by omega) (by omega),show((P.length+a.size+b.size:Nat):Int)-1-(b.size:Int)=((P.length+a.size:Nat):Int)-1 from by omega]
  rw [hi1]
  simp only [bt]
  rw [bB (n:=(a.size:Int)+(b.size:Int)) (by omega) (by omega),bB (n:=(a.size:Int)+(b.size:Int)+1) (by omega) (by omega)]
  have n1: ¬a.size=0:=by omega
  have n2: ¬b.size=0:=by omega
  have e5:(P.length:Int)+(a.size:Int)+(b.size:Int)-1-(b.size:Int)=(P.length:Int)+(a.size:Int)-1:=by omega
  simp [e2,eL,eR,n1,n2,e5]
def LK(N:List aj)(hN:N.length<=100000): ∀(fu q:Nat),q<=N.length->q<fu-> ∃k:Nat,ib fu ⟨N⟩ ((q:Int)-1)=some (k:Int)/\(k=0\/ ∃(t:Tr) (P R:List aj),t.wf/\t.size=k/\N=P++t.flat P.length++R/\P.length+k=q):=by
 intro fu
 induction fu with
 |zero=>intro q _ h;omega
 |succ fu ih=>
  intro q hq X
  unfold ib
  by_cases h0:q=0
  ·subst h0
   exact⟨0,by rw [bD (by simp)];rfl,.inl rfl⟩
  rw [bo (by simp;omega),j5 (q-1) (by omega)]
  have hlt:q-1<N.length:=by omega
  rw [qY hlt]
  obtain⟨n,hn⟩: ∃n,n=N[q-1]:=⟨_,rfl⟩
  rw [<-hn]
  have hd:N=N.take (q-1)++([n]++N.drop q):=by
   have Y:=r0 (q-1) N
   rw [xu hlt,<-hn,show q-1+1=q from by omega]at Y
   exact Y.symm
  simp only [bt,nU,iH]
  cases hk:pk n.Tag with
  |none=>
   have e:CM n.Tag= -1:=by unfold CM;rw [hk]
   exact⟨0,by simp [e],.inl rfl⟩
  |some k=>
   have e:CM n.Tag=(k:Int):=by unfold CM;rw [hk]
   have hk3:k=0\/k=1\/k=2:=by
    unfold pk at hk
    repeat' split at hk
    all_goals simp at hk
    all_goals omega
   cases hc:Dd n with
   |false=>exact⟨0,by simp [e,hc],.inl rfl⟩
   |true=>
    rcases hk3 with rfl|rfl|rfl
    ·rw [e]
     by_cases hL:n.L= -1/\n.R= -1
     ·refine⟨1,by simp [hL],.inr ⟨.lf (dK n (-1) (-1)),N.take (q-1),N.drop q,⟨hk,hc,rfl,rfl⟩,rfl,?_,by simp;omega⟩⟩
      simp only [Tr.flat]
      rw [uM hL.1 hL.2,jr]
      exact hd
     ·refine⟨0,?_,.inl rfl⟩
      have:(n.L != -1||n.R != -1)=true:=by
       rw [vu,q0,q0]
       by_cases hl:n.L= -1
       ·exact .inr fun h=>hL ⟨hl,h⟩
       ·exact .inl hl
      simp [this]
    ·rw [e,bB (by omega) (by omega)]
     have e9:(((q-1:Nat):Int)-1)=(q:Int)-1-1:=by omega
     obtain⟨r2,J,h2'⟩:=ih (q-1) (by omega) (by omega)
     rw [e9]at J
     rw [J]
     rcases h2' with rfl|⟨t,P,R,hw,hs,hN2,hl⟩
     ·exact⟨0,by simp,.inl rfl⟩
     ·have hp:=t.size_pos
      by_cases hL:n.L=(q:Int)-1-1/\n.R= -1
      ·refine⟨r2+1,?_,.inr ⟨.un (dK n (-1) (-1)) t,P,N.drop q,⟨⟨hk,hc,rfl,rfl⟩,hw⟩,by simp only [Tr.size];omega,?_,by omega⟩⟩
       ·simp only [bt]
        rw [bB (n:=(r2:Int)+1) (by omega) (by omega)]
        have: ¬(r2=0):=by omega
        simp [hL,this]
       ·simp only [Tr.flat]
        rw [uM (by rw [hL.1];omega) hL.2]
        have D:N.take (q-1)=P++t.flat P.length:=by
         rw [hN2,vy (by simp [t.flat_len];omega),nE (by simp [t.flat_len];omega)]
        rw [D]at hd
        simpa only [jr] using hd
      ·refine⟨0,?_,.inl rfl⟩
       have:(n.L !=(q:Int)-1-1||n.R != -1)=true:=by
        rw [vu,q0,q0]
        by_cases hl:n.L=(q:Int)-1-1
        ·exact .inr fun h=>hL ⟨hl,h⟩
        ·exact .inl hl
       simp [this]
    ·rw [e,bB (n:=(q:Int)-1-1) (by omega) (by omega)]
     have e9:(((q-1:Nat):Int)-1)=(q:Int)-1-1:=by omega
     obtain⟨r2,J,h2'⟩:=ih (q-1) (by omega) (by omega)
     rw [e9]at J
     rw [J]
     rcases h2' with rfl|⟨t,P,R,hw,hs,hN2,hl⟩
     ·exact⟨0,by simp,.inl rfl⟩
     ·have hp:=t.size_pos
      simp only [bt]
      rw [bB (n:=(q:Int)-1-1-(r2:Int)) (by omega) (by omega)]
      have e8:(((q-1-r2:Nat):Int)-1)=(q:Int)-1-1-(r2:Int):=by omega
      have n2: ¬(r2=0):=by omega
      obtain⟨r3,Z,h3'⟩:=ih (q-1-r2) (by omega) (by omega)
      rw [e8]at Z
      rw [Z]
      rcases h3' with rfl|⟨t3,P3,R3,hw3,hs3,hN3,hl3⟩
      ·exact⟨0,by simp,.inl rfl⟩
      ·have hp3:=t3.size_pos
       have n3: ¬(r3=0):=by omega
       by_cases hL:n.R=(q:Int)-1-1/\n.L=(q:Int)-1-1-(r2:Int)
       ·refine⟨r3+r2+1,?_,.inr ⟨.bi (dK n (-1) (-1)) t3 t,P3,N.drop q,⟨⟨hk,hc,rfl,rfl⟩,hw3,hw⟩,by simp only [Tr.size];omega,?_,by omega⟩⟩
        ·simp only [bt]
         rw [bB (n:=(r3:Int)+(r2:Int)) (by omega) (by omega),bB (n:=(r3:Int)+(r2:Int)+1) (by omega) (by omega)]
         simp [hL,n2,n3]
        ·simp only [Tr.flat]
         rw [uM (by rw [hL.2];omega) (by rw [hL.1];omega)]
         have D:N.take (q-1)=P++t.flat P.length:=by
          rw [hN2,vy (by simp [t.flat_len];omega),nE (by simp [t.flat_len];omega)]
         have hP:P=N.take P.length:=by
          conv=>rhs;rw [hN2,jr,vy (iQ _),nE (iQ _)]
         have hP3:P=P3++t3.flat P3.length:=by
          rw [hP]
          have:P.length=P3.length+t3.size:=by omega
          conv=>lhs;rw [this,hN3]
          rw [vy (by simp [t3.flat_len]),nE (by simp [t3.flat_len])]
         have hPl:P.length=P3.length+t3.size:=by omega
         rw [D,hPl]at hd
         rw [hP3]at hd
         simpa only [jr] using hd
       ·clear ih hN2 hN3
        refine⟨0,?_,.inl rfl⟩
        have:(n.R !=(q:Int)-1-1||n.L !=(q:Int)-1-1-(r2:Int))=true:=by
         rw [vu,q0,q0]
         by_cases hl:n.R=(q:Int)-1-1
         ·exact .inr fun h=>hL ⟨hl,h⟩
         ·exact .inl hl
        have h' :=this
        rw [vu,q0,q0]at h'
        simp [n2,n3]
        intro Y J
        exact absurd J (by rcases h' with h' |h';exact absurd Y h';exact h')
def Ag(e:ai):ui e=some (dX e.Nodes):=by
 unfold ui dX
 by_cases h:1<=e.Nodes.length/\e.Nodes.length<=1000
 ·rw [bD (by simp;omega),bB (by omega) (by omega)]
  unfold Ae
  obtain⟨k,Y,J⟩:=LK e.Nodes (by omega) fQ e.Nodes.length (iQ _) (tU (yX _) (jk (by omega)))
  have h1' :ib fQ e ((e.Nodes.length:Int)-1)=some (k:Int):=Y
  rw [h1']
  simp only [bt]
  congr 1
  rw [zk]
  constructor
  ·intro hk
   have hk' :k=e.Nodes.length:=by have:=eq_of_beq hk;omega
   rcases J with rfl|⟨t,P,R,hw,hs,hN,hl⟩
   ·omega
   ·have hP:P=[]:=tX (by omega)
    subst hP
    have hR:R=[]:=by
     have:=congrArg List.length hN
     simp [t.flat_len]at this
     exact tX (by omega)
    subst hR
    have hN' :e.Nodes=t.flat 0:=by simpa using hN
    rw [hN',np hw (by omega)];rfl
  ·intro hi
   cases D:iF e.Nodes with
   |none=>rw [D]at hi;cases hi
   |some t=>
    obtain⟨hw,hN,hs⟩:=iR D
    have hlen:e.Nodes.length=t.size:=by rw [hN,t.flat_len]
    have Z:=LJ t hw [] [] e.Nodes fQ (by simpa using hN) (jk (by omega)) (by omega)
    simp only [pM,pL]at Z
    rw [<-hlen]at Z
    have h4:some (k:Int)=some (e.Nodes.length:Int):=Y.symm.trans Z
    simpa using h4
 ·rw [bo (by simp;omega)]
  simp only [bt]
  congr 1
  symm
  rw [wv]
  intro hi
  cases D:iF e.Nodes with
  |none=>rw [D]at hi;cases hi
  |some t=>
   obtain⟨hw,hN,hs⟩:=iR D
   have hlen:e.Nodes.length=t.size:=by rw [hN,t.flat_len]
   have:=t.size_pos
   omega
def qD(h:dX ns=true):1<=ns.length/\ns.length<=1000:=by
 unfold dX at h
 cases D:iF ns with
 |none=>rw [D]at h;cases h
 |some t=>
  obtain⟨hw,hN,hs⟩:=iR D
  have hlen:ns.length=t.size:=by rw [hN,t.flat_len]
  have:=t.size_pos
  omega

def tK{α:Type} [DecidableEq α]:α->List α->List α
 |_,[]=>[]
 |p,x::t=>if x=p then tK x t else x::tK x t
def AN [DecidableEq α](p:α):tK p []=[]:=by unfold tK;rfl
def x9 [DecidableEq α]{p x:α}(h:x=p)(t:List α):tK p (x::t)=tK x t:=by
 conv=>lhs;unfold tK
 rw [bD h]
def Db [DecidableEq α]{p x:α}(h: ¬x=p)(t:List α):tK p (x::t)=x::tK x t:=by
 conv=>lhs;unfold tK
 rw [bo h]
def vo{α:Type} [DecidableEq α]:List α->List α
 |[]=>[]
 |x::t=>x::tK x t
def AO{α:Type} [DecidableEq α]: ∀(p:α) (l:List α) (z:α),z∈tK p l->z∈l
 |p,x::t,z,h=>by
  unfold tK at h
  split at h
  ·exact mZ _ (AO x t z h)
  ·rcases fT.1 h with rfl|h
   ·exact lK ..
   ·exact mZ _ (AO x t z h)
def Ao{α:Type} [DecidableEq α]: ∀(p:α) (l:List α) (z:α),z∈l->z=p\/z∈tK p l
 |p,x::t,z,h=>by
  unfold tK
  by_cases I:x=p
  ·rw [bD I]
   rcases fT.1 h with rfl|h
   ·exact .inl I
   ·rcases Ao x t z h with h|h
    ·exact .inl (h.trans I)
    ·exact .inr h
  ·rw [bo I]
   rcases fT.1 h with rfl|h
   ·exact .inr (lK ..)
   ·rcases Ao x t z h with h|h
    ·exact .inr (by rw [h];exact lK ..)
    ·exact .inr (mZ _ h)
def BX [DecidableEq α](l:List α)(z:α):z∈vo l↔z∈l:=by
 cases l with
 |nil=>exact sd
 |cons x t=>
  constructor
  ·intro h
   rcases fT.1 h with rfl|h
   ·exact lK ..
   ·exact mZ _ (AO x t z h)
  ·intro h
   rcases fT.1 h with rfl|h
   ·exact lK ..
   ·rcases Ao x t z h with rfl|h
    ·exact lK ..
    ·exact mZ _ h
def GA(p:List Int)(hp:p.length<=8000)(i:Nat)(y:List Int)(hy:i+y.length=p.length): ∀(k i1:Nat) (x:List Int) (x1:Nat),i1+k=y.length->0<i1->x.length=p.length->x1+1<=i+i1->x.drop (i+i1-1)=p.drop (i+i1-1)->
  dz i y k i1 x (x1:Int)=some (x.take x1++tK ((p[i+i1-1]?).getD 0) (p.drop (i+i1))):=by
 intro k
 induction k with
 |zero=>
  intro i1 x x1 Y h0 I J Z
  simp only [dz]
  have hx1:x1<=x.length:=by omega
  rw [uK hx1 (iQ _)]
  simp only [bt,zn,tR]
  rw [show((0:Int))=((0:Nat):Int)from rfl,uK (mC _) (by simp;omega)]
  simp only [bt,tQ]
  have hn:p.drop (i+i1)=[]:=Ct (by omega)
  rw [hn,AN,rD,vy (by simp;omega),vt,Nat.min_self]
 |succ k ih=>
  intro i1 x x1 Y h0 I J Z
  have e1:x[i+i1]? =p[i+i1]? :=by
   have:=congrArg (fun l:List Int=>l[1]?) Z
   simp only [tW]at this
   rwa [show i+i1-1+1=i+i1 from by omega]at this
  have e0:x[i+i1-1]? =p[i+i1-1]? :=by
   have:=congrArg (fun l:List Int=>l[0]?) Z
   simpa only [tW,tP] using this
  have hlt:i+i1<p.length:=by omega
  have g1:Bw x (i:Int) y.length (i1:Int)=some p[i+i1]:=by
   unfold Bw
   rw [bD (by omega),show(i:Int)+(i1:Int)=((i+i1:Nat):Int)from by omega,cw,e1,qY hlt]
  have g0:Bw x (i:Int) y.length (IntKind.i64.wrap ((i1:Int)-1))=some p[i+i1-1]:=by
   rw [bB (by omega) (by omega)]
   unfold Bw
   rw [bD (by omega),show(i:Int)+((i1:Int)-1)=((i+i1-1:Nat):Int)from by omega,cw,e0,qY (by omega)]
  have hd:p.drop (i+i1)=p[i+i1]::p.drop (i+i1+1):=xu hlt
  have hp1:(p[i+i1-1]?).getD 0=p[i+i1-1]:=by rw [qY (by omega)];rfl
  simp only [dz,g1,g0,bt]
  rw [hd,hp1]
  by_cases hx2:p[i+i1]=p[i+i1-1]
  ·rw [bo (by simp [hx2])]
   have h3' :x.drop (i+(i1+1)-1)=p.drop (i+(i1+1)-1):=by
    have:=congrArg (List.drop 1) Z
    rwa [pX,pX,show i+i1-1+1=i+(i1+1)-1 from by omega]at this
   rw [ih (i1+1) x x1 (by omega) (by omega) I (by omega) h3']
   rw [x9 hx2,show i+(i1+1)-1=i+i1 from by omega,qY hlt,show i+(i1+1)=i+i1+1 from by omega]
   rfl
  ·rw [bD (by simp [hx2]),cw,qY (by omega)]
   simp only [bt,tR]
   rw [bB (by omega) (by omega),show((x1:Int)+1)=((x1+1:Nat):Int)from by omega]
   have h3' :(x.set x1 p[i+i1]).drop (i+(i1+1)-1)=p.drop (i+(i1+1)-1):=by
    rw [List.drop_set_of_lt (by omega)]
    have:=congrArg (List.drop 1) Z
    rwa [pX,pX,show i+i1-1+1=i+(i1+1)-1 from by omega]at this
   rw [ih (i1+1) _ (x1+1) (by omega) (by omega) (by simpa using I) (by omega) h3']
   rw [Db hx2,show i+(i1+1)-1=i+i1 from by omega,qY hlt,show i+(i1+1)=i+i1+1 from by omega]
   have D:(x.set x1 p[i+i1]).take (x1+1)=x.take x1++[p[i+i1]]:=by
    rw [HQ (by simp;omega),List.take_set_of_le (by omega)]
    simp
   rw [D]
   simp
def wi(p:List Int)(hp:p.length<=8000):gw p=some (vo p):=by
 unfold gw
 by_cases J:p.length<2
 ·rw [bD (by simp;omega)]
  match p,J with
  |[],_=>rfl
  |[x],_=>rfl
 ·rw [bo (by simp;omega)]
  have key: ∀(l:List Int) (i:Nat),p.drop i=l->0<i->i<=p.length->vo p=p.take i++tK ((p[i-1]?).getD 0) (p.drop i)->ef p l i=some (vo p):=by
   intro l
   induction l with
   |nil=>
    intro i Y h0 hle Z
    have:=Bi.1 Y
    simp only [ef]
    rw [Z,Y,nE (by omega),AN,rD]
   |cons x t ih=>
    intro i Y h0 hle Z
    have hi:i<p.length:=by
     rcases ll i p.length with h|h
     ·exact h
     ·rw [Ct h]at Y;cases Y
    have I:x=p[i]:=by rw [xu hi]at Y;exact(List.cons.inj Y).1.symm
    have D:p.drop (i+1)=t:=by rw [<-pX,Y];rfl
    have hp1:(p[i-1]?).getD 0=p[i-1]:=by rw [qY (by omega)];rfl
    simp only [ef]
    rw [bB (by omega) (by omega),show(i:Int)-1=((i-1:Nat):Int)from by omega,cw,qY (by omega)]
    simp only [bt]
    by_cases he:x=p[i-1]
    ·rw [bD (by simp [he])]
     rw [uK hle (iQ _)]
     simp only [bt,zn]
     rw [GA p hp i (p.drop i) (by simp;omega) _ 1 p i (by simp;omega) (by omega) rfl (by omega) (by simp)]
     rw [Z,Y,hp1,x9 he,<-D,I]
     rw [show i+1-1=i from by omega,qY hi];rfl
    ·rw [bo (by simp [he])]
     refine ih (i+1) D (by omega) (by omega) ?_
     rw [Z,Y,hp1,Db he,HQ hi,<-D,I,show i+1-1=i from by omega,qY hi]
     rw [jr];rfl
  have hpc:p=p[0]::p.drop 1:=by
   have:=xu (l:=p) (i:=0) (by omega)
   simpa using this
  refine key (p.drop 1) 1 rfl (by omega) (by omega) ?_
  have e:(p[1-1]?).getD 0=p[0]:=by simp [qY (show 0<p.length by omega)]
  rw [e]
  conv=>lhs;rw [hpc]
  have e2:p.take 1=[p[0]]:=by
   conv=>lhs;rw [hpc]
   rfl
  rw [e2];rfl

def BW(l:List Int)(z:Int):z∈sortI l↔z∈l:=by unfold sortI;simp
def wm: ∀(ns:List aj) (out:List Int),out.length+ns.length<=8000-> ∃cs,ii ns out=some cs/\ ∀c,c∈cs↔c∈out\/ ∃n∈ns,n.Tag=2/\n.Col=c
 |[],out,h=>by
  unfold ii;rw [uI]
  rw [bD (by simp at h;omega)]
  simp only [bt]
  rw [wi _ (by rw [sk];simpa using h)]
  exact⟨_,rfl,fun c=>by rw [BX,BW];simp⟩
 |n::ns,out,h=>by
  simp only [i6]at h
  unfold ii
  by_cases D:n.Tag=2
  ·rw [bD (by simp [D]),cC (by simp;omega)]
   simp only [bt]
   obtain⟨cs,Y,J⟩:=wm ns (out++[n.Col]) (by simp;omega)
   exact⟨cs,Y,fun c=>by rw [J];simp [D,or_assoc,eq_comm]⟩
  ·rw [bo (by simp [D])]
   obtain⟨cs,Y,J⟩:=wm ns out (by omega)
   exact⟨cs,Y,fun c=>by rw [J];simp [D]⟩
def xa(e:ai)(h:dX e.Nodes=true): ∃cs,kb e=some cs/\ ∀c,c∈cs↔ ∃n∈e.Nodes,n.Tag=2/\n.Col=c:=by
 have hl:=qD h
 unfold kb
 rw [jI e (by omega),h]
 obtain⟨cs,Y,J⟩:=wm e.Nodes [] (by simp;omega)
 exact⟨cs,by simpa using Y,fun c=>by rw [J];simp⟩
def kn(tag l r:Int):Int×Bool:=(qG tag l r).getD (0,false)
def vj(tag l r:Int):qG tag l r=some (kn tag l r):=by
 unfold kn qG oO
 simp only [bt]
 repeat' split
 all_goals simp
def k4(k:Int):Prop:=k=0\/k=1\/k=2\/k=3
def NI(tag l r:Int):k4 (kn tag l r).1:=by
 unfold kn qG oO
 simp only [bt]
 repeat' split
 all_goals simp [k4]
def GS(kinds:List Int)(n:aj)(x:Int)(I:k4 x)(hk:pk n.Tag=some 1):iz kinds n [x]=some (if(kn n.Tag x 0).2 then((kn n.Tag x 0).1,0)else(0,201)):=by
 obtain⟨tag,L,R,col,v⟩:=n
 have D:tag=4\/tag=5\/tag=6\/tag=7:=by
  unfold pk at hk
  repeat' split at hk
  all_goals simp at hk
  rename_i h
  have h:4<=tag/\tag<=7:=h
  omega
 rcases D with rfl|rfl|rfl|rfl<;>rcases I with rfl|rfl|rfl|rfl<;>rfl
def GR(kinds:List Int)(n:aj)(x y:Int)(I:k4 x)(hy:k4 y)(hk:pk n.Tag=some 2):iz kinds n [x,y]=some (if(kn n.Tag x y).2 then((kn n.Tag x y).1,0)else(0,201)):=by
 obtain⟨tag,L,R,col,v⟩:=n
 have D:tag=12\/tag=13\/tag=14\/tag=15\/tag=16\/tag=17\/tag=18\/tag=19\/tag=20\/tag=21\/tag=22\/tag=23:=by
  unfold pk at hk
  repeat' split at hk
  all_goals simp at hk
  rename_i h
  have h:12<=tag/\tag<=23:=h
  omega
 rcases D with rfl|rfl|rfl|rfl|rfl|rfl|rfl|rfl|rfl|rfl|rfl|rfl<;>rcases I with rfl|rfl|rfl|rfl<;>rcases hy with rfl|rfl|rfl|rfl<;>rfl
def kd(kinds:List Int):Tr->Option Int
 | .lf n=>if n.Tag=1 then some n.Value.Kind else some ((kinds[n.Col.toNat]?).getD 0)
 | .un n a=>(kd kinds a).bind fun x=>if(kn n.Tag x 0).2 then some (kn n.Tag x 0).1 else none
 | .bi n a b=>(kd kinds a).bind fun x=>(kd kinds b).bind fun y=>if(kn n.Tag x y).2 then some (kn n.Tag x y).1 else none
def Hi(kinds:List Int)(n:aj)(a:Tr):kd kinds (.un n a)=(kd kinds a).bind fun x=>if(kn n.Tag x 0).2 then some (kn n.Tag x 0).1 else none:=rfl
def EF(kinds:List Int)(n:aj)(a b:Tr):kd kinds (.bi n a b)=(kd kinds a).bind fun x=>(kd kinds b).bind fun y=>if(kn n.Tag x y).2 then some (kn n.Tag x y).1 else none:=rfl
def rx(m:Nat):Tr->Prop
 | .lf n=>n.Tag=2->n.Col<m
 | .un _ a=>rx m a
 | .bi _ a b=>rx m a/\rx m b
def RH(h:pk tag=some 0):tag=1\/tag=2:=by
 unfold pk at h
 repeat' split at h
 all_goals simp at h
 assumption
def PE{k:Nat}(h:pk tag=some k)(D:tag=2):k=0:=by subst D;simp [pk]at h;exact h.symm
def R1{n:aj}(h:Dd n=true)(D:n.Tag=1):vS n.Value=true:=by
 have J:=iH n
 rw [h]at J
 unfold jv at J
 rw [bD (by simp [D]),nV]at J
 simp at J
 exact J.1
def KT{n:aj}(h:Dd n=true)(D:n.Tag=2):0<=n.Col/\n.Col<16:=by
 have J:=iH n
 rw [h]at J
 unfold jv at J
 rw [bo (by simp [D]),bD (by simp [D])]at J
 simp at J
 exact⟨J.1.2,J.2⟩
def J5{kinds:List Int}(hk: ∀k∈kinds,k4 k): ∀(t:Tr),t.wf-> ∀{k},kd kinds t=some k->k4 k
 | .lf n,⟨Y,J,_,_⟩,k,h=>by
  unfold kd at h
  split at h
  ·rename_i D
   have:=D3 (R1 J D)
   cases h;unfold k4;omega
  ·injection h with h
   subst h
   cases hc:kinds[n.Col.toNat]? with
   |none=>exact .inl rfl
   |some z=>exact hk z (rZ hc)
 | .un n a,_,k,h=>by
  unfold kd at h
  cases ha:kd kinds a with
  |none=>rw [ha]at h;cases h
  |some x=>
   rw [ha,bt]at h
   split at h
   ·cases h;exact NI ..
   ·cases h
 | .bi n a b,_,k,h=>by
  unfold kd at h
  cases ha:kd kinds a with
  |none=>rw [ha]at h;cases h
  |some x=>
   cases V:kd kinds b with
   |none=>rw [ha,V]at h;cases h
   |some y=>
    rw [ha,V]at h
    simp only [bt]at h
    split at h
    ·cases h;exact NI ..
    ·cases h
def F0(stack l:List Int)(h:stack.length+l.length<=100000):m6 (stack++l) (l.length:Int)=some (l,stack):=by
 unfold m6 co
 have e:IntKind.i64.wrap (((stack++l).length:Int)-(l.length:Int))=(stack.length:Int):=by
  rw [jE,bB (by omega) (by omega)];omega
 rw [e,gU stack.length (stack++l).length rfl rfl (by simp) (iQ _)]
 simp only [bt,zn,Dw (iQ _),List.drop_length,iW]
 rw [cC (by simp;omega)]
 simp only [bt,iW]
 rw [gU (i:=0) 0 stack.length rfl rfl (mC _) (by simp)]
 simp
def D8(stack:List Int){b:Int}(h:b≠0):j7 b stack=some (0,b):=by
 unfold j7;rw [bD (by simpa using h)]
def li{k:Nat}(h:pk tag=some k):nl tag=some (k:Int):=by
 rw [vm];unfold CM;rw [h]
def Ie(kinds:List Int)(hk: ∀k∈kinds,k4 k)(t:Tr):t.wf->rx kinds.length t-> ∀(s:Nat) (rest:List aj) (stack:List Int),stack.length+t.size<=50000->
  gj (iz kinds) (t.flat s++rest) 0 stack=match kd kinds t with
   |some k=>gj (iz kinds) rest 0 (stack++[k])
   |none=>some (0,201):=by
 induction t with
 |lf n=>
  intro⟨Y,J,Z,h4⟩ hc s rest stack hl
  simp only [Tr.flat,Tr.size,xr,iW]at hl ⊢
  rw [gj]
  have e1:(dK n (-1) (-1)).Tag=n.Tag:=rfl
  rw [e1,li Y]
  have h0:=F0 stack [] (by simp;omega)
  simp only [rD,pM]at h0
  simp only [bt]
  rw [h0]
  simp only [bt]
  have hv:iz kinds (dK n (-1) (-1)) []=(kd kinds (.lf n)).map (fun k=>(k,(0:Int))):=by
   unfold iz ka kd
   simp only [e1]
   rcases RH Y with D|D
   ·rw [bD (by simp [D]),bD D];rfl
   ·rw [bo (by simp [D]),bD (by simp [D]),bo (by simp [D])]
    have V:=KT J D
    have hm:n.Col<kinds.length:=hc D
    have e2:(dK n (-1) (-1)).Col=n.Col:=rfl
    rw [e2,j5 n.Col.toNat (by omega),qY (by omega)]
    rfl
  rw [hv]
  have: ∃k,kd kinds (.lf n)=some k:=by unfold kd;split<;>exact⟨_,rfl⟩
  obtain⟨k,hk1⟩:=this
  rw [hk1]
  simp only [yn,bt]
  rw [bo (by simp),cC (by simp;omega)]
  rfl
 |un n a ih=>
  intro⟨⟨Y,J,Z,h4⟩,ha⟩ hc s rest stack hl
  simp only [Tr.flat,Tr.size,jr]at hl ⊢
  rw [Hi,ih ha hc s _ stack (by omega)]
  cases I:kd kinds a with
  |none=>rfl
  |some x=>
   have hx4:=J5 hk a ha I
   simp only [bt,xr,iW]
   rw [gj]
   have e1:(dK n (((s+a.size:Nat):Int)-1) (-1)).Tag=n.Tag:=rfl
   rw [e1,li Y]
   have h0:=F0 stack [x] (by simp;omega)
   simp only [bt]
   have e0:(([x]:List Int).length:Int)=((1:Nat):Int):=rfl
   rw [<-e0,h0]
   simp only [bt]
   rw [GS kinds _ x hx4 (by rw [e1];exact Y),e1]
   cases V:(kn n.Tag x 0).2 with
   |true=>
    simp only [fP,bt]
    rw [bo (by simp),cC (by simp;omega)]
    rfl
   |false=>
    simp only [kP,iB,bt]
    rw [bD (by decide),D8 _ (by decide)]
 |bi n a b iha ihb=>
  intro⟨⟨Y,J,Z,h4⟩,ha,V⟩ ⟨hca,hcb⟩ s rest stack hl
  simp only [Tr.flat,Tr.size,jr]at hl ⊢
  rw [EF,iha ha hca s _ stack (by omega)]
  cases I:kd kinds a with
  |none=>rfl
  |some x=>
   have hx4:=J5 hk a ha I
   simp only [bt]
   rw [ihb V hcb (s+a.size) _ (stack++[x]) (by have:=a.size_pos;simp;omega)]
   cases hy:kd kinds b with
   |none=>rfl
   |some y=>
    have hy4:=J5 hk b V hy
    have hap:=a.size_pos
    simp only [bt,xr,iW]
    rw [gj]
    have e1:(dK n (((s+a.size:Nat):Int)-1) (((s+a.size+b.size:Nat):Int)-1)).Tag=n.Tag:=rfl
    rw [e1,li Y]
    have h0:=F0 stack [x,y] (by simp;omega)
    simp only [bt]
    have e0:(([x,y]:List Int).length:Int)=((2:Nat):Int):=rfl
    have e9:stack++[x]++[y]=stack++[x,y]:=by simp
    rw [<-e0,e9,h0]
    simp only [bt]
    rw [GR kinds _ x y hx4 hy4 (by rw [e1];exact Y),e1]
    cases V:(kn n.Tag x y).2 with
    |true=>
     simp only [fP,bt]
     rw [bo (by simp),cC (by simp;omega)]
     rfl
    |false=>
     simp only [kP,iB,bt]
     rw [bD (by decide),D8 _ (by decide)]
def Jx(kinds:List Int)(hk: ∀k∈kinds,k4 k)(t:Tr):t.wf->rx kinds.length t-> ∀(rest:List aj) (own:List Int),own.length+t.size<=50000->
  (kd kinds t=none/\cY kinds (t.flat own.length++rest) own=some (0,201))\/
  (∃k w,kd kinds t=some k/\w.length+1=t.size/\cY kinds (t.flat own.length++rest) own=cY kinds rest (own++w++[k])):=by
 induction t with
 |lf n=>
  intro⟨Y,J,Z,h4⟩ hc rest own hl
  simp only [Tr.flat,Tr.size,xr,iW]at hl ⊢
  refine .inr ?_
  have e1:(dK n (-1) (-1)).Tag=n.Tag:=rfl
  unfold kd
  rcases RH Y with D|D
  ·refine⟨_,[],bD D,rfl,?_⟩
   rw [cY]
   rw [e1,bD (by simp [D]),cC (by simp;omega)]
   simp only [bt,rD]
   rfl
  ·refine⟨_,[],bo (by simp [D]),rfl,?_⟩
   have V:=KT J D
   have hm:n.Col<kinds.length:=hc D
   have e2:(dK n (-1) (-1)).Col=n.Col:=rfl
   rw [cY]
   rw [e1,bo (by simp [D]),bD (by simp [D]),e2,j5 n.Col.toNat (by omega),qY (by omega)]
   simp only [bt,rD,BE]
   rw [cC (by simp;omega)]
   rfl
 |un n a ih=>
  intro⟨⟨Y,J,Z,h4⟩,ha⟩ hc rest own hl
  have hap:=a.size_pos
  simp only [Tr.flat,Tr.size,jr]at hl ⊢
  rcases ih ha hc ([dK n (((own.length+a.size:Nat):Int)-1) (-1)]++rest) own (by omega)with⟨I,he⟩|⟨x,w,I,hw,he⟩
  ·exact .inl ⟨by rw [Hi,I];rfl,by rw [he]⟩
  ·rw [he]
   rw [Hi,I]
   simp only [bt,xr,iW]
   have e1:(dK n (((own.length+a.size:Nat):Int)-1) (-1)).Tag=n.Tag:=rfl
   have n1:n.Tag≠1:=fun h=>by rw [h]at Y;simp [pk]at Y
   have n2:n.Tag≠2:=fun h=>by rw [h]at Y;simp [pk]at Y
   have hstep:cY kinds (dK n (((own.length+a.size:Nat):Int)-1) (-1)::rest) (own++w++[x])=if(kn n.Tag x 0).2 then cY kinds rest (own++w++[x]++[(kn n.Tag x 0).1])else some (0,201):=by
    rw [cY]
    rw [e1,bo (by simpa using n1),bo (by simpa using n2)]
    have eL:(dK n (((own.length+a.size:Nat):Int)-1) (-1)).L=((own.length+a.size:Nat):Int)-1:=rfl
    have eR:(dK n (((own.length+a.size:Nat):Int)-1) (-1)).R= -1:=rfl
    rw [eL,eR,j5 (own++w).length (by simp;omega),qq (iQ _),xp]
    simp only [Fs,bt]
    rw [bo (by decide)]
    unfold pf
    rw [e1,vj]
    simp only [bt]
    cases V:(kn n.Tag x 0).2 with
    |true=>
     simp only [nC,kP,iB,fP]
     rw [cC (by simp;omega)];rfl
    |false=>rfl
   rw [hstep]
   cases V:(kn n.Tag x 0).2 with
   |true=>exact .inr ⟨(kn n.Tag x 0).1,w++[x],by simp,by simp;omega,by simp⟩
   |false=>exact .inl ⟨by simp,by simp⟩
 |bi n a b iha ihb=>
  intro⟨⟨Y,J,Z,h4⟩,ha,V⟩ ⟨hca,hcb⟩ rest own hl
  have hap:=a.size_pos
  have hbp:=b.size_pos
  simp only [Tr.flat,Tr.size,jr]at hl ⊢
  obtain⟨m,hm⟩: ∃m,m=dK n (((own.length+a.size:Nat):Int)-1) (((own.length+a.size+b.size:Nat):Int)-1):=⟨_,rfl⟩
  rw [<-hm]
  rcases iha ha hca (b.flat (own.length+a.size)++([m]++rest)) own (by omega)with⟨I,he⟩|⟨x,w,I,hw,he⟩
  ·exact .inl ⟨by rw [EF,I];rfl,by rw [he]⟩
  ·rw [he]
   have hl2:(own++w++[x]).length=own.length+a.size:=by simp;omega
   rw [<-hl2]
   rcases ihb V hcb ([m]++rest) (own++w++[x]) (by rw [hl2];omega)with⟨hy,he2⟩|⟨y,w2,hy,hw2,he2⟩
   ·exact .inl ⟨by rw [EF,I,hy];rfl,by rw [he2]⟩
   ·rw [he2]
    rw [EF,I,hy]
    simp only [bt,xr,iW]
    have e1:m.Tag=n.Tag:=by rw [hm];rfl
    have eL:m.L=((own.length+a.size:Nat):Int)-1:=by rw [hm];rfl
    have eR:m.R=((own.length+a.size+b.size:Nat):Int)-1:=by rw [hm];rfl
    have n1:n.Tag≠1:=fun h=>by rw [h]at Y;simp [pk]at Y
    have n2:n.Tag≠2:=fun h=>by rw [h]at Y;simp [pk]at Y
    have hstep:cY kinds (m::rest) (own++w++[x]++w2++[y])=if(kn n.Tag x y).2 then cY kinds rest (own++w++[x]++w2++[y]++[(kn n.Tag x y).1])else some (0,201):=by
     rw [cY]
     rw [e1,bo (by simpa using n1),bo (by simpa using n2)]
     rw [eL,eR,j5 (own++w).length (by simp;omega)]
     have g1:(own++w++[x]++w2++[y])[(own++w).length]? =some x:=by
      rw [jr,jr,qq (iQ _),xp];rfl
     rw [g1]
     simp only [bt]
     rw [bD (by rw [Cr];omega),j5 (own++w++[x]++w2).length (by simp;omega)]
     have g2:(own++w++[x]++w2++[y])[(own++w++[x]++w2).length]? =some y:=by
      rw [qq (iQ _),xp];rfl
     rw [g2]
     simp only [bt]
     unfold pf
     rw [e1,vj]
     simp only [bt]
     cases V:(kn n.Tag x y).2 with
     |true=>
      simp only [nC,kP,iB,fP]
      rw [cC (by simp;omega)];rfl
     |false=>rfl
    rw [hstep]
    cases V:(kn n.Tag x y).2 with
    |true=>exact .inr ⟨(kn n.Tag x y).1,w++[x]++w2++[y],by simp,by simp;omega,by simp⟩
    |false=>exact .inl ⟨by simp,by simp⟩
def ot(m:Nat)(ns:List aj):Bool:=ns.all fun n=> !((n.Tag==2)&&decide ((m:Int)<=n.Col))
def EX(m:Nat)(n:aj)(ns:List aj):ot m (n::ns)=(!((n.Tag==2)&&decide ((m:Int)<=n.Col))&&ot m ns):=rfl
def ry(m:Nat)(t:Tr):t.wf-> ∀s,ot m (t.flat s)=true->rx m t:=by
 induction t with
 |lf n=>
  intro _ s h D
  simp only [ot,Tr.flat,vb,List.all_nil,zr]at h
  have e1:(dK n (-1) (-1)).Tag=n.Tag:=rfl
  have e2:(dK n (-1) (-1)).Col=n.Col:=rfl
  simp [e1,e2,D]at h
  exact h
 |un n a ih=>
  intro⟨_,ha⟩ s h
  simp only [ot,Tr.flat,List.all_append,iX]at h
  exact ih ha s h.1
 |bi n a b iha ihb=>
  intro⟨_,ha,V⟩ s h
  simp only [ot,Tr.flat,List.all_append,iX]at h
  exact⟨iha ha s h.1.1,ihb V _ h.1.2⟩
def Lo(kinds:List Int):Bool:=kinds.all fun k=>decide (0<=k)&&decide (k<=3)
def EG(k:Int)(ks:List Int):Lo (k::ks)=((decide (0<=k)&&decide (k<=3))&&Lo ks):=rfl
def Hk{kinds:List Int}(h:Lo kinds=true){k:Int}(hk:k∈kinds):k4 k:=by
 have:=jK.1 h k hk
 simp at this
 unfold k4;omega
def gL(e:ai)(kinds:List Int):Int×Int:=
 if dX e.Nodes then if Lo kinds then if ot kinds.length e.Nodes then match (iF e.Nodes).bind (kd kinds)with
  |some k=>(k,0)
  |none=>(0,201)else(0,2)else(0,2)else(0,200)
def A3(e:ai)(kinds:List Int): ∀cs:List Int,kO e kinds cs=if cs.all (fun c=>decide (c<(kinds.length:Int)))then mV e (iz kinds)else some (0,2)
 |[]=>by
  unfold kO
  cases mV e (iz kinds)<;>rfl
 |c::cs=>by
  unfold kO
  rw [A3 e kinds cs]
  by_cases h:(kinds.length:Int)<=c
  ·rw [bD (by simpa using h),bo (by simp;omega)]
  ·rw [bo (by simpa using h)]
   have:c<(kinds.length:Int):=by omega
   simp [this]
def te(e:ai)(kinds:List Int)(hl:e.Nodes.length<=50000):qm e kinds=some (gL e kinds):=by
 unfold qm gL
 rw [jI e (by omega)]
 cases hr:dX e.Nodes with
 |false=>rfl
 |true=>
  simp only [fP,bt]
  rw [bo (by decide)]
  have key: ∀ks:List Int,oh e kinds ks=if Lo ks then(kb e).bind (kO e kinds)else some (0,2):=by
   intro ks
   induction ks with
   |nil=>rfl
   |cons k ks ih=>
    unfold oh
    rw [ih]
    by_cases h:k<0\/3<k
    ·rw [bD (by simpa using h),bo (by simp [Lo];omega)]
    ·rw [bo (by simpa using h)]
     have Y:(decide (0<=k)&&decide (k<=3))=true:=by simp;omega
     rw [EG,Y,xq]
  rw [key]
  cases hk:Lo kinds with
  |false=>rfl
  |true=>
   simp only [fP]
   obtain⟨cs,Y,J⟩:=xa e hr
   rw [Y,bt,A3]
   have hci:cs.all (fun c=>decide (c<(kinds.length:Int)))=ot kinds.length e.Nodes:=by
    rw [zk]
    simp only [jK,Cr,ot,yo,Bool.and_eq_false_iff,beq_eq_false_iff_ne,GY]
    constructor
    ·intro h n hn
     by_cases D:n.Tag=2
     ·exact .inr (by have:=h _ ((J n.Col).2 ⟨n,hn,D,rfl⟩);omega)
     ·exact .inl D
    ·intro h c hc
     obtain⟨n,hn,D,rfl⟩:=(J c).1 hc
     rcases h n hn with h|h
     ·exact absurd D h
     ·omega
   rw [hci]
   cases hc:ot kinds.length e.Nodes with
   |false=>rfl
   |true=>
    simp only [fP]
    cases D:iF e.Nodes with
    |none=>unfold dX at hr;rw [D]at hr;cases hr
    |some t=>
     obtain⟨hw,hN,hs⟩:=iR D
     have hct:=ry kinds.length t hw 0 (by rw [<-hN];exact hc)
     have:=Ie kinds (fun k=>Hk hk) t hw hct 0 [] [] (by simp;omega)
     rw [rD,<-hN]at this
     unfold mV
     rw [this]
     simp only [bt]
     cases kd kinds t with
     |none=>rfl
     |some k=>rfl
def k7(e:ai)(kinds:List Int):qH e kinds=some (gL e kinds):=by
 unfold qH gL
 rw [Ag e]
 cases hr:dX e.Nodes with
 |false=>rfl
 |true=>
  simp only [fP,bt,nC,kP,iB]
  have key2: ∀ns:List aj,mM e kinds ns=if ot kinds.length ns then cY kinds e.Nodes []else some (0,2):=by
   intro ns
   induction ns with
   |nil=>rfl
   |cons n ns ih=>
    unfold mM
    rw [ih,EX]
    cases ((n.Tag==2)&&decide ((kinds.length:Int)<=n.Col))<;>simp
  have key: ∀ks:List Int,pe e kinds ks=if Lo ks then mM e kinds e.Nodes else some (0,2):=by
   intro ks
   induction ks with
   |nil=>rfl
   |cons k ks ih=>
    unfold pe
    rw [ih]
    by_cases h:k<0\/3<k
    ·rw [bD (by simpa using h),bo (by simp [Lo];omega)]
    ·rw [bo (by simpa using h)]
     have Y:(decide (0<=k)&&decide (k<=3))=true:=by simp;omega
     rw [EG,Y,xq]
  rw [key,key2]
  cases hk:Lo kinds with
  |false=>rfl
  |true=>
   cases hc:ot kinds.length e.Nodes with
   |false=>rfl
   |true=>
    simp only [fP]
    cases D:iF e.Nodes with
    |none=>unfold dX at hr;rw [D]at hr;cases hr
    |some t=>
     obtain⟨hw,hN,hs⟩:=iR D
     have hct:=ry kinds.length t hw 0 (by rw [<-hN];exact hc)
     have:=Jx kinds (fun k=>Hk hk) t hw hct [] [] (by simp;omega)
     rw [rD,pM,<-hN]at this
     simp only [bt]
     rcases this with⟨Y,J⟩|⟨k,w,Y,J,Z⟩
     ·rw [Y,J]
     ·rw [Y,Z]
      unfold cY
      have hls:t.size<=1000:=hs
      rw [iW,j5 w.length (by rw [bB (by simp<;>omega) (by simp<;>omega)];simp),qq (iQ _),xp]
      rfl
def Fp(n:aj):Bool:=n.Tag==4||decide (12<=n.Tag)&&decide (n.Tag<=15)

def jl{tl:List α}{y:α}(h:xs.drop i=y::tl):cQ xs (i:Int)=some y/\i<xs.length/\xs.drop (i+1)=tl:=by
 have hi:i<xs.length:=by
  rcases ll i xs.length with Y|Y
  ·exact Y
  ·rw [Ct Y]at h;cases h
 rw [xu hi]at h
 injection h with Y J
 exact⟨by rw [cw,qY hi,Y],hi,J⟩
def ux(h:xs.drop i=[]):xs.length<=i:=Bi.1 h
def sM{f:Int->Option Bool}{g:Int->Bool}(X: ∀v,f v=some (g v)): ∀(l:List Int) (i:Nat),∃j:Int,eN f l i=some j/\decide (0<=j)=l.any g
 |[],i=>⟨-1,rfl,rfl⟩
 |e::l,i=>by
  unfold eN
  rw [X,bt]
  cases h:g e with
  |true=>exact⟨(i:Int),by simp,by simp [h]⟩
  |false=>
   obtain⟨j,Y,J⟩:=sM X l (i+1)
   exact⟨j,by simpa using Y,by rw [J];simp [h]⟩
def pW{f:Int->Option Bool}{g:Int->Bool}(X: ∀v,f v=some (g v))(l:List Int):dN l f=some (l.any g):=by
 unfold dN jH
 obtain⟨j,Y,J⟩:=sM X l 0
 rw [Y,bt,J]
def sL{f:ly->Option Bool}{g:ly->Bool}(X: ∀v,f v=some (g v)): ∀(l:List ly) (i:Nat),∃j:Int,dh f l i=some j/\decide (0<=j)=l.any g
 |[],i=>⟨-1,rfl,rfl⟩
 |e::l,i=>by
  unfold dh
  rw [X,bt]
  cases h:g e with
  |true=>exact⟨(i:Int),by simp,by simp [h]⟩
  |false=>
   obtain⟨j,Y,J⟩:=sL X l (i+1)
   exact⟨j,by simpa using Y,by rw [J];simp [h]⟩
def va{f:ly->Option Bool}{g:ly->Bool}(X: ∀v,f v=some (g v))(l:List ly):d8 l f=some (l.any g):=by
 unfold d8 gu
 obtain⟨j,Y,J⟩:=sL X l 0
 rw [Y,bt,J]
def oB(l:List Int)(h:l.length<=68719476736):co l=some l:=by
 unfold co
 rw [cC (by simpa using h)];rfl
def Nt(n:Int)(h0:0<=n)(h:n<=68719476736):jN n=some []:=by
 unfold jN kw
 rw [bo (by simp;omega)]
 have e:IntKind.i64.wrap (n-IntKind.i64.wrap ((0:Int)-0))=n:=by
  rw [bB (n:=(0:Int)-0) (by omega) (by omega),bB (by omega) (by omega)];omega
 rw [e]
 by_cases hp:0<n
 ·rw [bD (by simpa using hp)]
  unfold RK zx
  rw [bD hp]
  simp only [bt]
  rw [bD ⟨h0,h⟩]
  simp only [bt]
  rw [show db (List.replicate n.toNat (0:Int)) 0 0=some []from by unfold db;rw [bD (by simp;omega)];simp]
  rfl
 ·rw [bo (by simpa using hp)];rfl
def GT(a b:List Int)(ha:a.length<=8000)(V:b.length<=8000):gS [a,b]=some (a++b):=by
 unfold gS
 simp only [hZ]
 rw [bB (n:=(0:Int)+(a.length:Int)) (by omega) (by omega),bo (by simp),bB (by omega) (by omega),bo (by simp;omega),Nt _ (by omega) (by omega)]
 simp only [bt,hX]
 rw [cC (by simp;omega)]
 simp only [bt,iW]
 rw [cC (by omega)]
 rfl
structure ck(n:aa):Prop where
 cond:n.Cond.Nodes.length<=5000
 kinds:n.Kinds.length<=5000
 keys:n.Keys.length<=5000
 aggs:n.Aggs.length<=5000
 items:n.Items.length<=5000
 order:n.Order.length<=5000
 args: ∀g∈n.Aggs,g.Arg.Nodes.length<=5000
 exprs: ∀e∈n.Items,e.Nodes.length<=5000
def Bm(e:ai)(kinds:List Int):Bool:=(gL e kinds).2==0&&((gL e kinds).1==1||(gL e kinds).1==0)
def uq(e:ai)(kinds:List Int)(h:e.Nodes.length<=5000):pF e kinds=some (Bm e kinds):=by
 unfold pF
 rw [te e kinds (by omega)]
 rfl
def jW(e:ai)(kinds:List Int):ra e kinds=some (Bm e kinds):=by
 unfold ra Bm
 rw [k7 e kinds]
 simp only [bt,Bool.or_comm]
def IL(a:ik)(kinds:List Int):Int×Bool:=
 if a.Tag=1 then(2,a.Arg.Nodes.length==0)else if a.Tag=2 then(2,(gL a.Arg kinds).2==0)else if a.Tag=3 then(2,(gL a.Arg kinds).2==0&&((gL a.Arg kinds).1==2||(gL a.Arg kinds).1==0))else if a.Tag=4\/a.Tag=5 then((gL a.Arg kinds).1,(gL a.Arg kinds).2==0)else(0,false)
def He(n:Nat):((n:Int)==0)=(n==0):=by rw [zk];simp
def CT(a:ik)(kinds:List Int)(h:a.Arg.Nodes.length<=5000):uQ a kinds=some (IL a kinds):=by
 unfold uQ IL qc
 by_cases Y:a.Tag=1
 ·rw [bD (by simp [Y]),bD Y,He]
 rw [bo (by simpa using Y),bo Y,te _ _ (by omega)]
 simp only [bt]
 by_cases J:a.Tag=2
 ·rw [bD (by simp [J]),bD J]
 rw [bo (by simpa using J),bo J]
 by_cases Z:a.Tag=3
 ·rw [bD (by simp [Z]),bD Z]
 rw [bo (by simpa using Z),bo Z]
 by_cases h4:a.Tag=4
 ·rw [bD (by simp [h4]),bD (by simp [h4]),bD (.inl h4)]
 rw [bo (by simpa using h4)]
 by_cases h5:a.Tag=5
 ·rw [bD (by simp [h5]),bD (.inr h5)]
 rw [bo (by simpa using h5),bo (by omega)]
def GJ(a:ik)(kinds:List Int):Int×Bool:=(kR a kinds).getD (0,false)
def qE(a:ik)(kinds:List Int):kR a kinds=some (GJ a kinds):=by
 unfold GJ kR
 rw [k7]
 simp only [bt]
 repeat' split
 all_goals rfl
def Di(a:ik)(kinds:List Int):(IL a kinds).2=(GJ a kinds).2/\((IL a kinds).2=true->(IL a kinds).1=(GJ a kinds).1):=by
 unfold GJ kR IL
 rw [k7]
 simp only [bt]
 by_cases Y:a.Tag=1
 ·simp [Y,He]
 by_cases J:a.Tag=2
 ·by_cases he:(gL a.Arg kinds).2=0<;>simp [J,he]
 by_cases Z:a.Tag=3
 ·by_cases he:(gL a.Arg kinds).2=0
  ·by_cases h0:(gL a.Arg kinds).1=0
   ·simp [Z,he,h0]
   ·by_cases h02:(gL a.Arg kinds).1=2<;>simp [Z,he,h0,h02]
  ·simp [Z,he]
 by_cases h4:a.Tag=4
 ·by_cases he:(gL a.Arg kinds).2=0<;>simp [h4,he]
 by_cases h5:a.Tag=5
 ·by_cases he:(gL a.Arg kinds).2=0<;>simp [h5,he]
 have:a.Tag<1\/5<a.Tag:=by omega
 simp [Y,J,Z,h4,h5,this]
def xi(p:Option (List Int×Bool))(q:Option (List Int×Bool))(last:Bool):Prop:=
 ∃k o k',p=some (k,o&&last)/\q=some (k',o)/\(o=true->k=k')
def BO(c:aq)(n:aa)(a b:List Int)(hn:ck n)(hop:n.Op=1):xi (fc c n) (bc n a b) true:=by
 have h:=hn.kinds
 have key: ∀(tl:List Int) (i:Nat) (fu:Nat) (ok:Bool),n.Kinds.drop i=tl->tl.length<fu->dJ n fu ok (i:Int)=some (n.Kinds,((((ok&&tl.all fun k=>decide (1<=k)&&decide (k<=3))&&(decide ((0:Int)<=n.Table)))&&(decide (n.Table<=(3:Int))))&&(decide ((1:Int)<=(n.Kinds.length:Int))))&&(decide ((n.Kinds.length:Int)<=(4:Int)))):=by
  intro tl
  induction tl with
  |nil=>
   intro i fu ok hd X
   obtain⟨fu,rfl⟩: ∃k,fu=k+1:=⟨fu-1,by omega⟩
   have:=ux hd
   rw [dJ,bo (by simp;omega)]
   simp
  |cons x tl ih=>
   intro i fu ok hd X
   simp only [i6]at X
   obtain⟨fu,rfl⟩: ∃k,fu=k+1:=⟨fu-1,by omega⟩
   obtain⟨Y,J,Z⟩:=jl hd
   rw [dJ,bD (by simp;omega),Y,bB (by omega) (by omega)]
   simp only [bt]
   have e:((i:Int)+1)=((i+1:Nat):Int):=by omega
   rw [e]
   have e2:((if ok=true then some (decide ((1:Int)<=x))else some false).bind fun t=>(if t=true then some (decide (x<=(3:Int)))else some false).bind fun t1=>dJ n fu t1 ((i+1:Nat):Int))=dJ n fu (ok&&(decide (1<=x)&&decide (x<=3))) ((i+1:Nat):Int):=by
    cases ok<;>by_cases I:(1:Int)<=x<;>simp [I]
   rw [e2,ih (i+1) fu _ Z (by omega)]
   simp only [vb,BC]
 have hr:bc n a b=dJ n fQ true (0:Int):=by unfold bc;rw [bD (by simp [hop])]
 rw [hr,show((0:Int))=((0:Nat):Int)from rfl,key n.Kinds 0 fQ true rfl (tU (yX _) (jk (by omega)))]
 unfold fc
 have hc:dN n.Kinds jx=some (n.Kinds.any fun k=> !(((k==(1:Int))||(k==(2:Int)))||(k==(3:Int)))):=pW (fun v=>rfl) _
 rw [hc]
 simp only [bt]
 have e3:(!(n.Kinds.any fun k=> !(((k==(1:Int))||(k==(2:Int)))||(k==(3:Int)))))=n.Kinds.all fun k=>decide (1<=k)&&decide (k<=3):=by
  rw [List.not_any_eq_all_not]
  congr 1
  funext k
  rw [Bool.not_not,zk]
  simp;omega
 rw [e3]
 refine⟨n.Kinds,_,n.Kinds,?_,rfl,fun _=>rfl⟩
 cases h4:(n.Kinds.all fun k=>decide (1<=k)&&decide (k<=3))<;>by_cases t1:0<=n.Table<;>by_cases t2:n.Table<4<;>by_cases l1:(1:Int)<=(n.Kinds.length:Int)<;>by_cases l2:(n.Kinds.length:Int)<=4<;>simp [t1,t2,l1,l2]<;>omega
def Iq(c:aq)(n:aa)(a b:List Int)(hn:ck n)(hop:n.Op=2)(ha:cQ c.kinds n.A=some a)(V:cQ c.kinds n.B=some b)(hal:a.length<=16)(hbl:b.length<=16):xi (fV c n) (bc n a b) true:=by
 unfold fV bc
 rw [ha,V,bo (by simp [hop]),bD (by simp [hop])]
 simp only [bt]
 rw [GT _ _ (by omega) (by omega),cC (by simp;omega)]
 simp only [bt,iW]
 rw [cC (by omega)]
 simp only [bt]
 rw [uq _ _ hn.cond,jW]
 exact⟨_,Bm n.Cond (a++b),_,by simp,rfl,fun _=>rfl⟩
def EQ(c:aq)(n:aa)(a b:List Int)(hn:ck n)(hop:n.Op=3)(ha:cQ c.kinds n.A=some a):xi (fd c n) (bc n a b) true:=by
 unfold fd bc
 rw [ha,bo (by simp [hop]),bo (by simp [hop]),bD (by simp [hop])]
 simp only [bt]
 rw [uq _ _ hn.cond,jW]
 exact⟨_,Bm n.Cond a,_,by simp,rfl,fun _=>rfl⟩
def BA(c:aq)(n:aa)(a b:List Int)(hop:n.Op=6)(ha:cQ c.kinds n.A=some a):xi (eo c n) (bc n a b) true:=by
 unfold eo bc
 rw [ha,bo (by simp [hop]),bo (by simp [hop]),bo (by simp [hop]),bo (by simp [hop]),bo (by simp [hop]),bD (by simp [hop])]
 exact⟨_,true,_,rfl,rfl,fun _=>rfl⟩
def CK(c:aq)(n:aa)(a b:List Int)(hn:ck n)(hop:n.Op=5)(ha:cQ c.kinds n.A=some a):xi (eK c n) (bc n a b) true:=by
 have h:=hn.items
 have hr:bc n a b=cH n a fQ [] true (0:Int):=by unfold bc;rw [bo (by simp [hop]),bo (by simp [hop]),bo (by simp [hop]),bo (by simp [hop]),bD (by simp [hop])]
 have key: ∀(tl:List ai) (i:Nat) (fu:Nat) (out:List Int) (ok:Bool),n.Items.drop i=tl->i+tl.length=n.Items.length->tl.length<fu->out.length=i->cH n a fu out ok (i:Int)=some (out++tl.map (fun e=>(gL e a).1),((ok&&tl.all fun e=>(gL e a).2==0)&&(decide ((1:Int)<=(n.Items.length:Int))))&&(decide ((n.Items.length:Int)<=(16:Int)))):=by
  intro tl
  induction tl with
  |nil=>
   intro i fu out ok hd hi X ho
   obtain⟨fu,rfl⟩: ∃k,fu=k+1:=⟨fu-1,by omega⟩
   simp only [pM,tP]at hi
   rw [cH,bo (by simp;omega)]
   simp [ho,hi]
  |cons x tl ih=>
   intro i fu out ok hd hi X ho
   simp only [i6]at X hi
   obtain⟨fu,rfl⟩: ∃k,fu=k+1:=⟨fu-1,by omega⟩
   obtain⟨Y,J,Z⟩:=jl hd
   rw [cH,bD (by simp;omega),Y]
   simp only [bt]
   rw [k7]
   simp only [bt]
   rw [cC (by simp;omega),bB (by omega) (by omega)]
   simp only [bt]
   have e:((i:Int)+1)=((i+1:Nat):Int):=by omega
   rw [e,ih (i+1) fu _ _ Z (by omega) (by omega) (by simp [ho])]
   simp [BC]
 rw [hr,show((0:Int))=((0:Nat):Int)from rfl,key n.Items 0 fQ [] true rfl (by simp) (tU (yX _) (jk (by omega))) rfl]
 unfold eK
 have key2: ∀(tl:List ai) (out:List Int) (ok:Bool),(∀e∈tl,e.Nodes.length<=5000)->out.length+tl.length<=5000->eJ c n tl out ok=some (out++tl.map (fun e=>(gL e a).1),ok&&tl.all fun e=>(gL e a).2==0):=by
  intro tl
  induction tl with
  |nil=>intro out ok _ _;simp [eJ]
  |cons x tl ih=>
   intro out ok he hl
   simp only [i6]at hl
   rw [eJ,ha]
   simp only [bt]
   rw [te _ _ (by have:=he x (lK ..);omega)]
   simp only [bt]
   rw [cC (by simp;omega)]
   simp only [bt]
   rw [ih _ _ (fun e h=>he e (mZ _ h)) (by simp;omega)]
   simp [BC]
 rw [key2 n.Items [] _ hn.exprs (by simp;omega)]
 refine⟨_,_,_,?_,rfl,fun _=>rfl⟩
 simp only [zr,xq]
 congr 2
 cases (n.Items.all fun e=>(gL e a).2==0)<;>simp
def OF(a:List Int)(e:Int):Int:=(a[e.toNat]?).getD 0
def CO(a:List Int)(e:Int):Bool:=decide (e<0)||decide ((a.length:Int)<=e)
def Kc{a:List Int}{e:Int}(h:CO a e=false):cQ a e=some (OF a e):=by
 simp [CO]at h
 rw [j5 e.toNat (by omega),qY (by omega)]
 unfold OF
 rw [qY (by omega)];rfl
def Gh(c:aq)(n:aa)(a b:List Int)(hn:ck n)(hop:n.Op=4)(ha:cQ c.kinds n.A=some a):xi (fG c n) (bc n a b) true:=by
 have hK:=hn.keys
 have hA:=hn.aggs
 have hr:bc n a b=du n a fQ [] (0:Int):=by unfold bc;rw [bo (by simp [hop]),bo (by simp [hop]),bo (by simp [hop]),bD (by simp [hop])]
 have key3: ∀(tl:List ik) (i:Nat) (fu:Nat) (out:List Int) (ok:Bool),n.Aggs.drop i=tl->i+tl.length=n.Aggs.length->tl.length<fu->out.length<=5000+i->dc n a fu out ok (i:Int)=some (out++tl.map (fun e=>(GJ e a).1),(((ok&&tl.all fun e=>(GJ e a).2)&&(decide ((n.Keys.length:Int)<=(3:Int))))&&(decide ((n.Aggs.length:Int)<=(12:Int))))&&(decide ((0:Int)<((out.length+tl.length:Nat):Int)))):=by
  intro tl
  induction tl with
  |nil=>
   intro i fu out ok hd hi X ho
   obtain⟨fu,rfl⟩: ∃k,fu=k+1:=⟨fu-1,by omega⟩
   simp only [pM,tP]at hi
   rw [dc,bo (by simp;omega)]
   simp
  |cons x tl ih=>
   intro i fu out ok hd hi X ho
   simp only [i6]at X hi
   obtain⟨fu,rfl⟩: ∃k,fu=k+1:=⟨fu-1,by omega⟩
   obtain⟨Y,J,Z⟩:=jl hd
   rw [dc,bD (by simp;omega),Y]
   simp only [bt]
   rw [qE]
   simp only [bt]
   rw [cC (by simp;omega),bB (by omega) (by omega)]
   simp only [bt]
   have e:((i:Int)+1)=((i+1:Nat):Int):=by omega
   rw [e,ih (i+1) fu _ _ Z (by omega) (by omega) (by simp;omega)]
   simp only [pn,vb,BC,jr,jE,i6,pM,xr,iW]
   rw [show out.length+(0+1)+tl.length=out.length+(tl.length+1)from by omega]
 have key2: ∀(tl:List Int) (i:Nat) (fu:Nat) (out:List Int),n.Keys.drop i=tl->i+tl.length=n.Keys.length->tl.length<fu->out.length=i->du n a fu out (i:Int)=if tl.any (CO a)then some ([],false)else dc n a fQ (out++tl.map (OF a)) true 0:=by
  intro tl
  induction tl with
  |nil=>
   intro i fu out hd hi X ho
   obtain⟨fu,rfl⟩: ∃k,fu=k+1:=⟨fu-1,by omega⟩
   simp only [pM,tP]at hi
   rw [du,bo (by simp;omega)]
   simp
  |cons x tl ih=>
   intro i fu out hd hi X ho
   simp only [i6]at X hi
   obtain⟨fu,rfl⟩: ∃k,fu=k+1:=⟨fu-1,by omega⟩
   obtain⟨Y,J,Z⟩:=jl hd
   rw [du,bD (by simp;omega),Y]
   simp only [bt]
   cases I:CO a x with
   |true=>
    have hx' :(decide (x<0)||decide ((a.length:Int)<=x))=true:=I
    rw [bD hx',bD (by simp [I])]
   |false=>
    have hx' : ¬(decide (x<0)||decide ((a.length:Int)<=x))=true:=by rw [show(decide (x<0)||decide ((a.length:Int)<=x))=CO a x from rfl,I];decide
    rw [bo hx',Kc I]
    simp only [bt]
    rw [cC (by simp;omega),bB (by omega) (by omega)]
    simp only [bt]
    have e:((i:Int)+1)=((i+1:Nat):Int):=by omega
    rw [e,ih (i+1) fu _ Z (by omega) (by omega) (by simp [ho])]
    simp [I]
 rw [hr,show((0:Int))=((0:Nat):Int)from rfl,key2 n.Keys 0 fQ [] rfl (by simp) (tU (yX _) (jk (by omega))) rfl]
 rw [show((0:Int))=((0:Nat):Int)from rfl,key3 n.Aggs 0 fQ _ true rfl (by simp) (tU (yX _) (jk (by omega))) (by simp;omega)]
 unfold fG
 rw [ha,bB (by omega) (by omega)]
 simp only [bt]
 have hp:qb n.Keys a=some (!(n.Keys.any (CO a))):=by
  unfold qb
  rw [pW (f:=nY a) (g:=CO a) (fun v=>rfl)]
  rfl
 rw [hp]
 simp only [bt,iW,zl]
 have kl: ∀(tl:List ik) (out:List Int) (ok:Bool),(∀e∈tl,e.Arg.Nodes.length<=5000)->out.length+tl.length<=10000->ek a tl out ok=some (out++tl.map (fun e=>(IL e a).1),ok&&tl.all fun e=>(IL e a).2):=by
  intro tl
  induction tl with
  |nil=>intro out ok _ _;simp [ek]
  |cons x tl ih=>
   intro out ok he hl
   simp only [i6]at hl
   rw [ek,CT _ _ (he x (lK ..))]
   simp only [bt]
   rw [cC (by simp;omega)]
   simp only [bt]
   rw [ih _ _ (fun e h=>he e (mZ _ h)) (by simp;omega)]
   simp [BC]
 have kl1: ∀(t:Bool) (tl out:List Int),tl.any (CO a)=false->out.length+tl.length<=5000->fv n a t tl out=ek a n.Aggs (out++tl.map (OF a)) t:=by
  intro t tl
  induction tl with
  |nil=>intro out _ _;simp [fv]
  |cons x tl ih=>
   intro out ho hl
   simp only [i6]at hl
   simp only [zt,yZ]at ho
   rw [fv,Kc ho.1]
   simp only [bt]
   rw [cC (by simp;omega)]
   simp only [bt]
   rw [ih _ ho.2 (by simp;omega)]
   simp
 have hall:(n.Aggs.all fun e=>(IL e a).2)=n.Aggs.all fun e=>(GJ e a).2:=by
  congr 1;funext e;exact(Di e a).1
 have hmap:(n.Aggs.all fun e=>(IL e a).2)=true->n.Aggs.map (fun e=>(IL e a).1)=n.Aggs.map fun e=>(GJ e a).1:=by
  intro h
  exact Bg fun e he=>(Di e a).2 (jK.1 h e he)
 cases hany:n.Keys.any (CO a)with
 |true=>exact⟨[],false,[],by simp,by simp,fun _=>rfl⟩
 |false=>
  by_cases V:((n.Keys.length<=3/\n.Aggs.length<=12)/\0<n.Keys.length+n.Aggs.length)
  ·have hb' :(((decide ((n.Keys.length:Int)<=(3:Int)))&&(decide ((n.Aggs.length:Int)<=(12:Int))))&&(decide ((0:Int)<(n.Keys.length:Int)+(n.Aggs.length:Int))))=true:=by simp;omega
   simp only [hb',fP,ym,nC,kP,iB,bt]
   rw [kl1 true n.Keys [] hany (by simp;omega),kl n.Aggs _ true hn.args (by simp;omega)]
   refine⟨n.Keys.map (OF a)++n.Aggs.map (fun e=>(IL e a).1),n.Aggs.all fun e=>(GJ e a).2,n.Keys.map (OF a)++n.Aggs.map (fun e=>(GJ e a).1),by simp [hall],?_,fun h=>?_⟩
   ·have Y:(decide ((n.Keys.length:Int)<=(3:Int)))=true:=by simp;omega
    have J:(decide ((n.Aggs.length:Int)<=(12:Int)))=true:=by simp;omega
    have Z:(decide ((0:Int)<((n.Keys.length+n.Aggs.length:Nat):Int)))=true:=by simp;omega
    simp only [Y,J,Z,zr,xq]
   ·rw [hmap (by rw [hall];exact h)]
  ·have hb' :(((decide ((n.Keys.length:Int)<=(3:Int)))&&(decide ((n.Aggs.length:Int)<=(12:Int))))&&(decide ((0:Int)<(n.Keys.length:Int)+(n.Aggs.length:Int))))=false:=by rw [wv];simp;omega
   simp only [hb',fP,ym,kP,iB,bt]
   refine⟨[],false,n.Keys.map (OF a)++n.Aggs.map (fun e=>(GJ e a).1),by simp,?_,by simp⟩
   have:((((true&&n.Aggs.all fun e=>(GJ e a).2)&&(decide ((n.Keys.length:Int)<=(3:Int))))&&(decide ((n.Aggs.length:Int)<=(12:Int))))&&(decide ((0:Int)<((n.Keys.length+n.Aggs.length:Nat):Int))))=false:=by rw [wv];simp;omega
   rw [this]
def Jj(x y:Int):Int:=if x=0 then y else x
def DI(p:Int×Int):Bool:=(p.2==Jj p.1 p.2)||p.2==0
def FD(c:aq)(n:aa)(a b:List Int)(hop:n.Op=7)(ha:cQ c.kinds n.A=some a)(V:cQ c.kinds n.B=some b)(hal:a.length<=16):xi (fE c n) (bc n a b) true:=by
 unfold fE bc
 rw [ha,V,bo (by simp [hop]),bo (by simp [hop]),bo (by simp [hop]),bo (by simp [hop]),bo (by simp [hop]),bo (by simp [hop]),bD (by simp [hop])]
 simp only [bt]
 by_cases hl:a.length=b.length
 ·rw [bo (by simp;omega),bo (by simp;omega),oB _ (by omega)]
  simp only [bt]
  have kc: ∀(tl pre suf:List Int) (ok:Bool),suf.length=tl.length->de tl pre.length (pre++suf) ok=some (pre++List.zipWith Jj suf tl,ok&&(suf.zip tl).all DI):=by
   intro tl
   induction tl with
   |nil=>
    intro pre suf ok h
    have:suf=[]:=tX h
    subst this
    simp [de]
   |cons y tl ih=>
    intro pre suf ok h
    cases suf with
    |nil=>simp at h
    |cons x suf=>
     simp only [i6,Nat.add_right_cancel_iff]at h
     rw [de,cw,qq (iQ _),xp]
     simp only [Fs,bt]
     have step: ∀(z:Int),gA (de tl) pre.length y ok (pre++z::suf)=some (pre++z::List.zipWith Jj suf tl,ok&&((z==y||y==0)&&(suf.zip tl).all DI)):=by
      intro z
      unfold gA
      rw [cw,qq (iQ _),xp]
      simp only [Fs,bt]
      have e1:pre++z::suf=(pre++[z])++suf:=by simp
      have e2:pre.length+1=(pre++[z]).length:=by simp
      cases ok with
      |true=>
       simp only [fP,bt,xq]
       rw [e1,e2,ih (pre++[z]) suf _ h]
       simp
      |false=>
       simp only [kP,iB,bt,Bool.false_and]
       rw [e1,e2,ih (pre++[z]) suf _ h]
       simp
     by_cases I:x=0
     ·subst I
      rw [bD (by simp)]
      have e3:(pre++(0:Int)::suf).set ((pre.length:Int)).toNat y=pre++y::suf:=by
       rw [tR,List.set_append_right _ _ (iQ _),xp];rfl
      rw [e3]
      refine(step y).trans ?_
      simp [DI,Jj]
     ·rw [bo (by simpa using I),step x]
      have:Jj x y=x:=by unfold Jj;rw [bo I]
      simp only [List.zipWith_cons_cons,List.zip_cons_cons,vb,DI,this]
      have e4:(y==x)=(x==y):=by rw [zk,se,se];exact eq_comm
      rw [e4]
  have kr: ∀(tl tb:List Int) (i:Nat) (out:List Int) (ok:Bool),b.drop i=tb->tl.length=tb.length->out.length+tl.length<=1000->jb b tl i out ok=some (out++List.zipWith Jj tl tb,ok&&(tl.zip tb).all DI):=by
   intro tl
   induction tl with
   |nil=>
    intro tb i out ok hd h _
    have:tb=[]:=tX h.symm
    subst this
    simp [jb]
   |cons x tl ih=>
    intro tb i out ok hd h hm
    cases tb with
    |nil=>simp at h
    |cons y tb=>
     simp only [i6,Nat.add_right_cancel_iff]at h hm
     obtain⟨Y,J,Z⟩:=jl hd
     rw [jb,Y]
     simp only [bt]
     have step: ∀z:Int,nS b (jb b tl) i out ok z=some (out++z::List.zipWith Jj tl tb,ok&&((y==z||y==0)&&(tl.zip tb).all DI)):=by
      intro z
      unfold nS
      rw [cC (by simp;omega),Y]
      simp only [bt]
      cases ok with
      |true=>
       simp only [fP,bt,xq]
       cases hyz:y==z with
       |true=>
        simp only [nC,kP,iB,bt]
        rw [ih tb (i+1) _ _ Z h (by simp;omega)]
        simp
       |false=>
        simp only [ym,fP,bt]
        rw [ih tb (i+1) _ _ Z h (by simp;omega)]
        simp
      |false=>
       simp only [kP,iB,bt,Bool.false_and]
       rw [ih tb (i+1) _ _ Z h (by simp;omega)]
       simp
     by_cases I:x=0
     ·subst I
      rw [bD (by simp),step y]
      simp [DI,Jj]
     ·rw [bo (by simpa using I),step x]
      have:Jj x y=x:=by unfold Jj;rw [bo I]
      simp only [List.zipWith_cons_cons,List.zip_cons_cons,vb,DI,this]
  have Y:=kc b [] a true hl
  rw [pM,iW]at Y
  rw [Y,kr a b 0 [] true rfl hl (by simp;omega)]
  exact⟨_,_,_,by rw [zr],rfl,fun _=>rfl⟩
 ·rw [bD (by simp;omega),bD (by simp;omega)]
  exact⟨[],false,[],rfl,rfl,fun _=>rfl⟩
def F5(c:aq)(n:aa)(a b:List Int)(hn:ck n)(hop:n.Op=8)(ha:cQ c.kinds n.A=some a):xi (fF c n) (bc n a b) ((c.kinds.length:Int)==IntKind.i64.wrap ((c.Logic.Nodes.length:Int)-(1:Int))):=by
 have h:=hn.order
 have hr:bc n a b=dI n a fQ true (0:Int):=by unfold bc;rw [bo (by simp [hop]),bo (by simp [hop]),bo (by simp [hop]),bo (by simp [hop]),bo (by simp [hop]),bo (by simp [hop]),bo (by simp [hop])]
 have key: ∀(tl:List ly) (i:Nat) (fu:Nat) (ok:Bool),n.Order.drop i=tl->i+tl.length=n.Order.length->tl.length<fu->dI n a fu ok (i:Int)=some (a,((((ok&&tl.all fun e=>decide (0<=e.Col)&&decide (e.Col<(a.length:Int)))&&(decide ((n.Order.length:Int)<=(3:Int))))&&(decide ((-1:Int)<=n.Limit)))&&(decide (n.Limit<=(2147483647:Int))))):=by
  intro tl
  induction tl with
  |nil=>
   intro i fu ok hd hi X
   obtain⟨fu,rfl⟩: ∃k,fu=k+1:=⟨fu-1,by omega⟩
   simp only [pM,tP]at hi
   rw [dI,bo (by simp;omega)]
   simp
  |cons x tl ih=>
   intro i fu ok hd hi X
   simp only [i6]at X hi
   obtain⟨fu,rfl⟩: ∃k,fu=k+1:=⟨fu-1,by omega⟩
   obtain⟨Y,J,Z⟩:=jl hd
   rw [dI,bD (by simp;omega),Y,bB (by omega) (by omega)]
   simp only [bt]
   have e:((i:Int)+1)=((i+1:Nat):Int):=by omega
   rw [e]
   have e2:((if ok=true then some (decide ((0:Int)<=x.Col))else some false).bind fun t=>(if t=true then some (decide (x.Col<(a.length:Int)))else some false).bind fun t1=>dI n a fu t1 ((i+1:Nat):Int))=dI n a fu (ok&&(decide (0<=x.Col)&&decide (x.Col<(a.length:Int)))) ((i+1:Nat):Int):=by
    cases ok<;>by_cases I:(0:Int)<=x.Col<;>simp [I]
   rw [e2,ih (i+1) fu _ Z (by omega) (by omega)]
   simp only [vb,BC]
 rw [hr,show((0:Int))=((0:Nat):Int)from rfl,key n.Order 0 fQ true rfl (by simp) (tU (yX _) (jk (by omega)))]
 unfold fF
 rw [ha]
 simp only [bt]
 rw [va (f:=jj a) (g:=fun o=>(decide (o.Col<(0:Int)))||(decide ((a.length:Int)<=o.Col))) (fun v=>rfl)]
 simp only [bt]
 have e3:(!(n.Order.any fun o=>(decide (o.Col<(0:Int)))||(decide ((a.length:Int)<=o.Col))))=n.Order.all fun e=>decide (0<=e.Col)&&decide (e.Col<(a.length:Int)):=by
  rw [List.not_any_eq_all_not]
  congr 1
  funext k
  rw [zk]
  simp
 rw [e3]
 refine⟨a,_,a,?_,rfl,fun _=>rfl⟩
 cases h4:(n.Order.all fun e=>decide (0<=e.Col)&&decide (e.Col<(a.length:Int)))<;>by_cases l1:(n.Order.length:Int)<=3<;>simp [l1]

def Br(op:Int):Bool:=decide (1<=op)&&decide (op<=8)
def qk{op:Int}(h:Br op=true):op=1\/op=2\/op=3\/op=4\/op=5\/op=6\/op=7\/op=8:=by
 simp [Br]at h;omega
def vW(n:aa):Bool:=(qj n).getD false
def nT(n:aa):qj n=some (vW n):=by
 unfold vW qj
 repeat' split
 all_goals rfl
def RV(l:List α):((l.length:Int)==0)=l.isEmpty:=by cases l<;>simp<;>omega
def JY(l:List α):decide ((0:Int)<(l.length:Int))= !l.isEmpty:=by cases l<;>simp<;>omega
def JG(n:aa)(h:Br n.Op=true):((qQ n).bind fun r=>(qP r).bind fun r1=>some r1)=some (vW n):=by
 obtain⟨op,A,B,table,kinds,left,cond,keys,aggs,items,order,limit⟩:=n
 unfold vW qj qQ qP
 simp only [RV,JY]
 rcases qk h with h|h|h|h|h|h|h|h<;>simp only at h<;>subst h<;>simp<;>(try (by_cases t:table=0<;>simp [t]))<;>(try (by_cases lm:limit=0<;>simp [lm]))<;>(try (cases left<;>simp))<;>(try (by_cases e1:kinds=[]<;>simp [e1]))<;>(try (by_cases e2:cond.Nodes=[]<;>simp [e2]))<;>(try (by_cases e3:keys=[]<;>simp [e3]))<;>(try (by_cases e4:aggs=[]<;>simp [e4]))<;>(try (by_cases e5:items=[]<;>simp [e5]))<;>(try (by_cases e6:order=[]<;>simp [e6]))
def ND{β:Type}(f1 f2 f3 f4 f5 f6 f7 f8:β)(k:Int):nX (ez (ez (ez (ez (ez (ez (ez (ez ([]:List (Int×β)) 1 f1) 2 f2) 3 f3) 4 f4) 5 f5) 6 f6) 7 f7) 8 f8) k=
  if k=1 then some f1 else if k=2 then some f2 else if k=3 then some f3 else if k=4 then some f4 else if k=5 then some f5 else if k=6 then some f6 else if k=7 then some f7 else if k=8 then some f8 else none:=by
 have e:ez (ez (ez (ez (ez (ez (ez (ez ([]:List (Int×β)) 1 f1) 2 f2) 3 f3) 4 f4) 5 f5) 6 f6) 7 f7) 8 f8=[(1,f1),(2,f2),(3,f3),(4,f4),(5,f5),(6,f6),(7,f7),(8,f8)]:=rfl
 rw [e]
 simp only [nX,eq_comm (b:=k)]
def Aq(op:Int):rg op=some (if op=1 then 0 else if op=2\/op=7 then 2 else 1):=by
 unfold rg nZ
 by_cases Y:op=1
 ·simp [Y]
 by_cases J:op=2
 ·simp [J]
 by_cases h7:op=7
 ·simp [h7]
 simp [Y,J,h7]
def jY(op:Int):uh op=some (if op=1 then 0 else if op=2\/op=7 then 2 else if Br op then 1 else -1):=by
 unfold uh qF jX
 by_cases h:Br op=true
 ·rcases qk h with rfl|rfl|rfl|rfl|rfl|rfl|rfl|rfl<;>rfl
 ·have h' : ¬(1<=op/\op<=8):=fun hh=>h (by simp [Br];omega)
  have Y: ¬op=1:=by omega
  have J: ¬op=2:=by omega
  have Z: ¬op=3:=by omega
  have h4: ¬op=4:=by omega
  have h5: ¬op=5:=by omega
  have h6: ¬op=6:=by omega
  have h7: ¬op=7:=by omega
  have h8: ¬op=8:=by omega
  simp [Y,J,Z,h4,h5,h6,h7,h8,h]
structure GQ(l:aw)(j:Nat)(f:Int)(ks:List Int)(s:Nat):Prop where
 pos:1<=s
 le:s<=j+1
 fst:f=(j:Int)+1-(s:Int)
 size: ∀fu,j+1<fu->bU fu l (j:Int)=some (s:Int)
 len:ks.length<=16
 kinds: ∀fu,j+1<fu->cd fu l (j:Int)=some (ks,true)
structure Fq(l:aw)(i:Nat)(first:List Int)(kinds:List (List Int)):Prop where
 fl:first.length=i
 kl:kinds.length=i
 node: ∀j,j<i-> ∃f ks s,first[j]? =some f/\kinds[j]? =some ks/\GQ l j f ks s
variable{first:List Int}
def Fq.push{kinds:List (List Int)}(h:Fq l i first kinds){f:Int}{ks:List Int}{s:Nat}(hn:GQ l i f ks s):Fq l (i+1) (first++[f]) (kinds++[ks]):=by
 refine⟨by simp [h.fl],by simp [h.kl],fun j hj=>?_⟩
 by_cases hji:j=i
 ·subst hji
  refine⟨f,ks,s,?_,?_,hn⟩
  ·rw [qq (by rw [h.fl];exact iQ _),h.fl,xp];rfl
  ·rw [qq (by rw [h.kl];exact iQ _),h.kl,xp];rfl
 ·obtain⟨f',ks',s',Y,J,Z⟩:=h.node j (by omega)
  exact⟨f',ks',s',by rw [u4 (by rw [h.fl];omega)];exact Y,by rw [u4 (by rw [h.kl];omega)];exact J,Z⟩
def HE(n:aa)(i:Nat):Prop:=
 (n.Op=1->n.A= -1/\n.B= -1)/\(n.Op≠1->0<i/\0<=n.A/\n.A<i)/\(n.Op=2\/n.Op=7->n.B=(i:Int)-1)/\(n.Op≠1->n.Op≠2->n.Op≠7->n.B= -1)
def sm(l:aw){fu:Nat}(X:0<fu){p:Int}(h:p<0):bU fu l p=some 0:=by
 obtain⟨fu,rfl⟩: ∃k,fu=k+1:=⟨fu-1,by omega⟩
 unfold bU
 rw [bD (by simp [h])]
def GG{kinds:List (List Int)}(hI:Fq l i first kinds)(hn:cQ l.Nodes (i:Int)=some n)(hi:i<l.Nodes.length)(hl:l.Nodes.length<=1000)(hop:Br n.Op=true):
  ∃f ok,iK ⟨l,kinds,first⟩ (i:Int)=some (f,ok)/\((ok=true/\ ∃s:Nat,1<=s/\s<=i+1/\f=(i:Int)+1-(s:Int)/\(∀fu,i+1<fu->bU fu l (i:Int)=some (s:Int))/\HE n i)\/(ok=false/\ ∀fu,i+1<fu->bU fu l (i:Int)=some 0)):=by
 have hstep: ∀fu,i+1<fu-> ∃fu',fu=fu' +1/\i<fu' :=fun fu h=>⟨fu-1,by omega,by omega⟩
 unfold iK
 simp only [hn,bt,Aq]
 by_cases Y:n.Op=1
 ·-- nothing below
  simp only [Y,fP]
  rw [bD (by decide)]
  refine⟨_,_,rfl,?_⟩
  by_cases hAB:n.A= -1/\n.B= -1
  ·refine .inl ⟨by simp [hAB],1,iQ _,by omega,by omega,fun fu X=>?_,⟨fun _=>hAB,fun h=>absurd Y h,fun h=>by omega,fun h=>absurd Y h⟩⟩
   obtain⟨fu',rfl,_⟩:=hstep fu X
   unfold bU
   rw [bo (by simp;omega),hn]
   simp only [bt,jY,Y,fP]
   rw [bD (by decide),bD (by simp [hAB])];rfl
  ·have V:(n.A== -1&&n.B== -1)=false:=by rw [wv];intro h;apply hAB;simpa using h
   refine .inr ⟨V,fun fu X=>?_⟩
   obtain⟨fu',rfl,_⟩:=hstep fu X
   unfold bU
   rw [bo (by simp;omega),hn]
   simp only [bt,jY,Y,fP]
   rw [bD (by decide),bo (by rw [V];decide)]
 ·by_cases h27:n.Op=2\/n.Op=7
  ·-- two below
   simp only [Y,h27,fP,iB]
   rw [bo (by decide),bo (by decide)]
   have hsz: ∀fu,i<fu->bU (fu+1) l (i:Int)=if n.B=(i:Int)-1 then((bU fu) l n.B).bind (fun r2=>if((decide ((0:Int)<r2))&&(n.A==(IntKind.i64.wrap (n.B-r2))))then(((bU fu) l n.A).bind fun r3=>if(decide ((0:Int)<r3))then(some (IntKind.i64.wrap ((IntKind.i64.wrap (r3+r2))+(1:Int))))else(some (0:Int)))else(some (0:Int)))else some 0:=by
    intro fu hfu
    conv=>lhs;unfold bU
    rw [bo (by simp;omega),hn]
    simp only [bt,jY,Y,h27,fP,iB]
    rw [bo (by decide),bo (by decide),bD (by decide),bB (n:=(i:Int)-1) (by omega) (by omega)]
    by_cases hB:n.B=(i:Int)-1
    ·rw [bD (by simp [hB]),bD hB]
    ·rw [bo (by simpa using hB),bo hB]
   by_cases hB:n.B=(i:Int)-1/\0<i
   ·have hcond:(!((n.B !=IntKind.i64.wrap ((i:Int)-1))||((i:Int)==0)))=true:=by
     rw [bB (by omega) (by omega)]
     have: ¬((i:Int)=0):=by omega
     simp [hB.1,this];omega
    rw [bD hcond]
    obtain⟨fB,kB,sB,g1,g2,g3⟩:=hI.node (i-1) (by omega)
    have hBi:n.B=((i-1:Nat):Int):=by omega
    have hidx:cQ first n.B=some fB:=by rw [hBi,cw];exact g1
    rw [hidx]
    have hfB:=g3.fst
    have hsB:=g3.pos
    have hsB2:=g3.le
    simp only [bt]
    rw [bB (n:=fB-1) (by omega) (by omega)]
    by_cases hA:n.A=fB-1/\0<=n.A
    ·rw [bo (by simp [hA.1];omega)]
     obtain⟨fA,kA,sA,q1,q2,q3⟩:=hI.node n.A.toNat (by omega)
     have hidA:cQ first n.A=some fA:=by
      rw [show n.A=((n.A.toNat:Nat):Int)from by omega,cw];exact q1
     rw [hidA]
     have hfA:=q3.fst
     have hsA:=q3.pos
     have hsA2:=q3.le
     refine⟨fA,true,rfl,.inl ⟨rfl,sA+sB+1,by omega,by omega,by omega,fun fu X=>?_,⟨fun h=>absurd h Y,fun _=>⟨hB.2,hA.2,by omega⟩,fun _=>hB.1,fun _ J h7=>by rcases h27 with h|h;exact absurd h J;exact absurd h h7⟩⟩⟩
     obtain⟨fu',rfl,hf'⟩:=hstep fu X
     rw [hsz fu' hf',bD hB.1]
     have e1:=g3.size fu' (by omega)
     rw [<-hBi]at e1
     rw [e1]
     simp only [bt]
     rw [bB (n:=n.B-(sB:Int)) (by omega) (by omega),bD (by simp;omega)]
     have e2:=q3.size fu' (by omega)
     rw [show((n.A.toNat:Nat):Int)=n.A from by omega]at e2
     rw [e2]
     simp only [bt]
     rw [bD (by simp;omega),bB (n:=(sA:Int)+(sB:Int)) (by omega) (by omega),bB (by omega) (by omega)]
     congr 1
    ·have V:(n.A !=fB-1||decide (n.A<0))=true:=by
      simp only [vu,q0,Cr]
      by_cases h:n.A=fB-1
      ·exact .inr (by omega)
      ·exact .inl h
     rw [bD V]
     refine⟨0,false,rfl,.inr ⟨rfl,fun fu X=>?_⟩⟩
     obtain⟨fu',rfl,hf'⟩:=hstep fu X
     rw [hsz fu' hf',bD hB.1]
     have e1:=g3.size fu' (by omega)
     rw [<-hBi]at e1
     rw [e1]
     simp only [bt]
     rw [bB (n:=n.B-(sB:Int)) (by omega) (by omega)]
     by_cases h:n.A=fB-1
     ·rw [bD (by simp;omega),sm l (by omega) (by omega)]
      rfl
     ·rw [bo (by simp;omega)]
   ·have hcond:(!((n.B !=IntKind.i64.wrap ((i:Int)-1))||((i:Int)==0)))=false:=by
     rw [bB (by omega) (by omega)]
     by_cases h:n.B=(i:Int)-1
     ·have:i=0:=by omega
      simp [this]
     ·simp [h]
    rw [hcond]
    simp only [kP,iB,bt,Bool.true_or,fP]
    refine⟨0,false,rfl,.inr ⟨rfl,fun fu X=>?_⟩⟩
    obtain⟨fu',rfl,hf'⟩:=hstep fu X
    rw [hsz fu' hf']
    by_cases h:n.B=(i:Int)-1
    ·rw [bD h]
     rw [sm l (by omega) (by omega)]
     rfl
    ·rw [bo h]
  ·-- one below
   simp only [Y,h27,iB]
   rw [bo (by decide),bD (by decide)]
   have hsz: ∀fu,i<fu->bU (fu+1) l (i:Int)=if n.A=(i:Int)-1/\n.B= -1 then((bU fu) l n.A).bind (fun r1=>if(decide ((0:Int)<r1))then(some (IntKind.i64.wrap (r1+(1:Int))))else(some (0:Int)))else some 0:=by
    intro fu hfu
    conv=>lhs;unfold bU
    rw [bo (by simp;omega),hn]
    simp only [bt,jY,Y,h27,hop,fP,iB]
    rw [bo (by decide),bD (by decide),bB (n:=(i:Int)-1) (by omega) (by omega)]
    by_cases hB:n.A=(i:Int)-1/\n.B= -1
    ·rw [bD (by simp [hB]),bD hB]
    ·rw [bo (by simpa using hB),bo hB]
   rw [bB (by omega) (by omega)]
   by_cases hA:(n.A=(i:Int)-1/\n.B= -1)/\0<i
   ·rw [bo (by simp [hA.1];omega)]
    obtain⟨fA,kA,sA,g1,g2,g3⟩:=hI.node (i-1) (by omega)
    have hAi:n.A=((i-1:Nat):Int):=by omega
    have hidx:cQ first n.A=some fA:=by rw [hAi,cw];exact g1
    rw [hidx]
    have hfA:=g3.fst
    have hsA:=g3.pos
    have hsA2:=g3.le
    refine⟨fA,true,rfl,.inl ⟨rfl,sA+1,by omega,by omega,by omega,fun fu X=>?_,⟨fun h=>absurd h Y,fun _=>⟨hA.2,by omega,by omega⟩,fun h=>absurd h h27,fun _ _ _=>hA.1.2⟩⟩⟩
    obtain⟨fu',rfl,hf'⟩:=hstep fu X
    rw [hsz fu' hf',bD hA.1]
    have e1:=g3.size fu' (by omega)
    rw [<-hAi]at e1
    rw [e1]
    simp only [bt]
    rw [bD (by simp;omega),bB (by omega) (by omega)]
    rfl
   ·have V:(n.A !=(i:Int)-1||n.B != -1||(i:Int)==0)=true:=by
     simp only [vu,q0,se]
     by_cases h:n.A=(i:Int)-1
     ·by_cases h' :n.B= -1
      ·exact .inr (by omega)
      ·exact .inl (.inr h')
     ·exact .inl (.inl h)
    rw [bD V]
    refine⟨0,false,rfl,.inr ⟨rfl,fun fu X=>?_⟩⟩
    obtain⟨fu',rfl,hf'⟩:=hstep fu X
    rw [hsz fu' hf']
    by_cases h:n.A=(i:Int)-1/\n.B= -1
    ·rw [bD h,sm l (by omega) (by omega)]
     rfl
    ·rw [bo h]
def Gd{kinds:List (List Int)}(hI:Fq l i first kinds)(hn:cQ l.Nodes (i:Int)=some n)(hl:l.Nodes.length<=1000)(hi:i<l.Nodes.length){s:Nat}(hs:1<=s)(hsz: ∀fu,i+1<fu->bU fu l (i:Int)=some (s:Int))(hp:HE n i)(ho:vW n=true)(hop:Br n.Op=true):
  ∃a b,(n.Op≠1->cQ kinds n.A=some a)/\(n.Op=2\/n.Op=7->cQ kinds n.B=some b)/\a.length<=16/\b.length<=16/\ ∀fu,i+1<fu->cd fu l (i:Int)=fM l (i:Int) n a b:=by
 obtain⟨p1,p2,p3,p4⟩:=hp
 have hsz0:gx l (i:Int)=some (s:Int):=hsz fQ (tU (yX _) (jk (by omega)))
 have hu: ∀fu,cd (fu+1) l (i:Int)=if(decide ((0:Int)<=n.A))then(((cd fu) l n.A).bind fun r4=>if(!r4.2)then(some ([],false))else(dY (cd fu) l (i:Int) n r4.1))else(dY (cd fu) l (i:Int) n ([])):=by
  intro fu
  conv=>lhs;unfold cd
  rw [hsz0,hn]
  simp only [bt,nT,ho]
  have: ¬(s=0):=by omega
  simp [this]
 by_cases Y:n.Op=1
 ·obtain⟨hA,hB⟩:=p1 Y
  refine⟨[],[],fun h=>absurd Y h,fun h=>by omega,by simp,by simp,fun fu X=>?_⟩
  obtain⟨fu,rfl⟩: ∃k,fu=k+1:=⟨fu-1,by omega⟩
  rw [hu,bo (by simp [hA])]
  unfold dY
  rw [bo (by simp [hB])]
 ·obtain⟨hi0,hA0,hAi⟩:=p2 Y
  obtain⟨fA,kA,sA,g1,g2,g3⟩:=hI.node n.A.toNat (by omega)
  have eA:((n.A.toNat:Nat):Int)=n.A:=by omega
  have hkA:cQ kinds n.A=some kA:=by rw [<-eA,cw];exact g2
  by_cases h27:n.Op=2\/n.Op=7
  ·have hB:=p3 h27
   obtain⟨fB,kB,sB,q1,q2,q3⟩:=hI.node (i-1) (by omega)
   have eB:((i-1:Nat):Int)=n.B:=by omega
   have hkB:cQ kinds n.B=some kB:=by rw [<-eB,cw];exact q2
   refine⟨kA,kB,fun _=>hkA,fun _=>hkB,g3.len,q3.len,fun fu X=>?_⟩
   obtain⟨fu,rfl⟩: ∃k,fu=k+1:=⟨fu-1,by omega⟩
   rw [hu,bD (by simpa using hA0)]
   have e1:=g3.kinds fu (by omega)
   rw [eA]at e1
   rw [e1]
   simp only [bt,nC,kP,iB]
   unfold dY
   rw [bD (by simp;omega)]
   have e2:=q3.kinds fu (by omega)
   rw [eB]at e2
   rw [e2]
   simp only [bt,nC,kP,iB]
  ·have hB:=p4 Y (fun h=>h27 (.inl h)) (fun h=>h27 (.inr h))
   refine⟨kA,[],fun _=>hkA,fun h=>absurd h h27,g3.len,by simp,fun fu X=>?_⟩
   obtain⟨fu,rfl⟩: ∃k,fu=k+1:=⟨fu-1,by omega⟩
   rw [hu,bD (by simpa using hA0)]
   have e1:=g3.kinds fu (by omega)
   rw [eA]at e1
   rw [e1]
   simp only [bt,nC,kP,iB]
   unfold dY
   rw [bo (by simp [hB])]
def As(hn:cQ l.Nodes (i:Int)=some n)(hl:i<1000)(h:(∀fu,i+1<fu->bU fu l (i:Int)=some 0)\/((∃s:Int,∀fu,i+1<fu->bU fu l (i:Int)=some s)/\vW n=false)):pz l (i:Int)=some ([],false):=by
 have hF:i+1<fQ:=tU (yX _) (jk (by omega))
 have e:fQ=(fQ-1)+1:=by omega
 unfold pz
 rw [e]
 unfold cd gx
 rcases h with h|⟨⟨s,h⟩,ho⟩
 ·rw [h _ hF];simp
 ·rw [h _ hF,hn]
  simp only [bt,nT,ho]
  by_cases hs:s=0<;>simp [hs]

def eu(l:aw):Prop:= ∀n∈l.Nodes,ck n
abbrev RA:=aq->aa->Option (((List Int)×Bool)×aq)
def yJ:List (Int×RA):=(ez (ez (ez (ez (ez (ez (ez (ez ([]:List (Int×(aq->aa->Option (((List Int)×Bool)×aq)))) (1:Int) (fun(mc:aq) (mx:aa)=>(fc mc mx).map fun mr=>(mr,mc))) (2:Int) (fun(mc:aq) (mx:aa)=>(fV mc mx).map fun mr=>(mr,mc))) (3:Int) (fun(mc:aq) (mx:aa)=>(fd mc mx).map fun mr=>(mr,mc))) (4:Int) (fun(mc:aq) (mx:aa)=>(fG mc mx).map fun mr=>(mr,mc))) (5:Int) (fun(mc:aq) (mx:aa)=>(eK mc mx).map fun mr=>(mr,mc))) (6:Int) (fun(mc:aq) (mx:aa)=>(eo mc mx).map fun mr=>(mr,mc))) (7:Int) (fun(mc:aq) (mx:aa)=>(fE mc mx).map fun mr=>(mr,mc))) (8:Int) (fun(mc:aq) (mx:aa)=>(fF mc mx).map fun mr=>(mr,mc)))
def JW(op:Int):(nX yJ op).isSome=Br op:=by
 unfold yJ
 rw [ND]
 by_cases h:Br op=true
 ·rw [h]
  rcases qk h with rfl|rfl|rfl|rfl|rfl|rfl|rfl|rfl<;>rfl
 ·rw [wv.2 h]
  have h' : ¬(1<=op/\op<=8):=fun hh=>h (by simp [Br];omega)
  have Y: ¬op=1:=by omega
  have J: ¬op=2:=by omega
  have Z: ¬op=3:=by omega
  have h4: ¬op=4:=by omega
  have h5: ¬op=5:=by omega
  have h6: ¬op=6:=by omega
  have h7: ¬op=7:=by omega
  have h8: ¬op=8:=by omega
  simp [Y,J,Z,h4,h5,h6,h7,h8]
def Il(c:aq)(n:aa)(a b:List Int)(hn:ck n)(hop:Br n.Op=true)(ha:n.Op≠1->cQ c.kinds n.A=some a)(V:n.Op=2\/n.Op=7->cQ c.kinds n.B=some b)(hal:a.length<=16)(hbl:b.length<=16):
  ∃k o k',((nX yJ n.Op).getD (fun _ _=>none)) c n=some ((k,o&&(if n.Op=8 then(c.kinds.length:Int)==IntKind.i64.wrap ((c.Logic.Nodes.length:Int)-(1:Int))else true)),c)/\bc n a b=some (k',o)/\(o=true->k=k'):=by
 have go: ∀(m:Option (List Int×Bool)) (last:Bool),xi m (bc n a b) last->((nX yJ n.Op).getD (fun _ _=>none)) c n=m.map (fun mr=>(mr,c))->(if n.Op=8 then(c.kinds.length:Int)==IntKind.i64.wrap ((c.Logic.Nodes.length:Int)-(1:Int))else true)=last-> ∃k o k',((nX yJ n.Op).getD (fun _ _=>none)) c n=some ((k,o&&(if n.Op=8 then(c.kinds.length:Int)==IntKind.i64.wrap ((c.Logic.Nodes.length:Int)-(1:Int))else true)),c)/\bc n a b=some (k',o)/\(o=true->k=k'):=by
  intro m last ⟨k,o,k',Y,J,Z⟩ he hl
  exact⟨k,o,k',by rw [he,Y,hl];rfl,J,Z⟩
 unfold yJ at go ⊢
 rw [ND]at go ⊢
 rcases qk hop with h|h|h|h|h|h|h|h
 ·exact go _ _ (BO c n a b hn h) (by simp [h]) (by simp [h])
 ·exact go _ _ (Iq c n a b hn h (ha (by omega)) (V (.inl h)) hal hbl) (by simp [h]) (by simp [h])
 ·exact go _ _ (EQ c n a b hn h (ha (by omega))) (by simp [h]) (by simp [h])
 ·exact go _ _ (Gh c n a b hn h (ha (by omega))) (by simp [h]) (by simp [h])
 ·exact go _ _ (CK c n a b hn h (ha (by omega))) (by simp [h]) (by simp [h])
 ·exact go _ _ (BA c n a b h (ha (by omega))) (by simp [h]) (by simp [h])
 ·exact go _ _ (FD c n a b h (ha (by omega)) (V (.inr h)) hal) (by simp [h]) (by simp [h])
 ·exact go _ _ (F5 c n a b hn h (ha (by omega))) (by simp [h]) (by simp [h])
def Ik{Sg:Type}(yld:(Int×Bool)->Sg->Option (Bool×Sg)){kinds:List (List Int)}(hI:Fq l i first kinds){tl:List aa}(hd:l.Nodes.drop i=n::tl)(hS:eu l)(hl:l.Nodes.length<=60)(st:Sg):
  ∃first' kinds' ok,bl yld (n::tl) i st ⟨l,kinds,first⟩=((yld ((i:Int),ok) st).bind fun r2=>if((!r2.1)||(!ok))then some (r2.2,⟨l,kinds',first'⟩)else bl yld tl (i+1) r2.2 ⟨l,kinds',first'⟩)/\(∃x,pz l (i:Int)=some (x,ok))/\(ok=true->Fq l (i+1) first' kinds'):=by
 obtain⟨hn,hi,_⟩:=jl hd
 have hfl:=hI.fl
 have hkl:=hI.kl
 have hSn:ck n:=hS n (by
  rw [cw]at hn
  exact rZ hn)
 have hF:i+1<fQ:=tU (yX _) (jk (by omega))
 have hu:bl yld (n::tl) i st ⟨l,kinds,first⟩=(if(nX yJ n.Op).isSome then((qQ n).bind fun r=>(qP r).bind fun r1=>some r1)else some false).bind fun t=>if t then((iK ⟨l,kinds,first⟩ (i:Int)).bind fun r4=>(jp first ([r4.1])).bind fun l7=>dL yld (bl yld tl) i n st r4.2 ⟨l,kinds,l7⟩)else(dL yld (bl yld tl) i n st t ⟨l,kinds,first⟩):=rfl
 rw [hu,JW]
 have hk2: ∀(ok1:Bool) (k:List Int) (f' :List Int),fx yld (bl yld tl) i st ok1 k ⟨l,kinds,f'⟩=((yld ((i:Int),ok1&&decide (k.length<=16)) st).bind fun r2=>if((!r2.1)||(!(ok1&&decide (k.length<=16))))then some (r2.2,⟨l,kinds++[k],f'⟩)else bl yld tl (i+1) r2.2 ⟨l,kinds++[k],f'⟩):=by
  intro ok1 k f'
  unfold fx
  rw [cC (by simp;omega)]
  have:decide ((k.length:Int)<=16)=decide (k.length<=16):=by rw [zk];simp;omega
  simp only [bt,this]
 have hk1: ∀(f' :List Int),dL yld (bl yld tl) i n st false ⟨l,kinds,f'⟩=((yld ((i:Int),false) st).bind fun r2=>if((!r2.1)||(!false))then some (r2.2,⟨l,kinds++[[]],f'⟩)else bl yld tl (i+1) r2.2 ⟨l,kinds++[[]],f'⟩):=by
  intro f'
  unfold dL
  rw [bo (by decide),hk2]
  rfl
 by_cases hop:Br n.Op=true
 ·rw [bD hop,JG n hop]
  simp only [bt]
  obtain⟨f,ok,hb1,hb2⟩:=GG hI hn hi (by omega) hop
  cases ho:vW n with
  |false=>
   simp only [kP,iB]
   rw [hk1]
   refine⟨first,kinds++[[]],false,rfl,⟨[],As hn (by omega) (.inr ⟨?_,ho⟩)⟩,by simp⟩
   rcases hb2 with⟨_,s,_,_,_,h,_⟩|⟨_,h⟩
   ·exact⟨s,h⟩
   ·exact⟨0,h⟩
  |true=>
   simp only [fP]
   rw [hb1]
   simp only [bt]
   rw [cC (by simp;omega)]
   simp only [bt]
   rcases hb2 with⟨hok,s,hs,hs2,X,hsz,hp⟩|⟨hok,h⟩
   ·subst hok
    obtain⟨a,b,ha,V,hal,hbl,hK⟩:=Gd hI hn (by omega) hi hs hsz hp ho hop
    obtain⟨k,o,k',m1,m2,m3⟩:=Il ⟨l,kinds,first++[f]⟩ n a b hSn hop ha V hal hbl
    have hk1' :dL yld (bl yld tl) i n st true ⟨l,kinds,first++[f]⟩=((((nX yJ n.Op).getD (fun _ _=>none)) ⟨l,kinds,first++[f]⟩ n).bind fun r3=>fx yld (bl yld tl) i st r3.1.2 r3.1.1 r3.2):=rfl
    rw [hk1',m1]
    simp only [bt]
    rw [hk2]
    have hlast:((kinds.length:Int)==IntKind.i64.wrap ((l.Nodes.length:Int)-1))=((i:Int)==IntKind.i64.wrap ((l.Nodes.length:Int)-1)):=by rw [hkl]
    have hKk: ∀fu,i+1<fu-> ∃x,cd fu l (i:Int)=some (x,(o&&(if n.Op=8 then(kinds.length:Int)==IntKind.i64.wrap ((l.Nodes.length:Int)-(1:Int))else true))&&decide (k.length<=16))/\(((o&&(if n.Op=8 then(kinds.length:Int)==IntKind.i64.wrap ((l.Nodes.length:Int)-(1:Int))else true))&&decide (k.length<=16))=true->x=k):=by
     intro fu X
     rw [hK fu X]
     unfold fM
     rw [m2]
     simp only [bt]
     rw [hlast]
     cases o with
     |false=>
      simp only [Bool.false_and]
      split
      ·exact⟨_,rfl,by simp⟩
      ·exact⟨_,rfl,by simp⟩
     |true=>
      have:=m3 rfl
      subst this
      simp only [xq]
      by_cases h8:n.Op=8
      ·by_cases hL:(i:Int)=IntKind.i64.wrap ((l.Nodes.length:Int)-1)
       ·by_cases h16:k.length<=16
        ·rw [bo (by simp [<-hL];omega)]
         exact⟨k,by simp [h8,hL,h16],fun _=>rfl⟩
        ·rw [bD (by simp;omega)]
         exact⟨[],by simp [h16],by simp [h16]⟩
       ·rw [bD (by simp [h8,hL])]
        exact⟨[],by simp [h8,hL],by simp [h8,hL]⟩
      ·by_cases h16:k.length<=16
       ·rw [bo (by simp [h8];omega)]
        exact⟨k,by simp [h8,h16],fun _=>rfl⟩
       ·rw [bD (by simp;omega)]
        exact⟨[],by simp [h16],by simp [h16]⟩
    refine⟨first++[f],kinds++[k],_,rfl,?_,fun hok=>?_⟩
    ·obtain⟨x,Y,_⟩:=hKk fQ hF
     exact⟨x,Y⟩
    ·refine hI.push (s:=s) ⟨hs,hs2,X,hsz,?_,fun fu hfu=>?_⟩
     ·simp at hok;exact hok.2
     ·obtain⟨x,Y,J⟩:=hKk fu hfu
      rw [Y,J hok,hok]
   ·subst hok
    rw [hk1]
    exact⟨first++[f],kinds++[[]],false,rfl,⟨[],As hn (by omega) (.inl h)⟩,by simp⟩
 ·rw [bo hop]
  simp only [bt,kP,iB]
  rw [hk1]
  refine⟨first,kinds++[[]],false,rfl,⟨[],As hn (by omega) (.inl fun fu X=>?_)⟩,by simp⟩
  obtain⟨fu,rfl⟩: ∃k,fu=k+1:=⟨fu-1,by omega⟩
  unfold bU
  rw [bo (by simp;omega),hn]
  simp only [bt,jY]
  have Y: ¬n.Op=1:=fun h=>hop (by rw [h];rfl)
  have J: ¬n.Op=2:=fun h=>hop (by rw [h];rfl)
  have h7: ¬n.Op=7:=fun h=>hop (by rw [h];rfl)
  simp [Y,J,h7,hop]
def LX(hS:eu l)(hl:l.Nodes.length<=60): ∀(tl:List aa) (i:Nat) (first:List Int) (kinds:List (List Int)),Fq l i first kinds->l.Nodes.drop i=tl->i+tl.length=l.Nodes.length->
  ∃st ob,bl (xe (fun x s=>mS x s.1 s.2.1 s.2.2)) tl i (none,(false,(0:Int),false)) ⟨l,kinds,first⟩=some (st,ob)/\ob.Logic=l/\
   ((st=(none,(false,(0:Int),false))/\Fq l l.Nodes.length ob.first ob.kinds/\eF l tl i=eF l [] l.Nodes.length)\/(∃j:Nat,st=(some 0,(false,(j:Int),true))/\eF l tl i=some (j:Int))):=by
 intro tl
 induction tl with
 |nil=>
  intro i first kinds hI hd hi
  simp only [pM,tP]at hi
  subst hi
  exact⟨_,_,rfl,rfl,.inl ⟨rfl,hI,rfl⟩⟩
 |cons n tl ih=>
  intro i first kinds hI hd hi
  simp only [i6]at hi
  obtain⟨f',k',ok,Y,⟨x,J⟩,Z⟩:=Ik (xe (fun x s=>mS x s.1 s.2.1 s.2.2)) hI hd hS hl (none,(false,(0:Int),false))
  rw [Y]
  have hW:eF l (n::tl) i=if(!ok)then some (i:Int)else eF l tl (i+1):=by
   conv=>lhs;unfold eF
   rw [J];rfl
  rw [hW]
  cases ok with
  |false=>exact⟨_,_,rfl,rfl,.inr ⟨i,rfl,rfl⟩⟩
  |true=>
   obtain⟨st,ob,g1,g2,g3⟩:=ih (i+1) f' k' (Z rfl) (jl hd).2.2 (by omega)
   refine⟨st,ob,?_,g2,?_⟩
   ·exact g1
   ·simpa using g3
def Fq.nil(l:aw):Fq l 0 [] []:=⟨rfl,rfl,fun j h=>absurd h (Nat.not_lt_zero _)⟩
structure Dp(l:aw)(ob:aq):Prop where
 logic:ob.Logic=l
 pos:1<=l.Nodes.length
 le:l.Nodes.length<=60
 inv:Fq l l.Nodes.length ob.first ob.kinds
 whole:gx l ((l.Nodes.length:Int)-1)=some (l.Nodes.length:Int)
def LY(hS:eu l): ∃ob j ok,lT l=some (ob,j,ok)/\py l=some (if ok then -1 else j)/\(0<=j)/\(ok=true->Dp l ob/\j=(l.Nodes.length:Int)-1):=by
 unfold lT py
 by_cases h:l.Nodes.length<1\/60<l.Nodes.length
 ·rw [bD (by simp;omega),bD (by simp;omega)]
  exact⟨_,_,_,rfl,rfl,Int.le_refl _,by simp⟩
 ·rw [bo (by simp;omega),bo (by simp;omega)]
  unfold n6
  simp only [bt]
  unfold jQ
  obtain⟨st,ob,Y,J,Z⟩:=LX hS (by omega) l.Nodes 0 [] [] (Fq.nil l) rfl (by simp)
  have h1' :bl (xe (fun x s=>mS x s.1 s.2.1 s.2.2)) (⟨l,[],[]⟩:aq).Logic.Nodes 0 (none,(false,(0:Int),false)) ⟨l,[],[]⟩=some (st,ob):=Y
  rw [h1']
  simp only [bt]
  rcases Z with⟨rfl,hI,hW⟩|⟨j,rfl,hW⟩
  ·simp only [Option.isNone_none,fP]
   rw [bB (by omega) (by omega)]
   obtain⟨f,ks,s,g1,g2,g3⟩:=hI.node (l.Nodes.length-1) (by omega)
   have e:((l.Nodes.length-1:Nat):Int)=(l.Nodes.length:Int)-1:=by omega
   have hid:cQ ob.first ((l.Nodes.length:Int)-1)=some f:=by rw [<-e,cw];exact g1
   rw [hid]
   simp only [bt]
   have hsz:gx l ((l.Nodes.length:Int)-1)=some (s:Int):=by
    have:=g3.size fQ (tU (yX _) (jk (by omega)))
    rw [e]at this;exact this
   have X:=g3.fst
   refine⟨_,_,_,rfl,?_,by omega,fun hok=>?_⟩
   ·rw [hW]
    unfold eF
    rw [bB (by omega) (by omega),hsz]
    simp only [bt]
    by_cases hs:s=l.Nodes.length
    ·rw [bo (by simp [hs]),bD (by simp;omega)]
    ·rw [bD (by simp;omega),bo (by simp;omega)]
   ·have hs:s=l.Nodes.length:=by simp at hok;omega
    exact⟨⟨J,by omega,by omega,hI,by rw [hsz,hs]⟩,rfl⟩
  ·simp only [Option.isNone_some,kP,iB]
   refine⟨ob,(j:Int),false,rfl,by rw [hW];rfl,by omega,by simp⟩

def n8{n:Nat}(h:n<=900000):n<fQ:=tU (yX _) (jk (by omega))
def tG(d x:Int):Int:=if 0<=x then IntKind.i64.wrap (x+d)else x
def oL(d:Int)(n:aa):aa:={n with A:=tG d n.A,B:=tG d n.B}
def ck.sh(h:ck n)(d:Int):ck (oL d n):=⟨h.cond,h.kinds,h.keys,h.aggs,h.items,h.order,h.args,h.exprs⟩
def ck.at(h:ck n)(a b:Int):ck {n with A:=a,B:=b}:=⟨h.cond,h.kinds,h.keys,h.aggs,h.items,h.order,h.args,h.exprs⟩
def Bp(n:aa)(d:Int):vR n d=some (oL d n):=by
 unfold vR rM rL oL tG
 by_cases hA:0<=n.A<;>by_cases hB:0<=n.B<;>simp [hA,hB]
def set_same{e:α}(h:xs[i]? =some e):xs.set i e=xs:=by
 apply BG
 intro j
 rw [List.getElem?_set]
 split
 ·rename_i hj;subst hj
  split
  ·exact h.symm
  ·rename_i J;rw [zw (by omega)]
 ·rfl
def qd(h:ck n):kV n=some n:=by
 have hK:=h.kinds
 have hk:=h.keys
 have hA:=h.aggs
 have hI:=h.items
 have hO:=h.order
 have hc:=h.cond
 have hcl: ∀{l:List aj},l.length<=5000->aU l=some l:=fun{l} hl=>by
  unfold aU;rw [cC (by simp;omega)];rfl
 unfold kV
 rw [oB _ (by omega),oB _ (by omega)]
 simp only [bt]
 have e1:dD n.Order=some n.Order:=by unfold dD;rw [cC (by simp;omega)];rfl
 rw [e1]
 simp only [bt]
 rw [hcl hc]
 simp only [bt]
 have e2:eD n.Aggs=some n.Aggs:=by unfold eD;rw [cC (by simp;omega)];rfl
 rw [e2]
 simp only [bt]
 have e3:cc n.Items=some n.Items:=by unfold cc;rw [cC (by simp;omega)];rfl
 rw [e3]
 simp only [bt]
 have key2: ∀(tl:List ai) (i:Nat),n.Items.drop i=tl->(∀e∈tl,e.Nodes.length<=5000)->kT tl i n=some n:=by
  intro tl
  induction tl with
  |nil=>intro i _ _;rfl
  |cons x tl ih=>
   intro i hd hs
   obtain⟨Y,J,Z⟩:=jl hd
   unfold kT
   rw [Y]
   simp only [bt]
   rw [hcl (hs x (lK ..))]
   simp only [bt,tR]
   rw [cw]at Y
   have e4:n.Items.set i ({x with Nodes:=x.Nodes}:ai)=n.Items:=set_same Y
   rw [e4]
   exact ih (i+1) Z (fun e he=>hs e (mZ _ he))
 have key1: ∀(tl:List ik) (i:Nat),n.Aggs.drop i=tl->(∀e∈tl,e.Arg.Nodes.length<=5000)->kU tl i n=some n:=by
  intro tl
  induction tl with
  |nil=>intro i _ _;exact key2 n.Items 0 rfl h.exprs
  |cons x tl ih=>
   intro i hd hs
   obtain⟨Y,J,Z⟩:=jl hd
   unfold kU
   rw [Y]
   simp only [bt]
   rw [hcl (hs x (lK ..))]
   simp only [bt,tR]
   rw [cw]at Y
   have e4:n.Aggs.set i ({x with Arg:=({x.Arg with Nodes:=x.Arg.Nodes}:ai)}:ik)=n.Aggs:=set_same Y
   rw [e4]
   exact ih (i+1) Z (fun e he=>hs e (mZ _ he))
 exact key1 n.Aggs 0 rfl h.args
def pR(h:ck n)(d:Int):mp n d=some (oL d n):=by
 unfold mp m5 oL tG
 by_cases hA:0<=n.A<;>by_cases hB:0<=n.B
 ·rw [bD (by simpa using hA),bD (by simpa using hB),bD hA,bD hB]
  exact qd (h.at _ _)
 ·rw [bD (by simpa using hA),bo (by simpa using hB),bD hA,bo hB]
  exact qd (h.at _ _)
 ·rw [bo (by simpa using hA),bD (by simpa using hB),bo hA,bD hB]
  exact qd (h.at _ _)
 ·rw [bo (by simpa using hA),bo (by simpa using hB),bo hA,bo hB]
  exact qd (h.at _ _)
def bQ(l:aw):Bool:=decide ((py l).getD 0<0)
def nP(h:eu l):yD l=some (bQ l)/\(∃j,iS l=some (if bQ l then(0,0)else(j,230)))/\(∃ob j,lT l=some (ob,j,bQ l)/\(bQ l=true->Dp l ob/\j=(l.Nodes.length:Int)-1)):=by
 obtain⟨ob,j,ok,Y,J,Z,h4⟩:=LY h
 have e:bQ l=ok:=by
  unfold bQ
  rw [J]
  cases ok<;>simp<;>omega
 refine⟨?_,⟨j,?_⟩,ob,j,?_⟩
 ·unfold yD bQ
  rw [J];rfl
 ·unfold iS
  rw [Y,e]
  cases ok<;>rfl
 ·rw [e]
  exact⟨Y,h4⟩
def zQ(hA:n.A<=100000)(hB:n.B<=100000):oL 0 n=n:=by
 have h: ∀x:Int,x<=100000->tG 0 x=x:=by
  intro x I
  unfold tG
  by_cases h:0<=x
  ·rw [bD h,Int.add_zero,bB (by omega) (by omega)]
  ·rw [bo h]
 unfold oL
 rw [h _ hA,h _ hB]
def CS{d:Int}{ns:List aa}(h: ∀n∈ns,ck n): ∀n∈ns.map (oL d),ck n:=by
 intro n hn
 obtain⟨m,hm,rfl⟩:=rC.1 hn
 exact(h m hm).sh d

structure uD(l:aw)(sz:Nat->Nat)(ks:Nat->List Int)(j:Nat)(n:aa):Prop where
 node:cQ l.Nodes (j:Int)=some n
 op:Br n.Op=true
 own:vW n=true
 lf:n.Op=1->n.A= -1/\n.B= -1/\sz j=1
 un:n.Op≠1->n.Op≠2->n.Op≠7->0<j/\n.A=(j:Int)-1/\n.B= -1/\sz j=sz (j-1)+1
 bi:n.Op=2\/n.Op=7->0<j/\n.B=(j:Int)-1/\sz (j-1)<j/\n.A=(j:Int)-1-(sz (j-1):Int)/\sz j=sz (j-1-sz (j-1))+sz (j-1)+1
 kinds:bc n (if n.A<0 then []else ks n.A.toNat) (if n.B<0 then []else ks n.B.toNat)=some (ks j,true)
 last:n.Op=8->j+1=l.Nodes.length
 len:(ks j).length<=16
 pos:1<=sz j
 le:sz j<=j+1
def BN(hn:cQ l.Nodes (j:Int)=some n)(hj:j<l.Nodes.length)(hl:l.Nodes.length<=1000)(fu:Nat):bU (fu+1) l (j:Int)=
  if n.Op=1 then(if n.A= -1/\n.B= -1 then some 1 else some 0)
  else if n.Op=2\/n.Op=7 then(if n.B=(j:Int)-1 then((bU fu) l n.B).bind (fun r2=>if((decide ((0:Int)<r2))&&(n.A==(IntKind.i64.wrap (n.B-r2))))then(((bU fu) l n.A).bind fun r3=>if(decide ((0:Int)<r3))then(some (IntKind.i64.wrap ((IntKind.i64.wrap (r3+r2))+(1:Int))))else(some (0:Int)))else(some (0:Int)))else some 0)
  else if Br n.Op=true then(if n.A=(j:Int)-1/\n.B= -1 then((bU fu) l n.A).bind (fun r1=>if(decide ((0:Int)<r1))then(some (IntKind.i64.wrap (r1+(1:Int))))else(some (0:Int)))else some 0)
  else some 0:=by
 conv=>lhs;unfold bU
 rw [bo (by simp;omega),hn]
 simp only [bt,jY]
 by_cases Y:n.Op=1
 ·simp only [Y,fP]
  rw [bD (by decide)]
  by_cases hAB:n.A= -1/\n.B= -1
  ·rw [bD hAB,bD (by simp [hAB])]
  ·rw [bo hAB,bo (by simpa using hAB)]
 by_cases h27:n.Op=2\/n.Op=7
 ·simp only [Y,h27,fP,iB]
  rw [bo (by decide),bo (by decide),bD (by decide),bB (n:=(j:Int)-1) (by omega) (by omega)]
  by_cases hB:n.B=(j:Int)-1
  ·rw [bD (by simp [hB]),bD hB]
  ·rw [bo (by simpa using hB),bo hB]
 by_cases hop:Br n.Op=true
 ·simp only [Y,h27,hop,fP,iB]
  rw [bo (by decide),bD (by decide),bB (n:=(j:Int)-1) (by omega) (by omega)]
  by_cases hB:n.A=(j:Int)-1/\n.B= -1
  ·rw [bD (by simp [hB]),bD hB]
  ·rw [bo (by simpa using hB),bo hB]
 ·simp only [Y,h27,hop,iB]
  rw [bo (by decide),bo (by decide),bo (by decide)]
  rfl
def wV{s:Int}(hn:cQ l.Nodes (j:Int)=some n)(hs:gx l (j:Int)=some s)(hs0:s≠0)(ho:vW n=true)(fu:Nat):cd (fu+1) l (j:Int)=if(decide ((0:Int)<=n.A))then(((cd fu) l n.A).bind fun r4=>if(!r4.2)then(some ([],false))else(dY (cd fu) l (j:Int) n r4.1))else(dY (cd fu) l (j:Int) n ([])):=by
 conv=>lhs;unfold cd
 rw [hs,hn]
 simp only [bt,nT,ho]
 have:(s==0)=false:=by simpa using hs0
 simp [this]
def vG(first:List Int)(j:Nat):Nat:=((j:Int)+1-(first[j]?).getD 0).toNat
def Er(kinds:List (List Int))(j:Nat):List Int:=(kinds[j]?).getD []
def Fq.at{kinds:List (List Int)}(h:Fq l i first kinds)(hj:j<i):GQ l j ((j:Int)+1-(vG first j:Int)) (Er kinds j) (vG first j)/\first[j]? =some ((j:Int)+1-(vG first j:Int)):=by
 obtain⟨f,k,s,Y,J,Z⟩:=h.node j hj
 have e1:Er kinds j=k:=by unfold Er;rw [J];rfl
 have X:=Z.fst
 have hp:=Z.pos
 have e2:vG first j=s:=by unfold vG;rw [Y];simp only [BE];omega
 rw [e1,e2,<-X]
 exact⟨Z,Y⟩
def AG{kinds:List (List Int)}(hI:Fq l l.Nodes.length first kinds)(hl:l.Nodes.length<=60)(hj:j<l.Nodes.length): ∃n,uD l (vG first) (Er kinds) j n:=by
 obtain⟨N0,_⟩:=hI.at hj
 have hn:cQ l.Nodes (j:Int)=some l.Nodes[j]:=by rw [cw,qY hj]
 obtain⟨n,hnn⟩: ∃n,n=l.Nodes[j]:=⟨_,rfl⟩
 rw [<-hnn]at hn
 have hpos:=N0.pos
 have hsz:=N0.size (j+3) (by omega)
 rw [BN hn hj (by omega)]at hsz
 have hnone: ∀{x:Int},x=0-> ¬(some x=some (vG first j:Int)):=by
  intro x I h
  injection h with h
  omega
 -- the places
 have P:Br n.Op=true/\(n.Op=1->n.A= -1/\n.B= -1/\vG first j=1)/\(n.Op≠1->n.Op≠2->n.Op≠7->0<j/\n.A=(j:Int)-1/\n.B= -1/\vG first j=vG first (j-1)+1)/\(n.Op=2\/n.Op=7->0<j/\n.B=(j:Int)-1/\vG first (j-1)<j/\n.A=(j:Int)-1-(vG first (j-1):Int)/\vG first j=vG first (j-1-vG first (j-1))+vG first (j-1)+1):=by
  by_cases Y:n.Op=1
  ·rw [bD Y]at hsz
   by_cases hAB:n.A= -1/\n.B= -1
   ·rw [bD hAB]at hsz
    injection hsz with hsz
    exact⟨by rw [Y];rfl,fun _=>⟨hAB.1,hAB.2,by omega⟩,fun h=>absurd Y h,fun h=>by omega⟩
   ·rw [bo hAB]at hsz;exact absurd hsz (hnone rfl)
  rw [bo Y]at hsz
  by_cases h27:n.Op=2\/n.Op=7
  ·rw [bD h27]at hsz
   by_cases hB:n.B=(j:Int)-1
   ·rw [bD hB]at hsz
    by_cases hj0:j=0
    ·rw [sm l (by omega) (by omega)]at hsz
     exact absurd hsz (hnone rfl)
    ·obtain⟨NB,_⟩:=hI.at (j:=j-1) (by omega)
     have eB:((j-1:Nat):Int)=n.B:=by omega
     have hszB:=NB.size (j+2) (by omega)
     have hpB:=NB.pos
     have hlB:=NB.le
     rw [eB]at hszB
     rw [hszB]at hsz
     simp only [bt]at hsz
     rw [bB (n:=n.B-_) (by omega) (by omega)]at hsz
     by_cases hA:n.A=n.B-(vG first (j-1):Int)
     ·rw [bD (by simp [hA];omega)]at hsz
      by_cases hA0:n.A<0
      ·rw [sm l (by omega) hA0]at hsz
       exact absurd hsz (hnone rfl)
      ·obtain⟨NA,_⟩:=hI.at (j:=j-1-vG first (j-1)) (by omega)
       have eA:((j-1-vG first (j-1):Nat):Int)=n.A:=by omega
       have hszA:=NA.size (j+2) (by omega)
       have hpA:=NA.pos
       have hlA:=NA.le
       rw [eA]at hszA
       rw [hszA]at hsz
       simp only [bt]at hsz
       rw [bD (by simp;omega),bB (n:=(vG first (j-1-vG first (j-1)):Int)+(vG first (j-1):Int)) (by omega) (by omega),bB (by omega) (by omega)]at hsz
       injection hsz with hsz
       refine⟨?_,fun h=>absurd h Y,fun _ J h7=>by rcases h27 with h|h;exact absurd h J;exact absurd h h7,fun _=>⟨by omega,hB,by omega,by omega,by omega⟩⟩
       rcases h27 with h|h<;>rw [h]<;>rfl
     ·rw [bo (by simp;intro _;exact hA)]at hsz
      exact absurd hsz (hnone rfl)
   ·rw [bo hB]at hsz;exact absurd hsz (hnone rfl)
  rw [bo h27]at hsz
  by_cases hop:Br n.Op=true
  ·rw [bD hop]at hsz
   by_cases hA:n.A=(j:Int)-1/\n.B= -1
   ·rw [bD hA]at hsz
    by_cases hj0:j=0
    ·rw [sm l (by omega) (by omega)]at hsz
     exact absurd hsz (hnone rfl)
    ·obtain⟨NA,_⟩:=hI.at (j:=j-1) (by omega)
     have eA:((j-1:Nat):Int)=n.A:=by omega
     have hszA:=NA.size (j+2) (by omega)
     have hpA:=NA.pos
     have hlA:=NA.le
     rw [eA]at hszA
     rw [hszA]at hsz
     simp only [bt]at hsz
     rw [bD (by simp;omega),bB (by omega) (by omega)]at hsz
     injection hsz with hsz
     exact⟨hop,fun h=>absurd h Y,fun _ _ _=>⟨by omega,hA.1,hA.2,by omega⟩,fun h=>absurd h h27⟩
   ·rw [bo hA]at hsz;exact absurd hsz (hnone rfl)
  ·rw [bo hop]at hsz;exact absurd hsz (hnone rfl)
 obtain⟨p0,p1,p2,p3⟩:=P
 -- what it has of its own, and its kinds
 have hk:=N0.kinds (j+3) (by omega)
 have hszR:gx l (j:Int)=some (vG first j:Int):=N0.size fQ (n8 (by omega))
 have ho:vW n=true:=by
  cases ho:vW n with
  |true=>rfl
  |false=>
   exfalso
   unfold cd at hk
   rw [hszR,hn]at hk
   simp only [bt,nT,ho]at hk
   have: ¬(vG first j=0):=by omega
   simp [this]at hk
 have hpl:n.A<(j:Int)/\n.B<(j:Int):=by
  by_cases Y:n.Op=1
  ·obtain⟨a,b,_⟩:=p1 Y;omega
  by_cases h27:n.Op=2\/n.Op=7
  ·obtain⟨a,b,c,d,_⟩:=p3 h27;omega
  ·obtain⟨a,b,c,_⟩:=p2 Y (fun h=>h27 (.inl h)) (fun h=>h27 (.inr h));omega
 rw [wV hn hszR (by omega) ho]at hk
 have hkA: ∀(p:Int),0<=p->p<(j:Int)->cd (j+2) l p=some (Er kinds p.toNat,true):=by
  intro p hp0 hpj
  obtain⟨NA,_⟩:=hI.at (j:=p.toNat) (by omega)
  have:=NA.kinds (j+2) (by omega)
  rw [show((p.toNat:Nat):Int)=p from by omega]at this
  exact this
 have hk1: ∀a,dY (cd (j+2)) l (j:Int) n a=fM l (j:Int) n a (if n.B<0 then []else Er kinds n.B.toNat):=by
  intro a
  unfold dY
  by_cases hB:0<=n.B
  ·rw [bD (by simpa using hB),hkA n.B hB hpl.2,bo (by omega)]
   rfl
  ·rw [bo (by simpa using hB),bD (by omega)]
 have hk2:fM l (j:Int) n (if n.A<0 then []else Er kinds n.A.toNat) (if n.B<0 then []else Er kinds n.B.toNat)=some (Er kinds j,true):=by
  by_cases hA:0<=n.A
  ·rw [bD (by simpa using hA),hkA n.A hA hpl.1]at hk
   simp only [bt,nC,kP,iB]at hk
   rw [hk1]at hk
   rw [bo (show¬n.A<0 by omega)]
   exact hk
  ·rw [bo (by simpa using hA),hk1]at hk
   rw [bD (show n.A<0 by omega)]
   exact hk
 unfold fM at hk2
 cases hr:bc n (if n.A<0 then []else Er kinds n.A.toNat) (if n.B<0 then []else Er kinds n.B.toNat)with
 |none=>rw [hr]at hk2;cases hk2
 |some r=>
  rw [hr]at hk2
  simp only [bt]at hk2
  split at hk2
  ·simp at hk2
  ·rename_i hc
   injection hk2 with hk2
   injection hk2 with e1 e2
   refine⟨n,hn,p0,ho,p1,p2,p3,?_,fun h8=>?_,N0.len,N0.pos,N0.le⟩
   ·rw [hr,<-e1,<-e2]
   ·simp only [vu,iX,se,q0,Cr,not_or,not_and,Decidable.not_not]at hc
    have:=hc.1 h8
    rw [bB (by omega) (by omega)]at this
    omega
def Iw{sz:Nat->Nat}{ks:Nat->List Int}{m:Nat}(hl:l.Nodes.length<=60)(hm:m<=l.Nodes.length)(h: ∀j,j<m-> ∃n,uD l sz ks j n): ∀(j:Nat),j<m->(∀fu,j+1<fu->bU fu l (j:Int)=some (sz j:Int))/\ ∀fu,j+1<fu->cd fu l (j:Int)=some (ks j,true):=by
 intro j
 induction j using Nat.strongRecOn with
 |ind j ih=>
  intro hj
  obtain⟨n,F⟩:=h j hj
  have hpl:n.A<(j:Int)/\n.B<(j:Int):=by
   by_cases Y:n.Op=1
   ·obtain⟨a,b,_⟩:=F.lf Y;omega
   by_cases h27:n.Op=2\/n.Op=7
   ·obtain⟨a,b,c,d,_⟩:=F.bi h27;omega
   ·obtain⟨a,b,c,_⟩:=F.un Y (fun h=>h27 (.inl h)) (fun h=>h27 (.inr h));omega
  have hS: ∀fu,j+1<fu->bU fu l (j:Int)=some (sz j:Int):=by
   intro fu X
   obtain⟨fu,rfl⟩: ∃k,fu=k+1:=⟨fu-1,by omega⟩
   rw [BN F.node (by omega) (by omega)]
   by_cases Y:n.Op=1
   ·obtain⟨a,b,c⟩:=F.lf Y
    rw [bD Y,bD ⟨a,b⟩,c];rfl
   rw [bo Y]
   by_cases h27:n.Op=2\/n.Op=7
   ·obtain⟨a,b,c,d,e⟩:=F.bi h27
    obtain⟨nB,FB⟩:=h (j-1) (by omega)
    obtain⟨nA,FA⟩:=h (j-1-sz (j-1)) (by omega)
    have hB:=(ih (j-1) (by omega) (by omega)).1 fu (by omega)
    have hA:=(ih (j-1-sz (j-1)) (by omega) (by omega)).1 fu (by omega)
    rw [show((j-1:Nat):Int)=n.B from by omega]at hB
    rw [show((j-1-sz (j-1):Nat):Int)=n.A from by omega]at hA
    have q1:=FB.pos
    have q2:=FB.le
    have q3:=FA.pos
    have q4:=FA.le
    rw [bD h27,bD b,hB]
    simp only [bt]
    rw [bB (n:=n.B-_) (by omega) (by omega),bD (by simp;omega),hA]
    simp only [bt]
    rw [bD (by simp;omega),bB (n:=(sz (j-1-sz (j-1)):Int)+(sz (j-1):Int)) (by omega) (by omega),bB (by omega) (by omega),e]
    rfl
   ·obtain⟨a,b,c,d⟩:=F.un Y (fun h=>h27 (.inl h)) (fun h=>h27 (.inr h))
    obtain⟨nA,FA⟩:=h (j-1) (by omega)
    have hA:=(ih (j-1) (by omega) (by omega)).1 fu (by omega)
    rw [show((j-1:Nat):Int)=n.A from by omega]at hA
    have q1:=FA.pos
    have q2:=FA.le
    rw [bo h27,bD F.op,bD ⟨b,c⟩,hA]
    simp only [bt]
    rw [bD (by simp;omega),bB (by omega) (by omega),d]
    rfl
  refine⟨hS,fun fu X=>?_⟩
  obtain⟨fu,rfl⟩: ∃k,fu=k+1:=⟨fu-1,by omega⟩
  have hszR:gx l (j:Int)=some (sz j:Int):=hS fQ (n8 (by omega))
  have hp:=F.pos
  rw [wV F.node hszR (by omega) F.own]
  have hkA: ∀(p:Int),0<=p->p<(j:Int)->cd fu l p=some (ks p.toNat,true):=by
   intro p hp0 hpj
   have:=(ih p.toNat (by omega) (by omega)).2 fu (by omega)
   rw [show((p.toNat:Nat):Int)=p from by omega]at this
   exact this
  have hk1: ∀a,dY (cd fu) l (j:Int) n a=fM l (j:Int) n a (if n.B<0 then []else ks n.B.toNat):=by
   intro a
   unfold dY
   by_cases hB:0<=n.B
   ·rw [bD (by simpa using hB),hkA n.B hB hpl.2,bo (by omega)]
    rfl
   ·rw [bo (by simpa using hB),bD (by omega)]
  have hk2:fM l (j:Int) n (if n.A<0 then []else ks n.A.toNat) (if n.B<0 then []else ks n.B.toNat)=some (ks j,true):=by
   unfold fM
   rw [F.kinds]
   simp only [bt]
   rw [bo]
   have hlen:=F.len
   simp only [vu,iX,se,q0,Cr,not_or,not_and,Decidable.not_not]
   refine⟨fun h8=>?_,by omega⟩
   have:=F.last h8
   rw [bB (by omega) (by omega)]
   omega
  by_cases hA:0<=n.A
  ·rw [bD (by simpa using hA),hkA n.A hA hpl.1]
   simp only [bt,nC,kP,iB]
   rw [hk1]
   rw [bo (show¬n.A<0 by omega)]at hk2
   exact hk2
  ·rw [bo (by simpa using hA),hk1]
   rw [bD (show n.A<0 by omega)]at hk2
   exact hk2
def ER{sz:Nat->Nat}{ks:Nat->List Int}(hl:l.Nodes.length<=60)(hp:1<=l.Nodes.length)(h: ∀j,j<l.Nodes.length-> ∃n,uD l sz ks j n)(hw:sz (l.Nodes.length-1)=l.Nodes.length):bQ l=true:=by
 have tD:=Iw hl (iQ _) h
 unfold bQ py
 rw [bo (by simp;omega)]
 have key: ∀(tl:List aa) (i:Nat),l.Nodes.drop i=tl->i+tl.length=l.Nodes.length->eF l tl i=some (-1):=by
  intro tl
  induction tl with
  |nil=>
   intro i _ _
   unfold eF
   have:=(tD (l.Nodes.length-1) (by omega)).1 fQ (n8 (by omega))
   rw [bB (by omega) (by omega),show(l.Nodes.length:Int)-1=((l.Nodes.length-1:Nat):Int)from by omega]
   unfold gx
   rw [this,hw]
   simp
  |cons n tl ih=>
   intro i hd hi
   simp only [i6]at hi
   obtain⟨_,J,Z⟩:=jl hd
   unfold eF pz
   rw [(tD i J).2 fQ (n8 (by omega))]
   simp only [bt,nC,kP,iB]
   exact ih (i+1) Z (by omega)
 rw [key l.Nodes 0 rfl (by simp)]
 rfl

def lV{e:ai}{kinds:List Int}(h:(gL e kinds).2=0):dX e.Nodes=true:=by
 unfold gL at h
 cases hr:dX e.Nodes with
 |true=>rfl
 |false=>rw [hr]at h;simp at h
def vD{e:ai}{kinds:List Int}(h:Bm e kinds=true):dX e.Nodes=true:=by
 unfold Bm at h
 simp only [iX,se]at h
 exact lV h.1
def IK{g:ik}{kinds:List Int}(h:(GJ g kinds).2=true)(hp:0<g.Arg.Nodes.length):dX g.Arg.Nodes=true:=by
 rw [<-(Di g kinds).1]at h
 unfold IL at h
 by_cases Y:g.Tag=1
 ·rw [bD Y]at h
  simp at h
  rw [h]at hp;simp at hp
 rw [bo Y]at h
 by_cases J:g.Tag=2
 ·rw [bD J]at h;exact lV (by simpa using h)
 rw [bo J]at h
 by_cases Z:g.Tag=3
 ·rw [bD Z]at h
  simp only [iX,se]at h
  exact lV h.1
 rw [bo Z]at h
 by_cases h4:g.Tag=4\/g.Tag=5
 ·rw [bD h4]at h;exact lV (by simpa using h)
 ·rw [bo h4]at h;cases h
def J2(n:aa)(a:List Int): ∀(tl:List ai) (i fu:Nat) (out:List Int) (ok:Bool) (k:List Int),n.Items.drop i=tl->n.Items.length<=5000->cH n a fu out ok (i:Int)=some (k,true)->ok=true/\ ∀e∈tl,dX e.Nodes=true:=by
 intro tl
 induction tl with
 |nil=>
  intro i fu out ok k hd hl h
  cases fu with
  |zero=>cases h
  |succ fu=>
   have:=ux hd
   rw [cH,bo (by simp;omega)]at h
   injection h with h
   injection h with _ h
   simp only [iX]at h
   exact⟨h.1.1,by simp⟩
 |cons x tl ih=>
  intro i fu out ok k hd hl h
  cases fu with
  |zero=>cases h
  |succ fu=>
   obtain⟨Y,J,Z⟩:=jl hd
   rw [cH,bD (by simp;omega),Y]at h
   simp only [bt,k7]at h
   cases ha:jp out [(gL x a).1]with
   |none=>rw [ha]at h;cases h
   |some o=>
    rw [ha]at h
    simp only [bt]at h
    rw [bB (by omega) (by omega),show((i:Int)+1)=((i+1:Nat):Int)from by omega]at h
    obtain⟨g1,g2⟩:=ih (i+1) fu o _ k Z hl h
    simp only [iX,se]at g1
    exact⟨g1.1,fun e he=>by
     rcases fT.1 he with rfl|he
     ·exact lV g1.2
     ·exact g2 e he⟩
def J3(n:aa)(a:List Int): ∀(tl:List ik) (i fu:Nat) (out:List Int) (ok:Bool) (k:List Int),n.Aggs.drop i=tl->n.Aggs.length<=5000->dc n a fu out ok (i:Int)=some (k,true)->ok=true/\ ∀g∈tl,0<g.Arg.Nodes.length->dX g.Arg.Nodes=true:=by
 intro tl
 induction tl with
 |nil=>
  intro i fu out ok k hd hl h
  cases fu with
  |zero=>cases h
  |succ fu=>
   have:=ux hd
   rw [dc,bo (by simp;omega)]at h
   injection h with h
   injection h with _ h
   simp only [iX]at h
   exact⟨h.1.1.1,by simp⟩
 |cons x tl ih=>
  intro i fu out ok k hd hl h
  cases fu with
  |zero=>cases h
  |succ fu=>
   obtain⟨Y,J,Z⟩:=jl hd
   rw [dc,bD (by simp;omega),Y]at h
   simp only [bt,qE]at h
   cases ha:jp out [(GJ x a).1]with
   |none=>rw [ha]at h;cases h
   |some o=>
    rw [ha]at h
    simp only [bt]at h
    rw [bB (by omega) (by omega),show((i:Int)+1)=((i+1:Nat):Int)from by omega]at h
    obtain⟨g1,g2⟩:=ih (i+1) fu o _ k Z hl h
    simp only [iX]at g1
    exact⟨g1.1,fun g T=>by
     rcases fT.1 T with rfl|T
     ·exact IK g1.2
     ·exact g2 g T⟩
def J4(n:aa)(a:List Int): ∀(tl:List Int) (i fu:Nat) (out:List Int) (k:List Int),n.Keys.drop i=tl->n.Keys.length<=5000->du n a fu out (i:Int)=some (k,true)-> ∃o,dc n a fQ o true 0=some (k,true):=by
 intro tl
 induction tl with
 |nil=>
  intro i fu out k hd hl h
  cases fu with
  |zero=>cases h
  |succ fu=>
   have:=ux hd
   rw [du,bo (by simp;omega)]at h
   exact⟨_,h⟩
 |cons x tl ih=>
  intro i fu out k hd hl h
  cases fu with
  |zero=>cases h
  |succ fu=>
   obtain⟨Y,J,Z⟩:=jl hd
   rw [du,bD (by simp;omega),Y]at h
   simp only [bt]at h
   split at h
   ·simp at h
   ·cases I:cQ a x with
    |none=>rw [I]at h;cases h
    |some y=>
     rw [I]at h
     simp only [bt]at h
     cases ha:jp out [y]with
     |none=>rw [ha]at h;cases h
     |some o=>
      rw [ha]at h
      simp only [bt]at h
      rw [bB (by omega) (by omega),show((i:Int)+1)=((i+1:Nat):Int)from by omega]at h
      exact ih (i+1) fu o k Z hl h
structure Dr(n:aa):Prop where
 cond:0<n.Cond.Nodes.length->dX n.Cond.Nodes=true
 items: ∀e∈n.Items,0<e.Nodes.length->dX e.Nodes=true
 args: ∀g∈n.Aggs,0<g.Arg.Nodes.length->dX g.Arg.Nodes=true
def JH(h:vW n=true):(n.Op≠2->n.Op≠3->n.Cond.Nodes.length=0)/\(n.Op≠4->n.Aggs.length=0)/\(n.Op≠5->n.Items.length=0):=by
 have e:=nT n
 rw [h]at e
 unfold qj at e
 split at e
 ·simp at e
 ·split at e
  ·simp at e
  ·split at e
   ·simp at e
   ·rename_i Y J Z
    simp only [vu,iX,q0,Cr,not_or,not_and]at Y J Z
    refine⟨fun a b=>?_,fun a=>?_,fun a=>?_⟩
    ·have:=J.2 ⟨a,b⟩;omega
    ·have:=(Z.1 a).2;omega
    ·have:=Z.2 a;omega
def KJ{a b k:List Int}(hs:ck n)(hop:Br n.Op=true)(ho:vW n=true)(h:bc n a b=some (k,true)):Dr n:=by
 obtain⟨o1,o2,o3⟩:=JH ho
 have hnil: ∀{α:Type} {l:List α} {p:α->Prop},l.length=0-> ∀x∈l,p x:=by
  intro α l p hl x I
  rw [tX hl]at I;cases I
 unfold bc at h
 rcases qk hop with c|c|c|c|c|c|c|c
 ·exact⟨fun hp=>by have:=o1 (by omega) (by omega);omega,hnil (o3 (by omega)),hnil (o2 (by omega))⟩
 ·rw [bo (by simp [c]),bD (by simp [c])]at h
  refine⟨fun _=>?_,hnil (o3 (by omega)),hnil (o2 (by omega))⟩
  cases Y:jp ([]:List Int) a with
  |none=>rw [Y]at h;cases h
  |some l1=>
   rw [Y]at h
   simp only [bt]at h
   cases J:jp l1 b with
   |none=>rw [J]at h;cases h
   |some l2=>
    rw [J]at h
    simp only [bt,jW]at h
    injection h with h
    injection h with _ h
    exact vD h
 ·rw [bo (by simp [c]),bo (by simp [c]),bD (by simp [c])]at h
  refine⟨fun _=>?_,hnil (o3 (by omega)),hnil (o2 (by omega))⟩
  simp only [bt,jW]at h
  injection h with h
  injection h with _ h
  exact vD h
 ·rw [bo (by simp [c]),bo (by simp [c]),bo (by simp [c]),bD (by simp [c])]at h
  obtain⟨o,h'⟩:=J4 n a n.Keys 0 fQ [] k rfl hs.keys h
  exact⟨fun hp=>by have:=o1 (by omega) (by omega);omega,hnil (o3 (by omega)),(J3 n a n.Aggs 0 fQ o true k rfl hs.aggs h').2⟩
 ·rw [bo (by simp [c]),bo (by simp [c]),bo (by simp [c]),bo (by simp [c]),bD (by simp [c])]at h
  exact⟨fun hp=>by have:=o1 (by omega) (by omega);omega,fun e he _=>(J2 n a n.Items 0 fQ [] true k rfl hs.items h).2 e he,hnil (o2 (by omega))⟩
 ·exact⟨fun hp=>by have:=o1 (by omega) (by omega);omega,hnil (o3 (by omega)),hnil (o2 (by omega))⟩
 ·exact⟨fun hp=>by have:=o1 (by omega) (by omega);omega,hnil (o3 (by omega)),hnil (o2 (by omega))⟩
 ·exact⟨fun hp=>by have:=o1 (by omega) (by omega);omega,hnil (o3 (by omega)),hnil (o2 (by omega))⟩
def qu(e:ai):Bool:= !e.Nodes.isEmpty&&e.Nodes.any Fp
def DH(g:ik):Bool:=if g.Tag=3 then true else qu g.Arg
def ww(n:aa):Bool:=qu n.Cond||n.Items.any qu||n.Aggs.any DH
def qX{f:aj->Option Bool}{g:aj->Bool}(X: ∀v,f v=some (g v)): ∀(l:List aj) (i:Nat),∃j:Int,bY f l i=some j/\decide (0<=j)=l.any g
 |[],i=>⟨-1,rfl,rfl⟩
 |e::l,i=>by
  unfold bY
  rw [X,bt]
  cases h:g e with
  |true=>exact⟨(i:Int),by simp,by simp [h]⟩
  |false=>
   obtain⟨j,Y,J⟩:=qX X l (i+1)
   exact⟨j,by simpa using Y,by rw [J];simp [h]⟩
def oA{f:ai->Option Bool}{g:ai->Bool}: ∀(l:List ai) (i:Nat),(∀v∈l,f v=some (g v))-> ∃j:Int,cV f l i=some j/\decide (0<=j)=l.any g
 |[],i,_=>⟨-1,rfl,rfl⟩
 |e::l,i,X=>by
  unfold cV
  rw [X e (lK ..),bt]
  cases h:g e with
  |true=>exact⟨(i:Int),by simp,by simp [h]⟩
  |false=>
   obtain⟨j,Y,J⟩:=oA l (i+1) (fun v hv=>X v (mZ _ hv))
   exact⟨j,by simpa using Y,by rw [J];simp [h]⟩
def sN{f:ik->Option Bool}{g:ik->Bool}: ∀(l:List ik) (i:Nat),(∀v∈l,f v=some (g v))-> ∃j:Int,di f l i=some j/\decide (0<=j)=l.any g
 |[],i,_=>⟨-1,rfl,rfl⟩
 |e::l,i,X=>by
  unfold di
  rw [X e (lK ..),bt]
  cases h:g e with
  |true=>exact⟨(i:Int),by simp,by simp [h]⟩
  |false=>
   obtain⟨j,Y,J⟩:=sN l (i+1) (fun v hv=>X v (mZ _ hv))
   exact⟨j,by simpa using Y,by rw [J];simp [h]⟩
def LZ(l:List α):decide ((0:Int)<(l.length:Int))= !l.isEmpty:=JY l
def ye(e:ai)(h:0<e.Nodes.length->dX e.Nodes=true):fy e=some (qu e):=by
 unfold fy qu
 rw [LZ]
 by_cases hp:0<e.Nodes.length
 ·have hr:=h hp
  have hl:=qD hr
  have:e.Nodes.isEmpty=false:=by cases hh:e.Nodes with
   |nil=>rw [hh]at hp;simp at hp
   |cons a l=>rfl
  simp only [this,ym,fP,xq]
  unfold j9
  rw [jI e (by omega),hr]
  simp only [fP,bt]
  rw [bD (by decide)]
  unfold cK dT
  obtain⟨j,Y,J⟩:=qX (f:=nw) (g:=Fp) (fun v=>rfl) e.Nodes 0
  rw [Y]
  simp only [bt,J,Bool.not_not]
 ·have:e.Nodes.isEmpty=true:=by cases hh:e.Nodes with
   |nil=>rfl
   |cons a l=>rw [hh]at hp;simp at hp
  simp [this]
def AW: ∀ns:List aa,(∀n∈ns,Dr n)->mT ns=some (!(ns.any ww))
 |[],_=>rfl
 |n::ns,h=>by
  have hn:=h n (lK ..)
  unfold mT
  rw [ye _ hn.cond,AW ns (fun m hm=>h m (mZ _ hm))]
  have c1:bM n.Items fy=some (n.Items.any qu):=by
   unfold bM ei
   obtain⟨j,Y,J⟩:=oA (f:=fy) (g:=qu) n.Items 0 (fun v hv=>ye v (hn.items v hv))
   rw [Y,bt,J]
  have c2:d9 n.Aggs (mq fy)=some (n.Aggs.any DH):=by
   unfold d9 gv
   obtain⟨j,Y,J⟩:=sN (f:=mq fy) (g:=DH) n.Aggs 0 (fun v hv=>by
    unfold mq DH
    rw [ye _ (hn.args v hv)]
    by_cases Z:v.Tag=3<;>simp [Z])
   rw [Y,bt,J]
  rw [c1,c2]
  simp only [bt,zt,ww]
  cases qu n.Cond<;>cases n.Items.any qu<;>cases n.Aggs.any DH<;>simp
end Go.Proofs.YtbmmihfagmchaaaGreat

