/- db of this claim: L1, L2, L3, M1, M2, M3, M4, M5, M6, M7, M8, M9. -/
import Derived.Test.YtbmmihfagmchaaaGreatRaF
import Derived.KernelRfl
set_option linter.all false
namespace Go.Proofs.YtbmmihfagmchaaaGreat
open Go

variable{n:aj}
def em{n:Int}(h: -9223372036854775808<=n)(H:n<=9223372036854775807):IntKind.i64.wrap n=n:=by rw [IntKind.wrap_i64];omega
variable{α:Type}{xs ys:List α}
def iR(h:xs.length+ys.length<=68719476736):kF xs ys=some (xs++ys):=eF h
def pX{l m:Nat}(h:l<=m)(H:m<=xs.length):cW xs (l:Int) (m:Int)=some ((xs.take m).drop l):=by
 unfold cW
 rw [eF (by omega)]
 simp
def gR{i j:Int}(l m:Nat)(hi:i=(l:Int))(hj:j=(m:Int))(h:l<=m)(H:m<=xs.length):cW xs i j=some ((xs.take m).drop l):=by
 subst hi hj;exact pX h H
variable{k:Nat}
def ln{i:Int}(k:Nat)(hi:i=(k:Int)):eG xs i=xs[k]? :=by subst hi;exact iW _ _
def sq(v:bT):Bool:=(kp v).getD false
def ux(v:bT):kp v=some (sq v):=by
 unfold sq kp
 repeat' split
 all_goals rfl
def tZ(v:bT):nm v=some (if sq v then 0 else 120):=by
 obtain⟨k,n,u,s⟩:=v
 unfold sq kp nm pw
 simp only [fR,kI,kH,kG]
 by_cases h0:k=0
 ·subst h0;simp
  repeat' split
  all_goals simp_all
 by_cases Y:k=1
 ·subst Y
  by_cases n0:n=0
  ·subst n0;simp
   repeat' split
   all_goals simp_all
  by_cases n1:n=1
  ·subst n1;simp
   repeat' split
   all_goals simp_all
  simp [n0,n1]
 by_cases H:k=2
 ·subst H;simp
  repeat' split
  all_goals simp_all
 by_cases h3:k=3
 ·subst h3;simp
  repeat' split
  all_goals simp_all
 by_cases h4:k=4
 ·subst h4;simp
  repeat' split
  all_goals simp_all
 simp [h0,Y,H,h3,h4]
def wM(v:bT):Bool:=sq v&&(v.Kind !=4)
def tY(v:bT):nl v=some (wM v):=by
 unfold nl wM
 rw [tZ]
 cases sq v<;>simp
def pE(v:bT):ny v=some (wM v):=by
 unfold ny wM
 rw [ux]
 rfl
def pk(tag:Int):Option Nat:=if tag=1\/tag=2 then some 0 else if 4<=tag/\tag<=7 then some 1 else if 12<=tag/\tag<=23 then some 2 else none
def xB(tag:Int):Int:=match pk tag with
 |some k=>(k:Int)
 |none=> -1
def vC(tag:Int):lw tag=some (xB tag):=by
 unfold lw xB pk
 by_cases Y:tag=1\/tag=2
 ·rw [eF Y,eF (by simpa using Y)];rfl
 rw [ei Y,ei (by simpa using Y)]
 by_cases H:4<=tag/\tag<=7
 ·rw [eF H,eF (by simpa using H)];rfl
 rw [ei H,ei (by simpa using H)]
 by_cases h3:12<=tag/\tag<=23
 ·rw [eF h3,eF (by simpa using h3)];rfl
 rw [ei h3,ei (by simpa using h3)]
def kM(tag:Int):nw tag=some (xB tag):=by
 unfold nw pD xB pk
 by_cases Y:tag=1\/tag=2
 ·rw [eF Y];rcases Y with rfl|rfl<;>rfl
 rw [ei Y]
 by_cases H:4<=tag/\tag<=7
 ·rw [eF H]
  have:tag=4\/tag=5\/tag=6\/tag=7:=by omega
  rcases this with rfl|rfl|rfl|rfl<;>rfl
 rw [ei H]
 by_cases h3:12<=tag/\tag<=23
 ·rw [eF h3,ei (by simp;omega),ei (by simp;omega),ei (by simp;omega),ei (by simp;omega)];rfl
 rw [ei h3]
 by_cases h4:tag=3\/(8<=tag/\tag<=11)
 ·rw [eF (by simpa using h4)]
 rw [ei (by simpa using h4),eF (by simp;omega)]
 rfl
def yP(n:aj):Bool:=(hX n).getD false
def gi(n:aj):hX n=some (yP n):=by
 unfold yP hX
 rw [pE]
 split
 ·rfl
 ·split<;>rfl
def uP(n:aj):nL n=some (yP n):=by
 rw [<-gi]
 unfold nL hX
 rw [pE,tY]
inductive Tr where
 |lf (n:aj)
 |un (n:aj) (a:Tr)
 |bi (n:aj) (a b:Tr)
 deriving Inhabited
def Tr.size:Tr->Nat
 | .lf _=>1
 | .un _ a=>a.size+1
 | .bi _ a b=>a.size+b.size+1
def eW(n:aj)(l r:Int):aj:={n with L:=l,R:=r}
def Tr.flat:Tr->Nat->List aj
 | .lf n,_=>[eW n (-1) (-1)]
 | .un n a,s=>a.flat s++[eW n ((s+a.size:Nat)-1) (-1)]
 | .bi n a b,s=>a.flat s++b.flat (s+a.size)++[eW n ((s+a.size:Nat)-1) ((s+a.size+b.size:Nat)-1)]
def Iv(k:Nat)(n:aj):Prop:=pk n.Tag=some k/\yP n=true/\n.L= -1/\n.R= -1
def Tr.wf:Tr->Prop
 | .lf n=>Iv 0 n
 | .un n a=>Iv 1 n/\a.wf
 | .bi n a b=>Iv 2 n/\a.wf/\b.wf
variable{t:Tr}
def Tr.size_pos(t:Tr):0<t.size:=by cases t<;>simp [Tr.size]
def Tr.flat_len(t:Tr): ∀s,(t.flat s).length=t.size:=by
 induction t with
 |lf n=>intro s;rfl
 |un n a ih=>intro s;simp [Tr.flat,Tr.size,ih]
 |bi n a b iha ihb=>intro s;simp [Tr.flat,Tr.size,iha,ihb];omega
def bK:List Tr->Nat
 |[]=>0
 |t::st=>bK st+t.size
def om:List Tr->List aj
 |[]=>[]
 |t::st=>om st++t.flat (bK st)
def v6: ∀st:List Tr,(om st).length=bK st
 |[]=>rfl
 |t::st=>by simp [om,bK,v6 st,t.flat_len]
def vK: ∀st:List Tr,st.length<=bK st
 |[]=>iZ _
 |t::st=>by have:=vK st;have:=t.size_pos;simp [bK];omega
def push(st:List Tr)(n:aj):Option (List Tr):=
 match pk n.Tag,st with
 |some 0,st=>if yP n&&n.L== -1&&n.R== -1 then some (.lf (eW n (-1) (-1))::st)else none
 |some 1,a::st=>if yP n&&n.L==((bK st+a.size:Nat):Int)-1&&n.R== -1 then some (.un (eW n (-1) (-1)) a::st)else none
 |some 2,b::a::st=>if yP n&&n.L==((bK st+a.size:Nat):Int)-1&&n.R==((bK st+a.size+b.size:Nat):Int)-1 then some (.bi (eW n (-1) (-1)) a b::st)else none
 |_,_=>none
def j5:List aj->List Tr->Option (List Tr)
 |[],st=>some st
 |n::ns,st=>(push st n).bind (j5 ns)
def Ih(st:List Tr):Prop:= ∀t∈st,t.wf
def pY{l r:Int}(h:n.L=l)(H:n.R=r):eW (eW n (-1) (-1)) l r=n:=by subst h H;rfl
def Bo{st st' :List Tr}(h:push st n=some st')(hw:Ih st):om st' =om st++[n]/\bK st' =bK st+1/\Ih st' :=by
 unfold push at h
 split at h
 ·rename_i k st0 hk
  split at h
  ·rename_i hc
   simp only [kA,beq_iff_eq]at hc
   obtain⟨⟨Y,H⟩,h3⟩:=hc
   cases h
   refine⟨?_,rfl,fun t D=>?_⟩
   ·simp only [om,Tr.flat]
    rw [pY H h3]
   ·rcases eV.1 D with rfl|D
    ·exact⟨hk,Y,rfl,rfl⟩
    ·exact hw t D
  ·cases h
 ·rename_i k a st0 hk
  split at h
  ·rename_i hc
   simp only [kA,beq_iff_eq]at hc
   obtain⟨⟨Y,H⟩,h3⟩:=hc
   cases h
   refine⟨?_,by simp [bK,Tr.size];omega,fun t D=>?_⟩
   ·simp only [om,Tr.flat]
    rw [pY H h3,jI]
   ·rcases eV.1 D with rfl|D
    ·exact⟨⟨hk,Y,rfl,rfl⟩,hw a (k5 ..)⟩
    ·exact hw t (nf _ D)
  ·cases h
 ·rename_i k b a st0 hk
  split at h
  ·rename_i hc
   simp only [kA,beq_iff_eq]at hc
   obtain⟨⟨Y,H⟩,h3⟩:=hc
   cases h
   refine⟨?_,by simp [bK,Tr.size];omega,fun t D=>?_⟩
   ·simp only [om,Tr.flat,bK]
    rw [pY H h3]
    simp only [jI]
   ·rcases eV.1 D with rfl|D
    ·exact⟨⟨hk,Y,rfl,rfl⟩,hw a (nf _ (k5 ..)),hw b (k5 ..)⟩
    ·exact hw t (nf _ (nf _ D))
  ·cases h
 ·cases h
variable{ns:List aj}
def mW: ∀{ns:List aj} {st st' :List Tr},j5 ns st=some st' ->Ih st->om st' =om st++ns/\Ih st'
 |[],st,st',h,hw=>by cases h;simp [hw]
 |n::ns,st,st',h,hw=>by
  unfold j5 at h
  cases hp:push st n with
  |none=>rw [hp]at h;cases h
  |some st1=>
   rw [hp]at h
   obtain⟨Y,_,h3⟩:=Bo hp hw
   obtain⟨h4,h5⟩:=mW (ns:=ns) h h3
   exact⟨by rw [h4,Y];simp,h5⟩
def mE: ∀(ns ms:List aj) (st:List Tr),j5 (ns++ms) st=(j5 ns st).bind (j5 ms)
 |[],ms,st=>rfl
 |n::ns,ms,st=>by
  simp only [List.cons_append,j5]
  cases push st n with
  |none=>rfl
  |some st1=>exact mE ns ms st1
def zA(t:Tr): ∀(st:List Tr),t.wf->j5 (t.flat (bK st)) st=some (t::st):=by
 induction t with
 |lf n=>
  intro st ⟨Y,H,h3,h4⟩
  have hn' :eW n (-1) (-1)=n:=by cases n;simp only at h3 h4;subst h3 h4;rfl
  simp only [Tr.flat,j5,push,hn']
  rw [Y]
  simp [H,h3,h4,j5,hn']
 |un n a ih=>
  intro st ⟨⟨Y,H,h3,h4⟩,ha⟩
  have hn' :eW n (-1) (-1)=n:=by cases n;simp only at h3 h4;subst h3 h4;rfl
  simp only [Tr.flat]
  rw [mE,ih st ha]
  simp only [fM,j5,push]
  have e1:(eW n (((bK st+a.size:Nat):Int)-1) (-1)).Tag=n.Tag:=rfl
  rw [e1,Y]
  have e2:yP (eW n (((bK st+a.size:Nat):Int)-1) (-1))=true:=H
  rw [e2]
  simp only [eW,beq_self_eq_true,Bool.and_self,ni,fM,j5]
  simp only [eW]at hn'
  rw [hn']
 |bi n a b iha ihb=>
  intro st ⟨⟨Y,H,h3,h4⟩,ha,V⟩
  have hn' :eW n (-1) (-1)=n:=by cases n;simp only at h3 h4;subst h3 h4;rfl
  simp only [Tr.flat]
  rw [mE,mE,iha st ha]
  simp only [fM]
  have e0:bK st+a.size=bK (a::st):=rfl
  rw [e0,ihb (a::st) V]
  simp only [fM,j5,push]
  have e1:(eW n (((bK (a::st):Nat):Int)-1) (((bK (a::st)+b.size:Nat):Int)-1)).Tag=n.Tag:=rfl
  rw [e1,Y]
  have e2:yP (eW n (((bK (a::st):Nat):Int)-1) (((bK (a::st)+b.size:Nat):Int)-1))=true:=H
  rw [e2]
  simp only [eW,bK,beq_self_eq_true,Bool.and_self,ni,fM,j5]
  simp only [eW]at hn'
  rw [hn']
def jL(ns:List aj):Option Tr:=match j5 ns []with
 |some [t]=>if ns.length<=1000 then some t else none
 |_=>none
def km(h:jL ns=some t):t.wf/\ns=t.flat 0/\t.size<=1000:=by
 unfold jL at h
 split at h
 ·rename_i t0 hp
  split at h
  ·rename_i hl
   cases h
   obtain⟨Y,H⟩:=mW hp (fun t D=>by cases D)
   simp only [om,bK,nQ]at Y
   exact⟨H t (k5 ..),Y.symm,by rw [<-t.flat_len 0,Y];exact hl⟩
  ·cases h
 ·cases h
def sP(h:t.wf)(hs:t.size<=1000):jL (t.flat 0)=some t:=by
 unfold jL
 have h0:=zA t [] h
 simp only [bK]at h0
 rw [h0]
 simp only [t.flat_len,hs,ni]
def fl:Tr->Nat->List Int
 | .lf _,s=>[(s:Int)]
 | .un _ a,s=>fl a s++[(s:Int)]
 | .bi _ a b,s=>fl a s++fl b (s+a.size)++[(s:Int)]
def yG:List Tr->List Int
 |[]=>[]
 |t::st=>yG st++fl t (bK st)
def gU:List Tr->List Int
 |[]=>[]
 |t::st=>gU st++[((bK st+t.size:Nat):Int)-1]
def mn(t:Tr): ∀s,(fl t s).length=t.size:=by
 induction t with
 |lf n=>intro s;rfl
 |un n a ih=>intro s;simp [fl,Tr.size,ih]
 |bi n a b iha ihb=>intro s;simp [fl,Tr.size,iha,ihb];omega
def nI: ∀st:List Tr,(yG st).length=bK st
 |[]=>rfl
 |t::st=>by simp [yG,bK,nI st,mn]
def cz: ∀st:List Tr,(gU st).length=st.length
 |[]=>rfl
 |t::st=>by simp [gU,cz st]
def AC(t:Tr)(s:Nat):(fl t s)[t.size-1]? =some (s:Int):=by
 cases t with
 |lf n=>rfl
 |un n a=>simp only [fl,Tr.size];rw [tf (by rw [mn];omega),mn];simp
 |bi n a b=>simp only [fl,Tr.size];rw [tf (by simp [mn]),hT,mn,mn];simp
def uJ(t:Tr)(st:List Tr)(rest:List Int):(yG st++fl t (bK st)++rest)[bK st+t.size-1]? =some (bK st:Int):=by
 have:=t.size_pos
 rw [vj (by rw [hT,nI,mn];omega),tf (by rw [nI];omega),nI,show bK st+t.size-1-bK st=t.size-1 from by omega]
 exact AC t _
def wa: ∀(ns:List aj) (st:List Tr),bK st+ns.length<=100000->fX ns (bK st) (yG st) (gU st)=some (match j5 ns st with
   |some st' =>(yG st',decide (st'.length=1)&&decide (bK st' <=1000))
   |none=>([],false)):=by
 intro ns
 induction ns with
 |nil=>
  intro st _
  simp only [fX,j5,cz,nI]
  congr 2
  congr 1
  ·rw [Bool.eq_iff_iff];simp;omega
  ·rw [Bool.eq_iff_iff];simp;omega
 |cons n ns ih=>
  intro st hs
  simp only [oc]at hs
  have hll:=vK st
  unfold fX
  rw [vC]
  simp only [fM,cz,uP]
  unfold j5
  unfold push
  -- the parts
  cases hk:pk n.Tag with
  |none=>
   have e:xB n.Tag= -1:=by unfold xB;rw [hk]
   simp [e]
  |some k=>
   have e:xB n.Tag=(k:Int):=by unfold xB;rw [hk]
   have hk3:k=0\/k=1\/k=2:=by
    unfold pk at hk
    repeat' split at hk
    all_goals simp at hk
    all_goals omega
   rw [e]
   rcases hk3 with rfl|rfl|rfl
   ·-- none
    simp only []
    have c1:(decide (((0:Nat):Int)<0)||decide ((st.length:Int)<((0:Nat):Int)))=false:=by simp
    simp only [c1,Bool.not_false,ni,fM]
    cases hc:yP n with
    |false=>simp
    |true=>
     simp only [po,rZ,ov,tQ]
     rw [gR st.length st.length (by rw [em (by omega) (by omega)];omega) rfl (iZ _) (by rw [cz];exact iZ _)]
     have hd:(List.take st.length (gU st)).drop st.length=[]:=tM (by simp;omega)
     simp only [hd,fM,hD]
     by_cases hL:n.L= -1/\n.R= -1
     ·have V:(n.L== -1&&n.R== -1)=true:=by simp [hL]
      rw [eF V,ei (by simp [hL.1,hL.2])]
      rw [iR (by simp only [oc,xD,nI];omega)]
      simp only [fM]
      rw [gR (i:=0) 0 st.length rfl (by rw [cz,em (by omega) (by omega)];omega) (ky _) (by rw [cz];exact iZ _)]
      rw [kC (by rw [cz];exact iZ _),q6]
      simp only [fM]
      rw [iR (by simp only [oc,xD,cz];omega)]
      simp only [fM]
      have H:=ih (.lf (eW n (-1) (-1))::st) (by simp [bK,Tr.size];omega)
      simp only [bK,Tr.size,yG,fl,gU]at H
      rw [show(((bK st+1:Nat):Int)-1)=(bK st:Int)from by omega]at H
      exact H
     ·have V:(n.L== -1&&n.R== -1)=false:=by
       rw [xH];intro h;apply hL;simpa using h
      rw [V]
      rw [eF (by
       simp only [za,decide_eq_false_iff_not]
       intro h
       have Y:(-1:Int)=n.L:=by injection h
       have H:(-1:Int)=n.R:=by injection h with _ h;injection h
       exact hL ⟨Y.symm,H.symm⟩)]
      simp
   ·-- one
    cases st with
    |nil=>simp
    |cons a st=>
     simp only []
     have c1:(decide (((1:Nat):Int)<0)||decide (((a::st).length:Int)<((1:Nat):Int)))=false:=by simp;omega
     simp only [c1,Bool.not_false,ni,fM]
     cases hc:yP n with
     |false=>simp
     |true=>
      simp only [po,rZ,ov,tQ]
      simp only [oc]at hll ⊢
      simp only [bK]at hs hll
      have hap:=a.size_pos
      rw [gR st.length (st.length+1) (by rw [em (by omega) (by omega)];omega) (by omega) (by omega) (by rw [cz];exact iZ _)]
      have hd:(List.take (st.length+1) (gU (a::st))).drop st.length=[((bK st+a.size:Nat):Int)-1]:=by
       rw [kC (by rw [cz];exact iZ _)]
       simp only [gU]
       rw [A2 (by rw [cz];exact iZ _),tM (by rw [cz];exact iZ _),nQ]
      rw [hd]
      simp only [fM,hD]
      rw [ln (bK st+a.size-1) (by omega)]
      have M:=uJ a st []
      rw [vg]at M
      simp only [yG]
      rw [M]
      simp only [fM]
      rw [ln 0 rfl]
      simp only [DF,fM]
      have hset:([(-1:Int),-1].set ((0:Nat):Int).toNat (((bK st+a.size:Nat):Int)-1))=[((bK st+a.size:Nat):Int)-1,-1]:=rfl
      rw [hset]
      by_cases hL:n.L=((bK st+a.size:Nat):Int)-1/\n.R= -1
      ·have V:(n.L==((bK st+a.size:Nat):Int)-1&&n.R== -1)=true:=by simp [hL]
       rw [eF V,ei (by rw [hL.1,hL.2];simp)]
       rw [iR (by simp only [oc,xD,hT,nI,mn];omega)]
       simp only [fM]
       rw [gR (i:=0) 0 st.length rfl (by rw [cz,em (by simp<;>omega) (by simp<;>omega)];simp) (ky _) (by rw [cz];simp)]
       have D:(List.take st.length (gU (a::st))).drop 0=gU st:=by
        simp only [gU,q6]
        rw [qA (by rw [cz];exact iZ _),kC (by rw [cz];exact iZ _)]
       rw [D]
       simp only [fM]
       rw [iR (by simp only [oc,xD,cz];omega)]
       simp only [fM]
       have H:=ih (.un (eW n (-1) (-1)) a::st) (by simp [bK,Tr.size];omega)
       simp only [bK,Tr.size,yG,fl,gU]at H
       rw [show(((bK st+(a.size+1):Nat):Int)-1)=((bK st+a.size:Nat):Int)from by omega]at H
       have hm:min ((bK (a::st):Nat):Int) (bK st:Int)=(bK st:Int):=by simp only [bK];omega
       rw [hm]
       simp only [jI]at H ⊢
       exact H
      ·have V:(n.L==((bK st+a.size:Nat):Int)-1&&n.R== -1)=false:=by
        rw [xH];intro h;apply hL;simpa using h
       rw [V]
       rw [eF (by
        simp only [za,decide_eq_false_iff_not]
        intro h
        have Y:((bK st+a.size:Nat):Int)-1=n.L:=by injection h
        have H:(-1:Int)=n.R:=by injection h with _ h;injection h
        exact hL ⟨Y.symm,H.symm⟩)]
       simp
   ·-- two
    cases st with
    |nil=>simp
    |cons b st=>
     cases st with
     |nil=>simp
     |cons a st=>
      simp only []
      have c1:(decide (((2:Nat):Int)<0)||decide (((b::a::st).length:Int)<((2:Nat):Int)))=false:=by simp;omega
      simp only [c1,Bool.not_false,ni,fM]
      cases hc:yP n with
      |false=>simp
      |true=>
       simp only [po,rZ,ov,tQ]
       simp only [oc]at hll ⊢
       simp only [bK]at hs hll
       have hap:=a.size_pos
       have hbp:=b.size_pos
       rw [gR st.length (st.length+1+1) (by rw [em (by omega) (by omega)];omega) (by omega) (by omega) (by rw [cz];exact iZ _)]
       have hd:(List.take (st.length+1+1) (gU (b::a::st))).drop st.length=[((bK st+a.size:Nat):Int)-1,((bK st+a.size+b.size:Nat):Int)-1]:=by
        rw [kC (by rw [cz];exact iZ _)]
        simp only [gU,bK,jI]
        rw [A2 (by rw [cz];exact iZ _),tM (by rw [cz];exact iZ _),nQ]
        rfl
       rw [hd]
       simp only [fM,hD]
       simp only [yG,bK]
       rw [ln (bK st+a.size-1) (by omega)]
       rw [uJ a st (fl b (bK st+a.size))]
       simp only [fM]
       rw [ln 0 rfl]
       simp only [DF,fM]
       have hset:([(-1:Int),-1].set ((0:Nat):Int).toNat (((bK st+a.size:Nat):Int)-1))=[((bK st+a.size:Nat):Int)-1,-1]:=rfl
       rw [hset]
       rw [ln (bK st+a.size+b.size-1) (by omega)]
       have M:=uJ b (a::st) []
       rw [vg]at M
       simp only [yG,bK]at M
       rw [M]
       simp only [fM]
       rw [ln (0+1) rfl]
       simp only [List.getElem?_cons_succ,DF,fM]
       have hset2:([((bK st+a.size:Nat):Int)-1,-1].set ((0+1:Nat):Int).toNat (((bK st+a.size+b.size:Nat):Int)-1))=[((bK st+a.size:Nat):Int)-1,((bK st+a.size+b.size:Nat):Int)-1]:=rfl
       rw [hset2]
       by_cases hL:n.L=((bK st+a.size:Nat):Int)-1/\n.R=((bK st+a.size+b.size:Nat):Int)-1
       ·have V:(n.L==((bK st+a.size:Nat):Int)-1&&n.R==((bK st+a.size+b.size:Nat):Int)-1)=true:=by rw [hL.1,hL.2];simp
        rw [eF V,ei (by rw [hL.1,hL.2];simp)]
        rw [iR (by simp only [oc,xD,hT,nI,mn];omega)]
        simp only [fM]
        rw [gR (i:=0) 0 st.length rfl (by rw [cz,em (by simp;omega) (by simp;omega)];simp;omega) (ky _) (by rw [cz];simp;omega)]
        have D:(List.take st.length (gU (b::a::st))).drop 0=gU st:=by
         simp only [gU,q6,jI]
         rw [qA (by rw [cz];exact iZ _),kC (by rw [cz];exact iZ _)]
        rw [D]
        simp only [fM]
        rw [iR (by simp only [oc,xD,cz];omega)]
        simp only [fM]
        have H:=ih (.bi (eW n (-1) (-1)) a b::st) (by simp [bK,Tr.size];omega)
        simp only [bK,Tr.size,yG,fl,gU]at H
        rw [show(((bK st+(a.size+b.size+1):Nat):Int)-1)=((bK st+a.size+b.size:Nat):Int)from by omega,show bK st+(a.size+b.size+1)=bK st+a.size+b.size+1 from by omega]at H
        have hm:min (min (((bK st+a.size+b.size:Nat)):Int) (bK st:Int)) ((bK st+a.size:Nat):Int)=(bK st:Int):=by omega
        rw [hm]
        simp only [jI]at H ⊢
        exact H
       ·have V:(n.L==((bK st+a.size:Nat):Int)-1&&n.R==((bK st+a.size+b.size:Nat):Int)-1)=false:=by
         rw [xH];intro h;apply hL;simpa using h
        rw [V]
        rw [eF (by
         simp only [za,decide_eq_false_iff_not]
         intro h
         have Y:((bK st+a.size:Nat):Int)-1=n.L:=by injection h
         have H:((bK st+a.size+b.size:Nat):Int)-1=n.R:=by injection h with _ h;injection h
         exact hL ⟨Y.symm,H.symm⟩)]
        simp

def rA{n:Nat}(h:n<=1000000):n<=mG:=by unfold mG;omega
def lh(ns:List aj):Bool:=(jL ns).isSome
def sT{st:List Tr}(h:j5 ns []=some st):bK st=ns.length:=by
 have:=(mW h (fun t D=>by cases D)).1
 rw [<-v6,this];simp [om]
def j7(e:af)(h:e.Nodes.length<=100000):iq e=some (if lh e.Nodes then 0 else 200):=by
 unfold iq lU lh jL
 have:=wa e.Nodes [] (by simpa [bK] using h)
 simp only [bK,yG,gU]at this
 rw [this]
 cases hp:j5 e.Nodes []with
 |none=>rfl
 |some st=>
  have hsz:=sT hp
  match st,hsz with
  |[],_=>rfl
  |[t],hsz=>
   simp only [fM,hsz]
   by_cases hl:e.Nodes.length<=1000<;>simp [hl]
  |t::t2::st,_=>simp
def Ap(t:Tr):t.wf-> ∀(P R N:List aj) (fu:Nat),N=P++t.flat P.length++R->t.size<=fu->N.length<=100000->eo fu ⟨N⟩ (((P.length+t.size:Nat):Int)-1)=some (t.size:Int):=by
 induction t with
 |lf n=>
  intro⟨Y,H,h3,h4⟩ P R N fu hN M hl
  have hNl:=congrArg List.length hN
  simp only [hT,Tr.flat_len]at hNl
  simp only [Tr.size]at M hNl ⊢
  obtain⟨fu,rfl⟩: ∃k,fu=k+1:=⟨fu-1,by omega⟩
  unfold eo
  have I:N[P.length]? =some (eW n (-1) (-1)):=by
   rw [hN,jI,tf (iZ _),Nat.sub_self];rfl
  rw [ei (by simp;omega),ln P.length (by omega),I]
  have e1:(eW n (-1) (-1)).Tag=n.Tag:=rfl
  simp only [fM]
  rw [e1,kM]
  have e:xB n.Tag=0:=by unfold xB;rw [Y];rfl
  simp only [e,fM,gi]
  have e2:yP (eW n (-1) (-1))=true:=H
  rw [e2]
  simp [eW]
 |un n a ih=>
  intro⟨⟨Y,H,h3,h4⟩,ha⟩ P R N fu hN M hl
  obtain⟨m,hm⟩: ∃m,m=eW n (((P.length+a.size:Nat):Int)-1) (-1):=⟨_,rfl⟩
  have hNl:=congrArg List.length hN
  simp only [hT,Tr.flat_len]at hNl
  simp only [Tr.size]at M hNl ⊢
  simp only [Tr.flat,<-hm]at hN
  obtain⟨fu,rfl⟩: ∃k,fu=k+1:=⟨fu-1,by omega⟩
  have hpos:=a.size_pos
  have hi:=ih ha P ([m]++R) N fu (by rw [hN];simp only [jI]) (by omega) hl
  unfold eo
  have I:N[P.length+a.size]? =some m:=by
   rw [hN,jI,jI,<-jI P,tf (by simp [a.flat_len])]
   simp [a.flat_len]
  rw [ei (by simp;omega),ln (P.length+a.size) (by omega),I]
  simp only [fM]
  have e1:m.Tag=n.Tag:=by rw [hm];rfl
  rw [e1,kM]
  have e:xB n.Tag=1:=by unfold xB;rw [Y];rfl
  simp only [e,fM,gi]
  have e2:yP m=true:=by rw [hm];exact H
  have eL:m.L=((P.length+a.size:Nat):Int)-1:=by rw [hm];rfl
  have eR:m.R= -1:=by rw [hm];rfl
  rw [em (n:=((P.length+(a.size+1):Nat):Int)-1-1) (by omega) (by omega),show(((P.length+(a.size+1):Nat):Int)-1-1)=(((P.length+a.size:Nat):Int)-1)from by omega]
  rw [hi]
  simp only [fM]
  rw [em (n:=(a.size:Int)+1) (by omega) (by omega)]
  have n1: ¬a.size=0:=by omega
  simp [e2,eL,eR,n1]
 |bi n a b iha ihb=>
  intro⟨⟨Y,H,h3,h4⟩,ha,V⟩ P R N fu hN M hl
  obtain⟨m,hm⟩: ∃m,m=eW n (((P.length+a.size:Nat):Int)-1) (((P.length+a.size+b.size:Nat):Int)-1):=⟨_,rfl⟩
  have hNl:=congrArg List.length hN
  simp only [hT,Tr.flat_len]at hNl
  simp only [Tr.size]at M hNl ⊢
  simp only [Tr.flat,<-hm]at hN
  obtain⟨fu,rfl⟩: ∃k,fu=k+1:=⟨fu-1,by omega⟩
  have hap:=a.size_pos
  have hbp:=b.size_pos
  have hi1:=iha ha P (b.flat (P.length+a.size)++[m]++R) N fu (by rw [hN];simp only [jI]) (by omega) hl
  have hi2:=ihb V (P++a.flat P.length) ([m]++R) N fu (by rw [hN];simp only [jI,hT,a.flat_len]) (by omega) hl
  rw [hT,a.flat_len]at hi2
  unfold eo
  have I:N[P.length+a.size+b.size]? =some m:=by
   rw [hN,jI,jI,<-jI P,tf (by simp [a.flat_len,b.flat_len];omega)]
   have:P.length+a.size+b.size-(P++(a.flat P.length++b.flat (P.length+a.size))).length=0:=by simp [a.flat_len,b.flat_len];omega
   rw [this];rfl
  rw [ei (by simp;omega),ln (P.length+a.size+b.size) (by omega),I]
  simp only [fM]
  have e1:m.Tag=n.Tag:=by rw [hm];rfl
  rw [e1,kM]
  have e:xB n.Tag=2:=by unfold xB;rw [Y];rfl
  simp only [e,fM,gi]
  have e2:yP m=true:=by rw [hm];exact H
  have eL:m.L=((P.length+a.size:Nat):Int)-1:=by rw [hm];rfl
  have eR:m.R=((P.length+a.size+b.size:Nat):Int)-1:=by rw [hm];rfl
  rw [em (n:=((P.length+(a.size+b.size+1):Nat):Int)-1-1) (by omega) (by omega),show(((P.length+(a.size+b.size+1):Nat):Int)-1-1)=(((P.length+a.size+b.size:Nat):Int)-1)from by omega]
  rw [hi2]
  simp only [fM]
  rw [em (n:=((P.length+a.size+b.size:Nat):Int)-1-(b.size:Int)) (by omega) (by omega),show((P.length+a.size+b.size:Nat):Int)-1-(b.size:Int)=((P.length+a.size:Nat):Int)-1 from by omega]
  rw [hi1]
  simp only [fM]
  rw [em (n:=(a.size:Int)+(b.size:Int)) (by omega) (by omega),em (n:=(a.size:Int)+(b.size:Int)+1) (by omega) (by omega)]
  have n1: ¬a.size=0:=by omega
  have n2: ¬b.size=0:=by omega
  have e5:(P.length:Int)+(a.size:Int)+(b.size:Int)-1-(b.size:Int)=(P.length:Int)+(a.size:Int)-1:=by omega
  simp [e2,eL,eR,n1,n2,e5]
def D2(N:List aj)(hN:N.length<=100000): ∀(fu q:Nat),q<=N.length->q<fu-> ∃k:Nat,eo fu ⟨N⟩ ((q:Int)-1)=some (k:Int)/\(k=0\/ ∃(t:Tr) (P R:List aj),t.wf/\t.size=k/\N=P++t.flat P.length++R/\P.length+k=q):=by
 intro fu
 induction fu with
 |zero=>intro q _ h;omega
 |succ fu ih=>
  intro q hq M
  unfold eo
  by_cases h0:q=0
  ·subst h0
   exact⟨0,by rw [eF (by simp)];rfl,.inl rfl⟩
  rw [ei (by simp;omega),ln (q-1) (by omega)]
  have hlt:q-1<N.length:=by omega
  rw [lX hlt]
  obtain⟨n,hn⟩: ∃n,n=N[q-1]:=⟨_,rfl⟩
  rw [<-hn]
  have hd:N=N.take (q-1)++([n]++N.drop q):=by
   have Y:=pe (q-1) N
   rw [r0 hlt,<-hn,show q-1+1=q from by omega]at Y
   exact Y.symm
  simp only [fM,kM,gi]
  cases hk:pk n.Tag with
  |none=>
   have e:xB n.Tag= -1:=by unfold xB;rw [hk]
   exact⟨0,by simp [e],.inl rfl⟩
  |some k=>
   have e:xB n.Tag=(k:Int):=by unfold xB;rw [hk]
   have hk3:k=0\/k=1\/k=2:=by
    unfold pk at hk
    repeat' split at hk
    all_goals simp at hk
    all_goals omega
   cases hc:yP n with
   |false=>exact⟨0,by simp [e,hc],.inl rfl⟩
   |true=>
    rcases hk3 with rfl|rfl|rfl
    ·rw [e]
     by_cases hL:n.L= -1/\n.R= -1
     ·refine⟨1,by simp [hL],.inr ⟨.lf (eW n (-1) (-1)),N.take (q-1),N.drop q,⟨hk,hc,rfl,rfl⟩,rfl,?_,by simp;omega⟩⟩
      simp only [Tr.flat]
      rw [pY hL.1 hL.2,jI]
      exact hd
     ·refine⟨0,?_,.inl rfl⟩
      have:(n.L != -1||n.R != -1)=true:=by
       rw [vf,sL,sL]
       by_cases hl:n.L= -1
       ·exact .inr fun h=>hL ⟨hl,h⟩
       ·exact .inl hl
      simp [this]
    ·rw [e,em (by omega) (by omega)]
     have e9:(((q-1:Nat):Int)-1)=(q:Int)-1-1:=by omega
     obtain⟨r2,H,h2'⟩:=ih (q-1) (by omega) (by omega)
     rw [e9]at H
     rw [H]
     rcases h2' with rfl|⟨t,P,R,hw,hs,hN2,hl⟩
     ·exact⟨0,by simp,.inl rfl⟩
     ·have hp:=t.size_pos
      by_cases hL:n.L=(q:Int)-1-1/\n.R= -1
      ·refine⟨r2+1,?_,.inr ⟨.un (eW n (-1) (-1)) t,P,N.drop q,⟨⟨hk,hc,rfl,rfl⟩,hw⟩,by simp only [Tr.size];omega,?_,by omega⟩⟩
       ·simp only [fM]
        rw [em (n:=(r2:Int)+1) (by omega) (by omega)]
        have: ¬(r2=0):=by omega
        simp [hL,this]
       ·simp only [Tr.flat]
        rw [pY (by rw [hL.1];omega) hL.2]
        have D:N.take (q-1)=P++t.flat P.length:=by
         rw [hN2,qA (by simp [t.flat_len];omega),kC (by simp [t.flat_len];omega)]
        rw [D]at hd
        simpa only [jI] using hd
      ·refine⟨0,?_,.inl rfl⟩
       have:(n.L !=(q:Int)-1-1||n.R != -1)=true:=by
        rw [vf,sL,sL]
        by_cases hl:n.L=(q:Int)-1-1
        ·exact .inr fun h=>hL ⟨hl,h⟩
        ·exact .inl hl
       simp [this]
    ·rw [e,em (n:=(q:Int)-1-1) (by omega) (by omega)]
     have e9:(((q-1:Nat):Int)-1)=(q:Int)-1-1:=by omega
     obtain⟨r2,H,h2'⟩:=ih (q-1) (by omega) (by omega)
     rw [e9]at H
     rw [H]
     rcases h2' with rfl|⟨t,P,R,hw,hs,hN2,hl⟩
     ·exact⟨0,by simp,.inl rfl⟩
     ·have hp:=t.size_pos
      simp only [fM]
      rw [em (n:=(q:Int)-1-1-(r2:Int)) (by omega) (by omega)]
      have e8:(((q-1-r2:Nat):Int)-1)=(q:Int)-1-1-(r2:Int):=by omega
      have n2: ¬(r2=0):=by omega
      obtain⟨r3,h3,h3'⟩:=ih (q-1-r2) (by omega) (by omega)
      rw [e8]at h3
      rw [h3]
      rcases h3' with rfl|⟨t3,P3,R3,hw3,hs3,hN3,hl3⟩
      ·exact⟨0,by simp,.inl rfl⟩
      ·have hp3:=t3.size_pos
       have n3: ¬(r3=0):=by omega
       by_cases hL:n.R=(q:Int)-1-1/\n.L=(q:Int)-1-1-(r2:Int)
       ·refine⟨r3+r2+1,?_,.inr ⟨.bi (eW n (-1) (-1)) t3 t,P3,N.drop q,⟨⟨hk,hc,rfl,rfl⟩,hw3,hw⟩,by simp only [Tr.size];omega,?_,by omega⟩⟩
        ·simp only [fM]
         rw [em (n:=(r3:Int)+(r2:Int)) (by omega) (by omega),em (n:=(r3:Int)+(r2:Int)+1) (by omega) (by omega)]
         simp [hL,n2,n3]
        ·simp only [Tr.flat]
         rw [pY (by rw [hL.2];omega) (by rw [hL.1];omega)]
         have D:N.take (q-1)=P++t.flat P.length:=by
          rw [hN2,qA (by simp [t.flat_len];omega),kC (by simp [t.flat_len];omega)]
         have hP:P=N.take P.length:=by
          conv=>rhs;rw [hN2,jI,qA (iZ _),kC (iZ _)]
         have hP3:P=P3++t3.flat P3.length:=by
          rw [hP]
          have:P.length=P3.length+t3.size:=by omega
          conv=>lhs;rw [this,hN3]
          rw [qA (by simp [t3.flat_len]),kC (by simp [t3.flat_len])]
         have hPl:P.length=P3.length+t3.size:=by omega
         rw [D,hPl]at hd
         rw [hP3]at hd
         simpa only [jI] using hd
       ·clear ih hN2 hN3
        refine⟨0,?_,.inl rfl⟩
        have:(n.R !=(q:Int)-1-1||n.L !=(q:Int)-1-1-(r2:Int))=true:=by
         rw [vf,sL,sL]
         by_cases hl:n.R=(q:Int)-1-1
         ·exact .inr fun h=>hL ⟨hl,h⟩
         ·exact .inl hl
        have h' :=this
        rw [vf,sL,sL]at h'
        simp [n2,n3]
        intro Y H
        exact absurd H (by rcases h' with h' |h';exact absurd Y h';exact h')
def uw(e:af):nv e=some (lh e.Nodes):=by
 unfold nv lh
 by_cases h:1<=e.Nodes.length/\e.Nodes.length<=1000
 ·rw [eF (by simp;omega),em (by omega) (by omega)]
  unfold mR
  obtain⟨k,Y,H⟩:=D2 e.Nodes (by omega) mG e.Nodes.length (iZ _) (zb (Nat.lt_succ_self _) (rA (by omega)))
  have h1' :eo mG e ((e.Nodes.length:Int)-1)=some (k:Int):=Y
  rw [h1']
  simp only [fM]
  congr 1
  rw [Bool.eq_iff_iff]
  constructor
  ·intro hk
   have hk' :k=e.Nodes.length:=by have:=eq_of_beq hk;omega
   rcases H with rfl|⟨t,P,R,hw,hs,hN,hl⟩
   ·omega
   ·have hP:P=[]:=ra (by omega)
    subst hP
    have hR:R=[]:=by
     have:=congrArg List.length hN
     simp [t.flat_len]at this
     exact ra (by omega)
    subst hR
    have hN' :e.Nodes=t.flat 0:=by simpa using hN
    rw [hN',sP hw (by omega)];rfl
  ·intro hi
   cases D:jL e.Nodes with
   |none=>rw [D]at hi;cases hi
   |some t=>
    obtain⟨hw,hN,hs⟩:=km D
    have hlen:e.Nodes.length=t.size:=by rw [hN,t.flat_len]
    have h3:=Ap t hw [] [] e.Nodes mG (by simpa using hN) (rA (by omega)) (by omega)
    simp only [xD,oa]at h3
    rw [<-hlen]at h3
    have h4:some (k:Int)=some (e.Nodes.length:Int):=Y.symm.trans h3
    simpa using h4
 ·rw [ei (by simp;omega)]
  simp only [fM]
  congr 1
  symm
  rw [xH]
  intro hi
  cases D:jL e.Nodes with
  |none=>rw [D]at hi;cases hi
  |some t=>
   obtain⟨hw,hN,hs⟩:=km D
   have hlen:e.Nodes.length=t.size:=by rw [hN,t.flat_len]
   have:=t.size_pos
   omega
def uv(h:lh ns=true):1<=ns.length/\ns.length<=1000:=by
 unfold lh at h
 cases D:jL ns with
 |none=>rw [D]at h;cases h
 |some t=>
  obtain⟨hw,hN,hs⟩:=km D
  have hlen:ns.length=t.size:=by rw [hN,t.flat_len]
  have:=t.size_pos
  omega

def pi{α:Type} [DecidableEq α]:α->List α->List α
 |_,[]=>[]
 |p,x::t=>if x=p then pi x t else x::pi x t
def uV [DecidableEq α](p:α):pi p []=[]:=by unfold pi;rfl
def sD [DecidableEq α]{p x:α}(h:x=p)(t:List α):pi p (x::t)=pi x t:=by
 conv=>lhs;unfold pi
 rw [eF h]
def xk [DecidableEq α]{p x:α}(h: ¬x=p)(t:List α):pi p (x::t)=x::pi x t:=by
 conv=>lhs;unfold pi
 rw [ei h]
def uU{α:Type} [DecidableEq α]:List α->List α
 |[]=>[]
 |x::t=>x::pi x t
def uW{α:Type} [DecidableEq α]: ∀(p:α) (l:List α) (z:α),z∈pi p l->z∈l
 |p,x::t,z,h=>by
  unfold pi at h
  split at h
  ·exact nf _ (uW x t z h)
  ·rcases eV.1 h with rfl|h
   ·exact k5 ..
   ·exact nf _ (uW x t z h)
def uC{α:Type} [DecidableEq α]: ∀(p:α) (l:List α) (z:α),z∈l->z=p\/z∈pi p l
 |p,x::t,z,h=>by
  unfold pi
  by_cases I:x=p
  ·rw [eF I]
   rcases eV.1 h with rfl|h
   ·exact .inl I
   ·rcases uC x t z h with h|h
    ·exact .inl (h.trans I)
    ·exact .inr h
  ·rw [ei I]
   rcases eV.1 h with rfl|h
   ·exact .inr (k5 ..)
   ·rcases uC x t z h with h|h
    ·exact .inr (by rw [h];exact k5 ..)
    ·exact .inr (nf _ h)
def Bv [DecidableEq α](l:List α)(z:α):z∈uU l↔z∈l:=by
 cases l with
 |nil=>exact rX
 |cons x t=>
  constructor
  ·intro h
   rcases eV.1 h with rfl|h
   ·exact k5 ..
   ·exact nf _ (uW x t z h)
  ·intro h
   rcases eV.1 h with rfl|h
   ·exact k5 ..
   ·rcases uC x t z h with rfl|h
    ·exact k5 ..
    ·exact nf _ h
def zY(p:List Int)(hp:p.length<=8000)(i:Nat)(y:List Int)(hy:i+y.length=p.length): ∀(k i1:Nat) (x:List Int) (x1:Nat),i1+k=y.length->0<i1->x.length=p.length->x1+1<=i+i1->x.drop (i+i1-1)=p.drop (i+i1-1)->
  cR i y k i1 x (x1:Int)=some (x.take x1++pi ((p[i+i1-1]?).getD 0) (p.drop (i+i1))):=by
 intro k
 induction k with
 |zero=>
  intro i1 x x1 Y h0 I H h3
  simp only [cR]
  have hx1:x1<=x.length:=by omega
  rw [pX hx1 (iZ _)]
  simp only [fM,xE,tK]
  rw [show((0:Int))=((0:Nat):Int)from rfl,pX (ky _) (by simp;omega)]
  simp only [fM,q6]
  have hn:p.drop (i+i1)=[]:=wz (by omega)
  rw [hn,uV,vg,qA (by simp;omega),q5,Nat.min_self]
 |succ k ih=>
  intro i1 x x1 Y h0 I H h3
  have e1:x[i+i1]? =p[i+i1]? :=by
   have:=congrArg (fun l:List Int=>l[1]?) h3
   simp only [qg]at this
   rwa [show i+i1-1+1=i+i1 from by omega]at this
  have e0:x[i+i1-1]? =p[i+i1-1]? :=by
   have:=congrArg (fun l:List Int=>l[0]?) h3
   simpa only [qg,Nat.add_zero] using this
  have hlt:i+i1<p.length:=by omega
  have g1:vA x (i:Int) y.length (i1:Int)=some p[i+i1]:=by
   unfold vA
   rw [eF (by omega),show(i:Int)+(i1:Int)=((i+i1:Nat):Int)from by omega,iW,e1,lX hlt]
  have g0:vA x (i:Int) y.length (IntKind.i64.wrap ((i1:Int)-1))=some p[i+i1-1]:=by
   rw [em (by omega) (by omega)]
   unfold vA
   rw [eF (by omega),show(i:Int)+((i1:Int)-1)=((i+i1-1:Nat):Int)from by omega,iW,e0,lX (by omega)]
  have hd:p.drop (i+i1)=p[i+i1]::p.drop (i+i1+1):=r0 hlt
  have hp1:(p[i+i1-1]?).getD 0=p[i+i1-1]:=by rw [lX (by omega)];rfl
  simp only [cR,g1,g0,fM]
  rw [hd,hp1]
  by_cases hx2:p[i+i1]=p[i+i1-1]
  ·rw [ei (by simp [hx2])]
   have h3' :x.drop (i+(i1+1)-1)=p.drop (i+(i1+1)-1):=by
    have:=congrArg (List.drop 1) h3
    rwa [lW,lW,show i+i1-1+1=i+(i1+1)-1 from by omega]at this
   rw [ih (i1+1) x x1 (by omega) (by omega) I (by omega) h3']
   rw [sD hx2,show i+(i1+1)-1=i+i1 from by omega,lX hlt,show i+(i1+1)=i+i1+1 from by omega]
   rfl
  ·rw [eF (by simp [hx2]),iW,lX (by omega)]
   simp only [fM,tK]
   rw [em (by omega) (by omega),show((x1:Int)+1)=((x1+1:Nat):Int)from by omega]
   have h3' :(x.set x1 p[i+i1]).drop (i+(i1+1)-1)=p.drop (i+(i1+1)-1):=by
    rw [List.drop_set_of_lt (by omega)]
    have:=congrArg (List.drop 1) h3
    rwa [lW,lW,show i+i1-1+1=i+(i1+1)-1 from by omega]at this
   rw [ih (i1+1) _ (x1+1) (by omega) (by omega) (by simpa using I) (by omega) h3']
   rw [xk hx2,show i+(i1+1)-1=i+i1 from by omega,lX hlt,show i+(i1+1)=i+i1+1 from by omega]
   have D:(x.set x1 p[i+i1]).take (x1+1)=x.take x1++[p[i+i1]]:=by
    rw [A3 (by simp;omega),List.take_set_of_le (by omega)]
    simp
   rw [D]
   simp
def zZ(p:List Int)(hp:p.length<=8000):fC p=some (uU p):=by
 unfold fC
 by_cases H:p.length<2
 ·rw [eF (by simp;omega)]
  match p,H with
  |[],_=>rfl
  |[x],_=>rfl
 ·rw [ei (by simp;omega)]
  have key: ∀(l:List Int) (i:Nat),p.drop i=l->0<i->i<=p.length->uU p=p.take i++pi ((p[i-1]?).getD 0) (p.drop i)->di p l i=some (uU p):=by
   intro l
   induction l with
   |nil=>
    intro i Y h0 hle h3
    have:=wy.1 Y
    simp only [di]
    rw [h3,Y,kC (by omega),uV,vg]
   |cons x t ih=>
    intro i Y h0 hle h3
    have hi:i<p.length:=by
     rcases iH i p.length with h|h
     ·exact h
     ·rw [wz h]at Y;cases Y
    have I:x=p[i]:=by rw [r0 hi]at Y;exact(xC Y).1.symm
    have D:p.drop (i+1)=t:=by rw [<-lW,Y];rfl
    have hp1:(p[i-1]?).getD 0=p[i-1]:=by rw [lX (by omega)];rfl
    simp only [di]
    rw [em (by omega) (by omega),show(i:Int)-1=((i-1:Nat):Int)from by omega,iW,lX (by omega)]
    simp only [fM]
    by_cases he:x=p[i-1]
    ·rw [eF (by simp [he])]
     rw [pX hle (iZ _)]
     simp only [fM,xE]
     rw [zY p hp i (p.drop i) (by simp;omega) _ 1 p i (by simp;omega) (by omega) rfl (by omega) (by simp)]
     rw [h3,Y,hp1,sD he,<-D,I]
     rw [show i+1-1=i from by omega,lX hi];rfl
    ·rw [ei (by simp [he])]
     refine ih (i+1) D (by omega) (by omega) ?_
     rw [h3,Y,hp1,xk he,A3 hi,<-D,I,show i+1-1=i from by omega,lX hi]
     rw [jI];rfl
  have hpc:p=p[0]::p.drop 1:=by
   have:=r0 (l:=p) (i:=0) (by omega)
   simpa using this
  refine key (p.drop 1) 1 rfl (by omega) (by omega) ?_
  have e:(p[1-1]?).getD 0=p[0]:=by simp [lX (show 0<p.length by omega)]
  rw [e]
  conv=>lhs;rw [hpc]
  have e2:p.take 1=[p[0]]:=by
   conv=>lhs;rw [hpc]
   rfl
  rw [e2];rfl

def Bu(l:List Int)(z:Int):z∈sortI l↔z∈l:=by unfold sortI;simp
def pk2{tag:Int}(h:pk tag=some k)(D:tag=2):k=0:=by subst D;simp [pk]at h;exact h.symm
def ID(h:yP n=true)(D:n.Tag=2):0<=n.Col/\n.Col<16:=by
 have H:=gi n
 rw [h]at H
 unfold hX at H
 rw [ei (by simp [D]),eF (by simp [D])]at H
 simp at H
 exact⟨H.1.2,H.2⟩

def zV:bT:=⟨0,0,0,[]⟩
def bV(b:Bool):bT:=⟨1,if b then 1 else 0,0,[]⟩
def iV(n:Int):bT:=⟨2,n,0,[]⟩
def sV(s:BH):bT:=⟨3,0,0,s⟩
def r64(n:Int):Prop:= -9223372036854775808<=n/\n<=9223372036854775807
inductive Pl:bT->Prop
 |z:Pl zV
 |b (b:Bool):Pl (bV b)
 |i (n:Int) (h:r64 n):Pl (iV n)
 |s (s:BH) (h:s.length<=40):Pl (sV s)
inductive Tu:bT->Prop
 |z:Tu zV
 |b (b:Bool):Tu (bV b)


def xP(hw:t.wf): ∀s {n:aj},n∈t.flat s->n.Tag=2->0<=n.Col/\n.Col<16:=by
 induction t with
 |lf m=>
  intro s n hn D
  simp only [Tr.flat,qf]at hn
  subst hn
  exact ID hw.2.1 D
 |un m a ih=>
  intro s n hn D
  simp only [Tr.flat,te,qf]at hn
  rcases hn with hn|rfl
  ·exact ih hw.2 s hn D
  ·exact absurd (pk2 hw.1.1 D) (by decide)
 |bi m a b iha ihb=>
  intro s n hn D
  simp only [Tr.flat,te,qf]at hn
  rcases hn with(hn|hn)|rfl
  ·exact iha hw.2.1 s hn D
  ·exact ihb hw.2.2 _ hn D
  ·exact absurd (pk2 hw.1.1 D) (by decide)

def Gu(l:List α)(m:Nat)(hm:m<=100000):((cW l 0 (min (l.length:Int) (m:Int))).bind fun y=>(kF ([]:List α) y).bind fun x=>some x)=some (l.take m):=by
 rw [gR (i:=0) 0 (min l.length m) rfl (by omega) (ky _) (Nat.min_le_left _ _)]
 simp only [fM,q6]
 rw [iR (by simp;omega)]
 simp only [fM,nQ]
 congr 1
 rcases Nat.le_total l.length m with h|h
 ·rw [qx h,xE,kC h]
 ·rw [Nat.min_eq_right h]
def ES(s:BH):BH:=s.take 41
def BD(n:aj):aj:={n with Value:={n.Value with S:=ES n.Value.S}}
def Bh(s:BH):cW s 0 (min (s.length:Int) (41:Int))=some (ES s):=by
 rw [gR (i:=0) 0 (min s.length 41) rfl (by omega) (ky _) (Nat.min_le_left _ _),q6]
 congr 1
 unfold ES
 rcases Nat.le_total s.length 41 with h|h
 ·rw [qx h,xE,kC h]
 ·rw [Nat.min_eq_right h]
def tw(f:α->α)(xs:List α)(i:Nat)(h:i<xs.length):((xs.take i).map f++xs.drop i).set i (f xs[i])=(xs.take (i+1)).map f++xs.drop (i+1):=by
 rw [List.set_append_right _ _ (by simp;omega)]
 have e:i-((xs.take i).map f).length=0:=by simp;omega
 rw [e,r0 h,List.set_cons_zero,A3 h,y8]
 simp
def tF(f:α->α)(xs:List α)(i:Nat)(h:i<xs.length):eG ((xs.take i).map f++xs.drop i) (i:Int)=some xs[i]:=by
 rw [iW,tf (by simp;omega)]
 have e:i-((xs.take i).map f).length=0:=by simp;omega
 rw [e,qg]
 simp [h]
def zm(ns:List aj)(m:Nat):List aj:=(ns.take m).map BD
def zl(ns:List aj)(m:Nat):(zm ns m).length<=m:=by simp [zm];omega


def tq(t:Tr):af:=⟨t.flat 0⟩
def uY(l:List aj)(h:l.length<=1000000):bh l=some l:=by
 unfold bh
 rw [iR (by simp;omega)]
 simp

def kS:Tr->List Tr
 | .lf n=>[.lf n]
 | .un n a=>[.un n a]
 | .bi n a b=>if n.Tag=22 then kS a++kS b else [.bi n a b]
def oo(n:aj)(a b:Tr):kS (.bi n a b)=if n.Tag=22 then kS a++kS b else [.bi n a b]:=rfl
def us(s:Nat)(x:Int):Int:=if 0<=x then x-(s:Int)else x
def sa(s:Nat)(n:aj):aj:=eW n (us s n.L) (us s n.R)
def xO(k:Nat)(n:aj)(l r:Int):sa k (eW n l r)=eW n (us k l) (us k r):=rfl
def t7{x:Int}(h:0<=x):us k x=x-(k:Int):=eF h
def FH(k:Nat):us k (-1)= -1:=rfl
def AB(t:Tr)(k:Nat): ∀s,(t.flat (s+k)).map (sa k)=t.flat s:=by
 induction t with
 |lf m=>intro s;rfl
 |un m a ih=>
  intro s
  have:=a.size_pos
  simp only [Tr.flat,y8,ih,wu,List.map_nil,xO,FH]
  rw [t7 (by omega),show((s+k+a.size:Nat):Int)-1-(k:Int)=((s+a.size:Nat):Int)-1 from by omega]
 |bi m a b iha ihb=>
  intro s
  have:=a.size_pos
  have:=b.size_pos
  have V:=ihb (s+a.size)
  rw [show s+a.size+k=s+k+a.size from by omega]at V
  simp only [Tr.flat,y8,iha,V,wu,List.map_nil,xO]
  rw [t7 (by omega),t7 (by omega),show((s+k+a.size:Nat):Int)-1-(k:Int)=((s+a.size:Nat):Int)-1 from by omega,show((s+k+a.size+b.size:Nat):Int)-1-(k:Int)=((s+a.size+b.size:Nat):Int)-1 from by omega]
def GD(n:aj):Prop:= -1000000<=n.L/\n.L<=1000000/\ -1000000<=n.R/\n.R<=1000000
def v7(t:Tr): ∀s,s+t.size<=1000000-> ∀n∈t.flat s,GD n:=by
 induction t with
 |lf m=>intro s _ n hn;simp only [Tr.flat,qf]at hn;subst hn;refine⟨?_,?_,?_,?_⟩<;>simp [eW]
 |un m a ih=>
  intro s hs n hn
  simp only [Tr.size]at hs
  simp only [Tr.flat,te,qf]at hn
  rcases hn with hn|rfl
  ·exact ih s (by omega) n hn
  ·refine⟨?_,?_,?_,?_⟩<;>simp only [eW]<;>omega
 |bi m a b iha ihb=>
  intro s hs n hn
  simp only [Tr.size]at hs
  simp only [Tr.flat,te,qf]at hn
  rcases hn with(hn|hn)|rfl
  ·exact iha s (by omega) n hn
  ·exact ihb _ (by omega) n hn
  ·refine⟨?_,?_,?_,?_⟩<;>simp only [eW]<;>omega
def va(nx:List af->List Int->Option (List af))(out:List af)(ho:out.length<=100000)(y:List Int)(k:Nat)(hk:k<=1000000)(xs:List aj)(V: ∀n∈xs,GD n): ∀(tl:List aj) (i:Nat),xs.drop i=tl->
  fH nx out y (k:Int) tl i ⟨(xs.take i).map (sa k)++xs.drop i⟩=nx (out++[⟨xs.map (sa k)⟩]) y
 |[],i,h=>by
  have:=wy.1 h
  unfold fH
  rw [iR (by simp;omega)]
  unfold kR
  rw [h,vg,kC this]
  rfl
 |e::tl,i,h=>by
  have hi:i<xs.length:=by
   rcases iH i xs.length with q|q
   ·exact q
   ·rw [wz q]at h;cases h
  obtain⟨b1,b2,b3,b4⟩:=V xs[i] (List.getElem_mem hi)
  have hd:xs.drop (i+1)=tl:=by rw [<-lW,h];rfl
  have ih:=va nx out ho y k hk xs V tl (i+1) hd
  have hs:=tw (sa k) xs i hi
  have I:=tF (sa k) xs i hi
  unfold fH
  dsimp only
  rw [I]
  simp only [fM]
  have hk2: ∀(m:aj),m.Tag=xs[i].Tag->m.Col=xs[i].Col->m.Value=xs[i].Value->m.R=xs[i].R->m.L=us k xs[i].L-> ∀zs:List aj,zs[i]? =some m->zs.set i (sa k xs[i])=(xs.take (i+1)).map (sa k)++xs.drop (i+1)->
    kQ (k:Int) (fH nx out y (k:Int) tl) i ⟨zs⟩=nx (out++[⟨xs.map (sa k)⟩]) y:=by
   intro m Y H h3 h4 h5 zs hz hset
   unfold kQ
   dsimp only
   rw [iW,hz]
   simp only [fM]
   by_cases hR:0<=m.R
   ·rw [eF (by simpa using hR)]
    have hm:({m with R:=IntKind.i64.wrap (m.R-(k:Int))}:aj)=sa k xs[i]:=by
     rw [em (by omega) (by omega)]
     obtain⟨mt,ml,mr,mc,mv⟩:=m
     simp only at Y H h3 h4 h5 hR
     subst Y H h3 h4 h5
     simp only [sa,eW,t7 hR]
    rw [hm,tK,hset]
    exact ih
   ·rw [ei (by simpa using hR)]
    have hm:m=sa k xs[i]:=by
     obtain⟨mt,ml,mr,mc,mv⟩:=m
     simp only at Y H h3 h4 h5 hR
     subst Y H h3 h4 h5
     simp only [sa,eW,us,ei hR]
    have e1:zs.set i (sa k xs[i])=zs:=by
     rw [<-hm]
     apply xI
     intro j
     by_cases hj:j=i
     ·subst hj
      have hlt:=(mH.1 hz).1
      rw [List.getElem?_set_self hlt,hz]
     ·rw [List.getElem?_set_ne (by omega)]
    rw [<-e1,hset]
    exact ih
  have hzi:((xs.take i).map (sa k)++xs.drop i)[i]? =some xs[i]:=by rw [<-iW];exact I
  have hlen:i<((xs.take i).map (sa k)++xs.drop i).length:=(mH.1 hzi).1
  by_cases hL:0<=xs[i].L
  ·rw [eF (by simpa using hL),tK]
   refine hk2 ({xs[i]with L:=IntKind.i64.wrap (xs[i].L-(k:Int))}:aj) rfl rfl rfl rfl (by show IntKind.i64.wrap (xs[i].L-(k:Int))=_;rw [em (by omega) (by omega),t7 hL]) _ (by rw [List.getElem?_set_self hlen]) ?_
   rw [List.set_set];exact hs
  ·rw [ei (by simpa using hL)]
   exact hk2 xs[i] rfl rfl rfl rfl (by simp only [us,ei hL]) _ hzi hs
def qK(N:List aj)(all:List Int)(su:Nat×Tr):Prop:=su.2.wf/\su.1+su.2.size<=N.length/\(N.drop su.1).take su.2.size=su.2.flat su.1/\(all.drop su.1).take su.2.size=fl su.2 su.1
def x9(su:Nat×Tr):Int:=((su.1+su.2.size:Nat):Int)-1
def k7:Tr->Nat->aj
 | .lf n,_=>eW n (-1) (-1)
 | .un n a,s=>eW n (((s+a.size:Nat):Int)-1) (-1)
 | .bi n a b,s=>eW n (((s+a.size:Nat):Int)-1) (((s+a.size+b.size:Nat):Int)-1)
def sx(t:Tr)(s:Nat):(t.flat s)[t.size-1]? =some (k7 t s):=by
 cases t with
 |lf n=>rfl
 |un n a=>
  simp only [Tr.flat,Tr.size,k7]
  rw [tf (by rw [a.flat_len];omega),a.flat_len]
  simp
 |bi n a b=>
  simp only [Tr.flat,Tr.size,k7]
  rw [tf (by simp [a.flat_len,b.flat_len]),hT,a.flat_len,b.flat_len]
  simp
def yi{N:List α}{s j:Nat}(h:(N.drop s).take k=xs)(hj:j<k):N[s+j]? =xs[j]? :=by
 rw [<-h,tN hj,qg]
def yg{N:List aj}{all:List Int}{su:Nat×Tr}(h:qK N all su):eG N (x9 su)=some (k7 su.2 su.1)/\eG all (x9 su)=some (su.1:Int):=by
 obtain⟨hw,hl,Y,H⟩:=h
 have hp:=su.2.size_pos
 have e:x9 su=((su.1+(su.2.size-1):Nat):Int):=by unfold x9;omega
 rw [e,iW,iW,yi Y (by omega),yi H (by omega),sx,AC]
 exact⟨rfl,rfl⟩
def vG{N zs:List α}{s a b:Nat}(h:(N.drop s).take k=xs++ys++zs)(I:xs.length=a)(hy:ys.length=b):(N.drop s).take a=xs/\(N.drop (s+a)).take b=ys:=by
 have hk:a+b<=k:=by
  have:=congrArg List.length h
  simp only [ww,hT,xF]at this
  omega
 constructor
 ·have:=congrArg (List.take a) h
  rw [q5,qx (by omega)]at this
  rw [this,jI,qA (by omega),kC (by omega)]
 ·have this:(((N.drop s).take k).drop a).take b=((xs++ys++zs).drop a).take b:=by rw [h]
  rw [td,lW,q5,qx (by omega)]at this
  rw [this,jI,A2 (by omega),tM (by omega),nQ,qA (by omega),kC (by omega)]
def Bp{N:List aj}{all:List Int}{s:Nat}{a b:Tr}(h:qK N all (s,.bi n a b)):qK N all (s,a)/\qK N all (s+a.size,b):=by
 obtain⟨⟨_,ha,V⟩,hl,Y,H⟩:=h
 simp only [Tr.size,Tr.flat,fl]at hl Y H
 obtain⟨h3,h4⟩:=vG Y (a.flat_len s) (b.flat_len _)
 obtain⟨h5,h6⟩:=vG H (mn a s) (mn b _)
 exact⟨⟨ha,by show s+a.size<=_;omega,h3,h5⟩,⟨V,by show s+a.size+b.size<=_;omega,h4,h6⟩⟩
def DD:List (Nat×Tr)->Nat
 |[]=>0
 |su::st=>su.2.size+DD st
def Cv(st:List (Nat×Tr)):List af:=st.flatMap fun su=>(kS su.2).map tq
def Dn{s:Nat}(hw:t.wf)(h:(k7 t s).Tag≠22):kS t=[t]:=by
 cases t with
 |lf n=>rfl
 |un n a=>rfl
 |bi n a b=>rw [oo,ei (show¬n.Tag=22 from h)]
def Dm{s:Nat}(hw:t.wf)(h:(k7 t s).Tag=22): ∃n a b,t= .bi n a b/\n.Tag=22:=by
 cases t with
 |lf n=>
  have h:n.Tag=22:=h
  have Y:=hw.1
  rw [h]at Y;simp [pk]at Y
 |un n a=>
  have h:n.Tag=22:=h
  have Y:=hw.1.1
  rw [h]at Y;simp [pk]at Y
 |bi n a b=>exact⟨n,a,b,rfl,h⟩
def q0(N:List aj)(hN:N.length<=100000)(all:List Int)(b:Bool): ∀(fu:Nat) (st:List (Nat×Tr)) (out:List af),(∀su∈st,qK N all su)->DD st<fu->st.length<=100000->out.length+DD st<=90000->
  eu ⟨N⟩ (all,b) fu out (st.map x9).reverse=some (out++Cv st)
 |0,_,_,_,h,_,_=>by omega
 |fu+1,[],out,_,_,_,_=>by
  unfold eu
  simp [Cv]
 |fu+1,su::st,out,hp,M,hs,ho=>by
  have hp0:=hp su (k5 ..)
  obtain⟨Y,H⟩:=yg hp0
  simp only [oc]at hs
  simp only [DD]at M ho
  have hpos:=su.2.size_pos
  unfold eu
  have hlen:((su::st).map x9).reverse.length=st.length+1:=by simp
  rw [eF (by rw [hlen];simp<;>omega),hlen,em (by omega) (by omega)]
  have e1:((su::st).map x9).reverse=(st.map x9).reverse++[x9 su]:=by simp
  rw [e1,ln st.length (by omega),tf (by simp)]
  simp only [List.length_reverse,List.length_map,Nat.sub_self,DF,fM]
  rw [gR (i:=0) 0 st.length rfl (by omega) (ky _) (by simp),q6]
  rw [qA (by simp),kC (by simp)]
  simp only [fM]
  rw [Y]
  simp only [fM]
  have hp' : ∀q∈st,qK N all q:=fun q hq=>hp q (nf _ hq)
  by_cases D:(k7 su.2 su.1).Tag=22
  ·rw [eF (by simp [D])]
   obtain⟨s,u⟩:=su
   obtain⟨n,a,c,rfl,hn⟩:=Dm hp0.1 D
   obtain⟨hpa,hpb⟩:=Bp hp0
   simp only [Tr.size]at M ho
   have e2:(st.map x9).reverse++[(k7 (.bi n a c) s).R,(k7 (.bi n a c) s).L]=(((s,a)::(s+a.size,c)::st).map x9).reverse:=by
    simp [k7,eW,x9]
   simp only at hN ⊢
   rw [iR (by simp;omega)]
   simp only [fM]
   unfold kR
   rw [e2,q0 N hN all b fu ((s,a)::(s+a.size,c)::st) out (fun q hq=>by
    rcases eV.1 hq with rfl|hq
    ·exact hpa
    ·rcases eV.1 hq with rfl|hq
     ·exact hpb
     ·exact hp' q hq) (by simp only [DD];omega) (by
      have: ∀l:List (Nat×Tr),l.length<=DD l:=by
       intro l
       induction l with
       |nil=>exact iZ _
       |cons q l ih=>have:=q.2.size_pos;simp [DD];omega
      have:=this st
      simp only [oc];omega) (by simp only [DD];omega)]
   congr 2
   simp only [Cv,List.flatMap_cons,oo,eF hn,y8,jI]
  ·rw [ei (by simpa using D),H]
   obtain⟨s,u⟩:=su
   obtain⟨hw,hl,h3,h4⟩:=hp0
   simp only at hl h3 h4 hpos M ho ⊢
   simp only [fM]
   have e3:IntKind.i64.wrap (x9 (s,u)+1)=((s+u.size:Nat):Int):=by
    unfold x9
    simp only
    rw [em (by omega) (by omega)];omega
   rw [e3,gR s (s+u.size) rfl rfl (by omega) hl]
   have e4:(N.take (s+u.size)).drop s=u.flat s:=by rw [td,Nat.add_sub_cancel_left];exact h3
   rw [e4]
   simp only [fM]
   rw [uY _ (by rw [u.flat_len];omega)]
   simp only [fM]
   have h5:=va (eu ⟨N⟩ (all,b) fu) out (by omega) (st.map x9).reverse s (by omega) (u.flat s) (v7 u s (by omega)) (u.flat s) 0 rfl
   simp only [List.take_zero,List.map_nil,nQ,q6]at h5
   rw [h5]
   have h6:=AB u s 0
   rw [oa]at h6
   rw [h6,q0 N hN all b fu st _ hp' (by omega) (by omega) (by simp;omega)]
   congr 1
   simp only [Cv,List.flatMap_cons,Dn hw D,wu,List.map_nil,jI]
   rfl
def xh(e:af)(hl:e.Nodes.length<=80000):qc e=some (match jL e.Nodes with
  |none=>[]
  |some t=>(kS t).map tq):=by
 unfold qc
 have M:=wa e.Nodes [] (by simp [bK];omega)
 simp only [bK,yG,gU]at M
 unfold lU
 rw [show((0:Nat))=0 from rfl]at M
 rw [M]
 unfold jL
 cases hp:j5 e.Nodes []with
 |none=>rfl
 |some st=>
  have hsz:=sT hp
  match st,hsz with
  |[],_=>rfl
  |[t],hsz=>
   simp only [fM,oc,xD,oa,decide_true,tQ]
   have hw:=(mW hp (fun t D=>by cases D)).2 t (k5 ..)
   have hfl:=(mW hp (fun t D=>by cases D)).1
   simp only [om,bK,nQ,oa]at hfl hsz
   simp only [bK,oa,hsz]
   by_cases Y:e.Nodes.length<=1000
   ·rw [ei (by simp [Y])]
    simp only [Y,decide_true,ni]
    have hpl:qK e.Nodes (yG [t]) (0,t):=by
     refine⟨hw,by show 0+t.size<=_;omega,?_,?_⟩
     ·simp only [q6];rw [<-hfl,kC (by rw [t.flat_len];exact iZ _)]
     ·simp only [yG,bK,nQ,q6];rw [kC (by rw [mn];exact iZ _)]
    have H:=q0 e.Nodes (by omega) (yG [t]) true mG [(0,t)] [] (fun q hq=>by
     simp only [qf]at hq;subst hq;exact hpl) (by simp only [DD];exact zb (Nat.lt_succ_self _) (rA (by omega))) (by simp) (by simp [DD];omega)
    have e2:([(0,t)].map x9).reverse=[((e.Nodes.length:Int)-1)]:=by
     simp only [wu,List.map_nil,List.reverse_cons,List.reverse_nil,nQ,x9]
     rw [<-hsz];simp
    rw [e2]at H
    rw [em (by omega) (by omega)]
    have e9:(⟨e.Nodes⟩:af)=e:=rfl
    rw [e9]at H
    rw [H]
    simp [Cv]
   ·rw [eF (by simp [Y])]
    simp only [Y,ov]
  |t::t2::st,_=>simp

def zj(l:List Tr):Nat:=(l.map Tr.size).sum
def xS(a b:List Tr):zj (a++b)=zj a+zj b:=by simp [zj]
def qd(t:Tr):zj (kS t)+(kS t).length=t.size+1:=by
 induction t with
 |lf n=>rfl
 |un n a _=>simp [kS,zj]
 |bi n a b iha ihb=>
  rw [oo]
  split
  ·rw [xS,hT];simp only [Tr.size];omega
  ·simp [zj]

def yQ{a b:Bool}(h:a=true↔b=true):a=b:=by cases a<;>cases b<;>simp_all
def yO{i:Nat}(h:i<ys.length):eG ys (i:Int)=some ys[i]:=by rw [iW,lX h]
def ya(b:af): ∀(tl:List aj) (i:Nat),i+tl.length=b.Nodes.length->jY b tl i=some (decide (tl=b.Nodes.drop i))
 |[],i,h=>by
  have e:b.Nodes.drop i=[]:=tM (by simp at h;omega)
  rw [e];rfl
 |e::tl,i,h=>by
  simp only [oc]at h
  have hi:i<b.Nodes.length:=by omega
  unfold jY
  rw [yO hi,r0 hi]
  simp only [fM]
  by_cases he:e=b.Nodes[i]
  ·rw [ei (by simp [he]),ya b tl (i+1) (by omega)]
   congr 1
   apply yQ
   simp only [decide_eq_true_eq]
   rw [he]
   exact⟨fun h=>by rw [h],fun h=>(xC h).2⟩
  ·rw [eF (by simp [he])]
   congr 1
   apply yQ
   simp only [decide_eq_true_eq,rZ,false_iff]
   exact fun h=>he (xC h).1
def vq(a b:af):mS a b=some (decide (a.Nodes=b.Nodes)):=by
 unfold mS
 by_cases h:a.Nodes.length=b.Nodes.length
 ·rw [ei (by simp [h]),ya _ _ 0 (by omega)]
  simp
 ·rw [eF (by simp;omega)]
  have: ¬a.Nodes=b.Nodes:=fun e=>h (by rw [e])
  simp [this]
def wJ(l:List af):iB l l=some true:=by
 unfold iB
 rw [ei (by simp)]
 have key: ∀(tl:List af) (i:Nat),l.drop i=tl->gX l tl i=some true:=by
  intro tl
  induction tl with
  |nil=>intro i _;rfl
  |cons e tl ih=>
   intro i h
   have hi:i<l.length:=by
    rcases iH i l.length with k|k
    ·exact k
    ·rw [wz k]at h;cases h
   have he:l[i]=e:=by rw [r0 hi]at h;exact(xC h).1
   unfold gX
   rw [yO hi,he]
   simp only [fM,vq,decide_true]
   rw [ei (by decide)]
   exact ih (i+1) (by rw [<-lW,h];rfl)
 exact key l 0 rfl
def Fa: ∀{l m:List Int},l.Pairwise (· < ·)->m.Pairwise (· < ·)->(∀x,x∈l↔x∈m)->l=m
 |[],[],_,_,_=>rfl
 |[],y::m,_,_,h=>by have:=(h y).2 (k5 ..);cases this
 |x::l,[],_,_,h=>by have:=(h x).1 (k5 ..);cases this
 |x::l,y::m,hl,hm,h=>by
  rw [vh]at hl hm
  have hxy:x=y:=by
   have Y:=(h x).1 (k5 ..)
   have H:=(h y).2 (k5 ..)
   rcases eV.1 Y with Y|Y
   ·exact Y
   ·rcases eV.1 H with H|H
    ·exact H.symm
    ·have:=hm.1 x Y;have:=hl.1 y H;omega
  subst hxy
  congr 1
  refine Fa hl.2 hm.2 fun z=>?_
  constructor
  ·intro hz
   have Y:=(h z).1 (nf _ hz)
   rcases eV.1 Y with rfl|Y
   ·have:=hl.1 z hz;omega
   ·exact Y
  ·intro hz
   have Y:=(h z).2 (nf _ hz)
   rcases eV.1 Y with rfl|Y
   ·have:=hm.1 z hz;omega
   ·exact Y
def xl: ∀(p:Int) (l:List Int),(p::l).Pairwise (· <= ·)->(p::pi p l).Pairwise (· < ·)
 |p,[],_=>by rw [uV];simp
 |p,x::t,h=>by
  rw [vh,vh]at h
  have hpx:=h.1 x (k5 ..)
  by_cases I:x=p
  ·rw [sD I]
   subst I
   exact xl x t (vh.2 h.2)
  ·rw [xk I]
   have ih:=xl x t (vh.2 h.2)
   refine vh.2 ⟨fun z hz=>?_,ih⟩
   rcases eV.1 hz with rfl|hz
   ·omega
   ·have:=(vh.1 ih).1 z hz;omega
def De(l:List Int)(h:l.Pairwise (· <= ·)):(uU l).Pairwise (· < ·):=by
 cases l with
 |nil=>exact List.Pairwise.nil
 |cons x t=>exact xl x t h
def Cj(l:List Int):(sortI l).Pairwise (· <= ·):=by
 unfold sortI
 have:=List.pairwise_mergeSort (le:=fun x y:Int=>decide (x<=y)) (fun a b c Y H=>by simp at*;omega) (fun a b=>by simp;omega) l
 exact this.imp fun h=>by simpa using h
def z6(ns:List aj):List Int:=(ns.filter fun n=>n.Tag==2).map (·.Col)
def pU: ∀(ns:List aj) (out:List Int),out.length+ns.length<=8000->ip ns out=some (uU (sortI (out++z6 ns)))
 |[],out,h=>by
  unfold ip;rw [vJ]
  rw [eF (by simp at h;omega)]
  simp only [fM]
  rw [zZ _ (by rw [se];simpa using h)]
  simp [z6]
 |n::ns,out,h=>by
  simp only [oc]at h
  unfold ip
  by_cases D:n.Tag=2
  ·rw [eF (by simp [D]),iR (by simp;omega)]
   simp only [fM]
   rw [pU ns (out++[n.Col]) (by simp;omega)]
   simp [z6,D]
  ·rw [ei (by simp [D]),pU ns out (by omega)]
   simp [z6,D]
def CF(ns:List aj)(c:Int):c∈z6 ns↔ ∃n∈ns,n.Tag=2/\n.Col=c:=by
 unfold z6
 rw [List.mem_map]
 constructor
 ·rintro⟨n,hn,rfl⟩
  rw [List.mem_filter]at hn
  exact⟨n,hn.1,by simpa using hn.2,rfl⟩
 ·rintro⟨n,hn,D,rfl⟩
  exact⟨n,List.mem_filter.2 ⟨hn,by simp [D]⟩,rfl⟩
def yA(ns:List aj)(i:Nat):Bool:=ns.any fun n=>n.Tag==2&&n.Col==(i:Int)
def ye(nx:Nat->List Int->Option (List Int))(i:Nat)(out:List Int)(ho:out.length<=1000): ∀ns:List aj,j4 nx i ns out=nx (i+1) (if yA ns i then out++[(i:Int)]else out)
 |[]=>rfl
 |n::ns=>by
  unfold j4 lF
  by_cases h:(n.Tag==2&&n.Col==(i:Int))=true
  ·rw [eF h,iR (by simp;omega)]
   simp [yA,h]
  ·rw [ei h,ye nx i out ho ns]
   rw [q8]at h
   simp [yA,h]
def An(ns:List aj):Nat->Nat->List Int
 |0,_=>[]
 |k+1,i=>(if yA ns i then [(i:Int)]else [])++An ns k (i+1)
def uy(e:af): ∀(k i:Nat) (out:List Int),out.length+k<=100->fK e k i out=some (out++An e.Nodes k i)
 |0,i,out,_=>by simp [fK,An]
 |k+1,i,out,h=>by
  unfold fK
  rw [ye _ i out (by omega),uy e k (i+1) _ (by split<;>(try simp)<;>omega)]
  simp only [An]
  split<;>simp
def zh(ns:List aj): ∀(k i:Nat),(An ns k i).Pairwise (· < ·)/\ ∀x∈An ns k i,(i:Int)<=x
 |0,i=>⟨List.Pairwise.nil,fun x I=>by cases I⟩
 |k+1,i=>by
  obtain⟨Y,H⟩:=zh ns k (i+1)
  simp only [An]
  split
  ·refine⟨vh.2 ⟨fun x I=>by have:=H x I;omega,Y⟩,fun x I=>?_⟩
   rcases eV.1 I with rfl|I
   ·omega
   ·have:=H x I;omega
  ·exact⟨Y,fun x I=>by have:=H x I;omega⟩
def tE(ns:List aj): ∀(k i:Nat) (x:Int),x∈An ns k i↔ ∃j:Nat,i<=j/\j<i+k/\x=(j:Int)/\yA ns j=true
 |0,i,x=>by simp [An];intro j Y H;omega
 |k+1,i,x=>by
  simp only [An,te,tE ns k (i+1)]
  constructor
  ·rintro(h|⟨j,Y,H,h3,h4⟩)
   ·split at h
    ·rename_i hc
     simp only [qf]at h
     exact⟨i,iZ _,by omega,h,hc⟩
    ·cases h
   ·exact⟨j,by omega,by omega,h3,h4⟩
  ·rintro⟨j,Y,H,h3,h4⟩
   by_cases hj:j=i
   ·subst hj;left;rw [eF h4,h3];simp
   ·right;exact⟨j,by omega,by omega,h3,h4⟩
def BE(e:af)(D:jL e.Nodes=some t): ∃cs,lz e=some cs/\jj e=some cs:=by
 obtain⟨hw,hN,hs⟩:=km D
 have hr:lh e.Nodes=true:=by unfold lh;rw [D];rfl
 have hl:=uv hr
 refine⟨uU (sortI (z6 e.Nodes)),?_,?_⟩
 ·unfold lz
  rw [j7 e (by omega),hr]
  have:=pU e.Nodes [] (by simp;omega)
  simpa using this
 ·unfold jj
  rw [uy e 16 0 [] (by simp),nQ]
  congr 1
  refine Fa (zh _ 16 0).1 (De _ (Cj _)) fun x=>?_
  rw [Bv,Bu,CF,tE]
  constructor
  ·rintro⟨j,_,_,rfl,hc⟩
   unfold yA at hc
   obtain⟨n,hn,hc⟩:=q7.1 hc
   simp at hc
   exact⟨n,hn,hc.1,hc.2⟩
  ·rintro⟨n,hn,htag,rfl⟩
   have V:=xP hw 0 (by rw [<-hN];exact hn) htag
   refine⟨n.Col.toNat,by omega,by omega,by omega,?_⟩
   unfold yA
   exact q7.2 ⟨n,hn,by simp [htag];omega⟩
def u4(place r:Int)(k:Nat)(hk:k<=1000000)(hpr:IntKind.i64.wrap (IntKind.i64.wrap (place+1)-r)=(k:Int)): ∀(ns out:List aj),(∀n∈ns,GD n)->out.length+ns.length<=1000000->dZ place r ns ⟨out⟩=some ⟨out++ns.map (sa k)⟩
 |[],out,_,_=>by simp [dZ]
 |n::ns,out,V,hl=>by
  simp only [oc]at hl
  obtain⟨b1,b2,b3,b4⟩:=V n (k5 ..)
  have ih:=u4 place r k hk hpr ns (out++[sa k n]) (fun m hm=>V m (nf _ hm)) (by simp;omega)
  have e9:out++(n::ns).map (sa k)=out++[sa k n]++ns.map (sa k):=by simp
  rw [e9,<-ih]
  have hk2: ∀m,m=sa k n->jZ (dZ place r ns) ⟨out⟩ m=dZ place r ns ⟨out++[sa k n]⟩:=by
   intro m hm
   unfold jZ
   rw [iR (by simp;omega),hm]
   rfl
  conv=>lhs;unfold dZ
  rw [hpr]
  by_cases hL:0<=n.L
  ·rw [eF (by simpa using hL)]
   unfold j3
   rw [hpr,em (n:=n.L-(k:Int)) (by omega) (by omega)]
   by_cases hR:0<=n.R
   ·rw [eF (by simpa using hR)]
    dsimp only
    rw [em (n:=n.R-(k:Int)) (by omega) (by omega)]
    exact hk2 _ (by simp only [sa,eW,us,eF hL,eF hR])
   ·rw [ei (by simpa using hR)]
    exact hk2 _ (by simp only [sa,eW,us,eF hL,ei hR])
  ·rw [ei (by simpa using hL)]
   unfold j3
   rw [hpr]
   by_cases hR:0<=n.R
   ·rw [eF (by simpa using hR),em (n:=n.R-(k:Int)) (by omega) (by omega)]
    exact hk2 _ (by simp only [sa,eW,us,ei hL,eF hR])
   ·rw [ei (by simpa using hR)]
    exact hk2 _ (by simp only [sa,eW,us,ei hL,ei hR])
def qp(P R:List aj)(u:Tr)(hw:u.wf)(hl:(P++u.flat P.length++R).length<=100000):mT ⟨P++u.flat P.length++R⟩ (((P.length+u.size:Nat):Int)-1)=some (tq u):=by
 have hl2:=hl
 simp only [hT,u.flat_len]at hl2
 have hpos:=u.size_pos
 unfold mT mR
 rw [Ap u hw P R _ mG rfl (rA (by omega)) hl]
 simp only [fM]
 have e1:IntKind.i64.wrap (((P.length+u.size:Nat):Int)-1+1)=((P.length+u.size:Nat):Int):=by rw [em (by omega) (by omega)];omega
 have e2:IntKind.i64.wrap (IntKind.i64.wrap (((P.length+u.size:Nat):Int)-1+1)-(u.size:Int))=(P.length:Int):=by rw [e1,em (by omega) (by omega)];omega
 rw [e2,e1,gR P.length (P.length+u.size) rfl rfl (by omega) (by simp only [hT,u.flat_len];omega)]
 have e3:((P++u.flat P.length++R).take (P.length+u.size)).drop P.length=u.flat P.length:=by
  rw [jI,td,A2 (iZ _),tM (iZ _),nQ,Nat.add_sub_cancel_left,qA (by rw [u.flat_len];exact iZ _),kC (by rw [u.flat_len];exact iZ _)]
 rw [e3]
 simp only [fM]
 rw [u4 _ _ P.length (by omega) e2 _ _ (v7 u _ (by omega)) (by simp [u.flat_len];omega)]
 have h6:=AB u P.length 0
 rw [oa]at h6
 rw [h6];rfl
def tn(t:Tr):t.wf->t.size<=50000-> ∀fu,t.size<=fu->gp fu (tq t)=some ((kS t).map tq):=by
 induction t with
 |lf n=>
  intro hw hs fu M
  obtain⟨fu,rfl⟩: ∃k,fu=k+1:=⟨fu-1,by simp only [Tr.size]at M;omega⟩
  unfold gp
  have e1:eG (tq (.lf n)).Nodes (IntKind.i64.wrap (((tq (.lf n)).Nodes.length:Int)-1))=some (eW n (-1) (-1)):=rfl
  rw [e1]
  simp only [fM]
  have H:(eW n (-1) (-1)).Tag≠22:=fun h=>by
   have h:n.Tag=22:=h
   have Y:=hw.1
   rw [h]at Y;simp [pk]at Y
  rw [eF (by simpa using H)];rfl
 |un n a _=>
  intro hw hs fu M
  obtain⟨fu,rfl⟩: ∃k,fu=k+1:=⟨fu-1,by simp only [Tr.size]at M;omega⟩
  unfold gp
  have hpos:=(Tr.un n a).size_pos
  have e1:eG (tq (.un n a)).Nodes (IntKind.i64.wrap (((tq (.un n a)).Nodes.length:Int)-1))=some (k7 (.un n a) 0):=by
   have hl:(tq (.un n a)).Nodes.length=(Tr.un n a).size:=by unfold tq;rw [Tr.flat_len]
   rw [hl,em (by omega) (by omega),ln ((Tr.un n a).size-1) (by omega)]
   exact sx _ 0
  rw [e1]
  simp only [fM]
  have H:(k7 (.un n a) 0).Tag≠22:=fun h=>by
   have h:n.Tag=22:=h
   have Y:=hw.1.1
   rw [h]at Y;simp [pk]at Y
  rw [eF (by simpa using H)];rfl
 |bi n a b iha ihb=>
  intro hw hs fu M
  obtain⟨fu,rfl⟩: ∃k,fu=k+1:=⟨fu-1,by simp only [Tr.size]at M;omega⟩
  unfold gp
  have hpos:=(Tr.bi n a b).size_pos
  have e1:eG (tq (.bi n a b)).Nodes (IntKind.i64.wrap (((tq (.bi n a b)).Nodes.length:Int)-1))=some (k7 (.bi n a b) 0):=by
   have hl:(tq (.bi n a b)).Nodes.length=(Tr.bi n a b).size:=by unfold tq;rw [Tr.flat_len]
   rw [hl,em (by omega) (by omega),ln ((Tr.bi n a b).size-1) (by omega)]
   exact sx _ 0
  rw [e1]
  simp only [fM]
  simp only [Tr.size]at hs M
  by_cases hn:n.Tag=22
  ·have H:(k7 (.bi n a b) 0).Tag=22:=hn
   rw [ei (by simp [H])]
   have hA:=qp [] (b.flat (0+a.size)++[eW n (((0+a.size:Nat):Int)-1) (((0+a.size+b.size:Nat):Int)-1)]) a hw.2.1 (by simp [a.flat_len,b.flat_len];omega)
   have hB:=qp (a.flat 0) [eW n (((0+a.size:Nat):Int)-1) (((0+a.size+b.size:Nat):Int)-1)] b hw.2.2 (by simp [a.flat_len,b.flat_len];omega)
   have eA:(⟨[]++a.flat ([]:List aj).length++(b.flat (0+a.size)++[eW n (((0+a.size:Nat):Int)-1) (((0+a.size+b.size:Nat):Int)-1)])⟩:af)=tq (.bi n a b):=by
    simp [tq,Tr.flat]
   have eB:(⟨a.flat 0++b.flat (a.flat 0).length++[eW n (((0+a.size:Nat):Int)-1) (((0+a.size+b.size:Nat):Int)-1)]⟩:af)=tq (.bi n a b):=by
    simp [tq,Tr.flat,a.flat_len]
   rw [eA]at hA
   rw [eB,a.flat_len]at hB
   have rL:(k7 (.bi n a b) 0).L=((([]:List aj).length+a.size:Nat):Int)-1:=rfl
   have rR:(k7 (.bi n a b) 0).R=((a.size+b.size:Nat):Int)-1:=by simp [k7,eW]
   rw [rL,hA,rR,hB]
   simp only [fM]
   rw [iha hw.2.1 (by omega) fu (by omega)]
   simp only [fM]
   rw [ihb hw.2.2 (by omega) fu (by omega)]
   simp only [fM]
   have hsa:=qd a
   have hsb:=qd b
   have hcnt: ∀t:Tr,(kS t).length<=t.size+1:=fun t=>by have:=qd t;omega
   have:=hcnt a;have:=hcnt b
   rw [iR (by simp;omega),oo,eF hn]
   simp
  ·have H:(k7 (.bi n a b) 0).Tag≠22:=hn
   rw [eF (by simpa using H),oo,ei hn];rfl
def vt(hw:t.wf)(hs:t.size<=1000):oI (tq t)=some ((kS t).map tq):=tn t hw (by omega) mG (rA (by omega))
end Go.Proofs.YtbmmihfagmchaaaGreat

