/- dr of this claim: K1, K2, K3, K4, L1. -/
import Derived.Test.YtnmjbolollcokaaGreatDoorRdF
import Derived.KernelRfl
import Derived.Test.YtnmjbolollcokaaGreatDoorRdV4
set_option linter.all false
namespace Go.Proofs.YtnmjbolollcokaaGreatDoor
open Go

abbrev Row:=List df
variable{α:Type}{xs:List α}
theorem cP{ys:List α}(h:xs.length+ys.length≤68719476736):kq xs ys=some (xs++ys):=bS h
def zy(v:df):Bool:=(oF v).getD false
theorem DU(v:df):oF v=some (zy v):=by
 unfold zy oF
 repeat' split
 all_goals rfl
theorem Dn(v:df):uC v=some (if zy v then 0 else 120):=by
 obtain⟨k,n,u,s⟩:=v
 unfold zy oF uC xg
 simp only [k5,qv,qu,qt]
 by_cases h0:k=0
 ·subst h0;simp
  repeat' split
  all_goals simp_all
 by_cases h1:k=1
 ·subst h1
  by_cases n0:n=0
  ·subst n0;simp
   repeat' split
   all_goals simp_all
  by_cases n1:n=1
  ·subst n1;simp
   repeat' split
   all_goals simp_all
  simp [n0,n1]
 by_cases h2:k=2
 ·subst h2;simp
  repeat' split
  all_goals simp_all
 by_cases h3:k=3
 ·subst h3;simp
  repeat' split
  all_goals simp_all
 by_cases h4:k=4
 ·subst h4;simp
  repeat' split
  all_goals simp_all
 simp [h0,h1,h2,h3,h4]

structure Cmp{α:Type}(f:α→α→Int):Prop where
 rng: ∀x y,f x y= -1∨f x y=0∨f x y=1
 anti: ∀x y,f y x= -f x y
 eq: ∀x y,f x y=0↔x=y
 trans: ∀x y z,f x y≤0→f y z≤0→f x z≤0
def key(v:df):Int×Int×Int×jb:=(v.Kind,v.N,v.U,v.S)

section
variable{f:α→α→Int}
def ltB(f:α→α→Int)(x y:α):Bool:=decide (f x y<0)
def VO(f:α→α→Int)(l:List α):List α:=SK (ltB f) l
def put(f:α→α→Int)(x:α):List α→List α
 |[]=>[x]
 |y::l=>if f x y<0 then x::y::l else y::put f x l
end
def xT{α:Type} [DecidableEq α]:α→List α→List α
 |_,[]=>[]
 |p,x::t=>if x=p then xT x t else x::xT x t
theorem Ja [DecidableEq α](p:α):xT p []=[]:=by unfold xT;rfl
theorem Gb [DecidableEq α]{p x:α}(h:x=p)(t:List α):xT p (x::t)=xT x t:=by
 conv=>lhs;unfold xT
 rw [bS h]
theorem LR [DecidableEq α]{p x:α}(h: ¬x=p)(t:List α):xT p (x::t)=x::xT x t:=by
 conv=>lhs;unfold xT
 rw [bM h]
def LQ{α:Type} [DecidableEq α]:List α→List α
 |[]=>[]
 |x::t=>x::xT x t
theorem Eo{α:Type} [DecidableEq α]: ∀(p:α) (l:List α) (z:α),z∈xT p l→z∈l
 |p,x::t,z,h=>by
  unfold xT at h
  split at h
  ·exact pS _ (Eo x t z h)
  ·rcases jl.1 h with rfl|h
   ·exact iA ..
   ·exact pS _ (Eo x t z h)
theorem D5{α:Type} [DecidableEq α]: ∀(p:α) (l:List α) (z:α),z∈l→z=p∨z∈xT p l
 |p,x::t,z,h=>by
  unfold xT
  by_cases hx:x=p
  ·rw [bS hx]
   rcases jl.1 h with rfl|h
   ·exact .inl hx
   ·rcases D5 x t z h with h|h
    ·exact .inl (h.trans hx)
    ·exact .inr h
  ·rw [bM hx]
   rcases jl.1 h with rfl|h
   ·exact .inr (iA ..)
   ·rcases D5 x t z h with h|h
    ·exact .inr (by rw [h];exact iA ..)
    ·exact .inr (pS _ h)
theorem Ng [DecidableEq α](l:List α)(z:α):z∈LQ l↔z∈l:=by
 cases l with
 |nil=>exact Iff.rfl
 |cons x t=>
  constructor
  ·intro h
   rcases jl.1 h with rfl|h
   ·exact iA ..
   ·exact pS _ (Eo x t z h)
  ·intro h
   rcases jl.1 h with rfl|h
   ·exact iA ..
   ·rcases D5 x t z h with rfl|h
    ·exact iA ..
    ·exact pS _ h

structure Small(l:List Row):Prop where
 len:l.length≤8000
 row: ∀r∈l,r.length≤1000
theorem cA{n:Int}(h: -9223372036854775808≤n)(h2:n≤9223372036854775807):IntKind.i64.wrap n=n:=by rw [yS];omega
theorem ye{l m:Nat}(h:l≤m)(h2:m≤xs.length):fy xs (l:Int) (m:Int)=some ((xs.take m).drop l):=by
 unfold fy
 rw [bS (by omega)]
 simp

theorem mL{i j:Int}(l m:Nat)(hi:i=(l:Int))(hj:j=(m:Int))(h:l≤m)(h2:m≤xs.length):fy xs i j=some ((xs.take m).drop l):=by
 subst hi hj;exact ye h h2
theorem mp{i:Int}(k:Nat)(hi:i=(k:Int)):dw xs i=xs[k]? :=by subst hi;exact cQ _ _
def zE(v:df):Bool:=zy v&&(v.Kind !=4)
theorem Dm(v:df):uB v=some (zE v):=by
 unfold uB zE
 rw [Dn]
 cases zy v<;>simp
theorem ub(v:df):uL v=some (zE v):=by
 unfold uL zE
 rw [DU]
 rfl
theorem Iq{v:df}(h:zE v=true):0≤v.Kind∧v.Kind≤3:=by
 obtain⟨k,n,u,s⟩:=v
 unfold zE zy oF at h
 simp only [lH,uA,ne_eq]at h
 obtain⟨h1,h2⟩:=h
 by_cases h0:k=0
 ·simp [h0]
 by_cases k1:k=1
 ·simp [k1]
 by_cases k2:k=2
 ·simp [k2]
 by_cases k3:k=3
 ·simp [k3]
 simp [h0,k1,k2,k3,h2]at h1
def pk(tag:Int):Option Nat:=if tag=1∨tag=2 then some 0 else if 4≤tag∧tag≤7 then some 1 else if 12≤tag∧tag≤23 then some 2 else none
def GN(tag:Int):Int:=match pk tag with
 |some k=>(k:Int)
 |none=> -1
theorem y6(tag:Int):ru tag=some (GN tag):=by
 unfold ru GN pk
 by_cases h1:tag=1∨tag=2
 ·rw [bS h1,bS (by simpa using h1)];rfl
 rw [bM h1,bM (by simpa using h1)]
 by_cases h2:4≤tag∧tag≤7
 ·rw [bS h2,bS (by simpa using h2)];rfl
 rw [bM h2,bM (by simpa using h2)]
 by_cases h3:12≤tag∧tag≤23
 ·rw [bS h3,bS (by simpa using h3)];rfl
 rw [bM h3,bM (by simpa using h3)]
theorem qB(tag:Int):uJ tag=some (GN tag):=by
 unfold uJ xy GN pk
 by_cases h1:tag=1∨tag=2
 ·rw [bS h1];rcases h1 with rfl|rfl<;>rfl
 rw [bM h1]
 by_cases h2:4≤tag∧tag≤7
 ·rw [bS h2]
  have:tag=4∨tag=5∨tag=6∨tag=7:=by omega
  rcases this with rfl|rfl|rfl|rfl<;>rfl
 rw [bM h2]
 by_cases h3:12≤tag∧tag≤23
 ·rw [bS h3,bM (by simp;omega),bM (by simp;omega),bM (by simp;omega),bM (by simp;omega)];rfl
 rw [bM h3]
 by_cases h4:tag=3∨(8≤tag∧tag≤11)
 ·rw [bS (by simpa using h4)]
 rw [bM (by simpa using h4),bS (by simp;omega)]
 rfl
def HD(n:bq):Bool:=(lN n).getD false
theorem ki(n:bq):lN n=some (HD n):=by
 unfold HD lN
 rw [ub]
 split
 ·rfl
 ·split<;>rfl
theorem El(n:bq):u3 n=some (HD n):=by
 rw [←ki]
 unfold u3 lN
 rw [ub,Dm]
inductive Tr where
 |lf (n:bq)
 |un (n:bq) (a:Tr)
 |bi (n:bq) (a b:Tr)
 deriving Inhabited
def Tr.size:Tr→Nat
 | .lf _=>1
 | .un _ a=>a.size+1
 | .bi _ a b=>a.size+b.size+1
def gP(n:bq)(l r:Int):bq:={n with L:=l,R:=r}
def Tr.flat:Tr→Nat→List bq
 | .lf n,_=>[gP n (-1) (-1)]
 | .un n a,s=>a.flat s++[gP n ((s+a.size:Nat)-1) (-1)]
 | .bi n a b,s=>a.flat s++b.flat (s+a.size)++[gP n ((s+a.size:Nat)-1) ((s+a.size+b.size:Nat)-1)]
def TU(k:Nat)(n:bq):Prop:=pk n.Tag=some k∧HD n=true∧n.L= -1∧n.R= -1
def Tr.wf:Tr→Prop
 | .lf n=>TU 0 n
 | .un n a=>TU 1 n∧a.wf
 | .bi n a b=>TU 2 n∧a.wf∧b.wf
theorem Tr.size_pos(t:Tr):0<t.size:=by cases t<;>simp [Tr.size]
theorem Tr.flat_len(t:Tr): ∀s,(t.flat s).length=t.size:=by
 induction t with
 |lf n=>intro s;rfl
 |un n a ih=>intro s;simp [Tr.flat,Tr.size,ih]
 |bi n a b iha ihb=>intro s;simp [Tr.flat,Tr.size,iha,ihb];omega
def cM:List Tr→Nat
 |[]=>0
 |t::st=>cM st+t.size
def vF:List Tr→List bq
 |[]=>[]
 |t::st=>vF st++t.flat (cM st)
theorem FY: ∀st:List Tr,(vF st).length=cM st
 |[]=>rfl
 |t::st=>by simp [vF,cM,FY st,t.flat_len]
theorem Fs: ∀st:List Tr,st.length≤cM st
 |[]=>eW _
 |t::st=>by have:=Fs st;have:=t.size_pos;simp [cM];omega
def push(st:List Tr)(n:bq):Option (List Tr):=
 match pk n.Tag,st with
 |some 0,st=>if HD n&&n.L== -1&&n.R== -1 then some (.lf (gP n (-1) (-1))::st)else none
 |some 1,a::st=>if HD n&&n.L==((cM st+a.size:Nat):Int)-1&&n.R== -1 then some (.un (gP n (-1) (-1)) a::st)else none
 |some 2,b::a::st=>if HD n&&n.L==((cM st+a.size:Nat):Int)-1&&n.R==((cM st+a.size+b.size:Nat):Int)-1 then some (.bi (gP n (-1) (-1)) a b::st)else none
 |_,_=>none
def pF:List bq→List Tr→Option (List Tr)
 |[],st=>some st
 |n::ns,st=>(push st n).bind (pF ns)
def XW(st:List Tr):Prop:= ∀t∈st,t.wf
theorem yn{n:bq}{l r:Int}(h:n.L=l)(h2:n.R=r):gP (gP n (-1) (-1)) l r=n:=by subst h h2;rfl
theorem MN{st st' :List Tr}{n:bq}(h:push st n=some st')(hw:XW st):vF st' =vF st++[n]∧cM st' =cM st+1∧XW st' :=by
 unfold push at h
 split at h
 ·rename_i k st0 hk
  split at h
  ·rename_i hc
   simp only [lH,wJ]at hc
   obtain⟨⟨h1,h2⟩,h3⟩:=hc
   cases h
   refine⟨?_,rfl,fun t ht=>?_⟩
   ·simp only [vF,Tr.flat]
    rw [yn h2 h3]
   ·rcases jl.1 ht with rfl|ht
    ·exact⟨hk,h1,rfl,rfl⟩
    ·exact hw t ht
  ·cases h
 ·rename_i k a st0 hk
  split at h
  ·rename_i hc
   simp only [lH,wJ]at hc
   obtain⟨⟨h1,h2⟩,h3⟩:=hc
   cases h
   refine⟨?_,by simp [cM,Tr.size];omega,fun t ht=>?_⟩
   ·simp only [vF,Tr.flat]
    rw [yn h2 h3,iS]
   ·rcases jl.1 ht with rfl|ht
    ·exact⟨⟨hk,h1,rfl,rfl⟩,hw a (iA ..)⟩
    ·exact hw t (pS _ ht)
  ·cases h
 ·rename_i k b a st0 hk
  split at h
  ·rename_i hc
   simp only [lH,wJ]at hc
   obtain⟨⟨h1,h2⟩,h3⟩:=hc
   cases h
   refine⟨?_,by simp [cM,Tr.size];omega,fun t ht=>?_⟩
   ·simp only [vF,Tr.flat,cM]
    rw [yn h2 h3]
    simp only [iS]
   ·rcases jl.1 ht with rfl|ht
    ·exact⟨⟨hk,h1,rfl,rfl⟩,hw a (pS _ (iA ..)),hw b (iA ..)⟩
    ·exact hw t (pS _ (pS _ ht))
  ·cases h
 ·cases h
theorem ud: ∀{ns:List bq} {st st' :List Tr},pF ns st=some st' →XW st→vF st' =vF st++ns∧XW st'
 |[],st,st',h,hw=>by cases h;simp [hw]
 |n::ns,st,st',h,hw=>by
  unfold pF at h
  cases hp:push st n with
  |none=>rw [hp]at h;cases h
  |some st1=>
   rw [hp]at h
   obtain⟨h1,_,h3⟩:=MN hp hw
   obtain⟨h4,h5⟩:=ud (ns:=ns) h h3
   exact⟨by rw [h4,h1];simp,h5⟩
theorem tk: ∀(ns ms:List bq) (st:List Tr),pF (ns++ms) st=(pF ns st).bind (pF ms)
 |[],ms,st=>rfl
 |n::ns,ms,st=>by
  simp only [Bd,pF]
  cases push st n with
  |none=>rfl
  |some st1=>exact tk ns ms st1
theorem Kc(t:Tr): ∀(st:List Tr),t.wf→pF (t.flat (cM st)) st=some (t::st):=by
 induction t with
 |lf n=>
  intro st ⟨h1,h2,h3,h4⟩
  have hn' :gP n (-1) (-1)=n:=by cases n;simp only at h3 h4;subst h3 h4;rfl
  simp only [Tr.flat,pF,push,hn']
  rw [h1]
  simp [h2,h3,h4,pF,hn']
 |un n a ih=>
  intro st ⟨⟨h1,h2,h3,h4⟩,ha⟩
  have hn' :gP n (-1) (-1)=n:=by cases n;simp only at h3 h4;subst h3 h4;rfl
  simp only [Tr.flat]
  rw [tk,ih st ha]
  simp only [bC,pF,push]
  have e1:(gP n (((cM st+a.size:Nat):Int)-1) (-1)).Tag=n.Tag:=rfl
  rw [e1,h1]
  have e2:HD (gP n (((cM st+a.size:Nat):Int)-1) (-1))=true:=h2
  rw [e2]
  simp only [gP,beq_self_eq_true,Bool.and_self,jW,bC,pF]
  simp only [gP]at hn'
  rw [hn']
 |bi n a b iha ihb=>
  intro st ⟨⟨h1,h2,h3,h4⟩,ha,hb⟩
  have hn' :gP n (-1) (-1)=n:=by cases n;simp only at h3 h4;subst h3 h4;rfl
  simp only [Tr.flat]
  rw [tk,tk,iha st ha]
  simp only [bC]
  have e0:cM st+a.size=cM (a::st):=rfl
  rw [e0,ihb (a::st) hb]
  simp only [bC,pF,push]
  have e1:(gP n (((cM (a::st):Nat):Int)-1) (((cM (a::st)+b.size:Nat):Int)-1)).Tag=n.Tag:=rfl
  rw [e1,h1]
  have e2:HD (gP n (((cM (a::st):Nat):Int)-1) (((cM (a::st)+b.size:Nat):Int)-1))=true:=h2
  rw [e2]
  simp only [gP,cM,beq_self_eq_true,Bool.and_self,jW,bC,pF]
  simp only [gP]at hn'
  rw [hn']
def pU(ns:List bq):Option Tr:=match pF ns []with
 |some [t]=>if ns.length≤1000 then some t else none
 |_=>none
theorem qb{ns:List bq}{t:Tr}(h:pU ns=some t):t.wf∧ns=t.flat 0∧t.size≤1000:=by
 unfold pU at h
 split at h
 ·rename_i t0 hp
  split at h
  ·rename_i hl
   cases h
   obtain⟨h1,h2⟩:=ud hp (fun t ht=>by cases ht)
   simp only [vF,cM,ke]at h1
   exact⟨h2 t (iA ..),h1.symm,by rw [←t.flat_len 0,h1];exact hl⟩
  ·cases h
 ·cases h
theorem B5{t:Tr}(h:t.wf)(hs:t.size≤1000):pU (t.flat 0)=some t:=by
 unfold pU
 have h0:=Kc t [] h
 simp only [cM]at h0
 rw [h0]
 simp only [t.flat_len,hs,jW]
def fl:Tr→Nat→List Int
 | .lf _,s=>[(s:Int)]
 | .un _ a,s=>fl a s++[(s:Int)]
 | .bi _ a b,s=>fl a s++fl b (s+a.size)++[(s:Int)]
def I0:List Tr→List Int
 |[]=>[]
 |t::st=>I0 st++fl t (cM st)
def mN:List Tr→List Int
 |[]=>[]
 |t::st=>mN st++[((cM st+t.size:Nat):Int)-1]
theorem sX(t:Tr): ∀s,(fl t s).length=t.size:=by
 induction t with
 |lf n=>intro s;rfl
 |un n a ih=>intro s;simp [fl,Tr.size,ih]
 |bi n a b iha ihb=>intro s;simp [fl,Tr.size,iha,ihb];omega
theorem uX: ∀st:List Tr,(I0 st).length=cM st
 |[]=>rfl
 |t::st=>by simp [I0,cM,uX st,sX]
theorem dJ: ∀st:List Tr,(mN st).length=st.length
 |[]=>rfl
 |t::st=>by simp [mN,dJ st]
theorem Lz(t:Tr)(s:Nat):(fl t s)[t.size-1]? =some (s:Int):=by
 cases t with
 |lf n=>rfl
 |un n a=>simp only [fl,Tr.size];rw [sP (by rw [sX];omega),sX];simp
 |bi n a b=>simp only [fl,Tr.size];rw [sP (by simp [sX]),lw,sX,sX];simp
theorem Ec(t:Tr)(st:List Tr)(rest:List Int):(I0 st++fl t (cM st)++rest)[cM st+t.size-1]? =some (cM st:Int):=by
 have:=t.size_pos
 rw [xc (by rw [lw,uX,sX];omega),sP (by rw [uX];omega),uX,show cM st+t.size-1-cM st=t.size-1 from by omega]
 exact Lz t _
theorem F3: ∀(ns:List bq) (st:List Tr),cM st+ns.length≤100000→li ns (cM st) (I0 st) (mN st)=some (match pF ns st with
   |some st' =>(I0 st',decide (st'.length=1)&&decide (cM st' ≤1000))
   |none=>([],false)):=by
 intro ns
 induction ns with
 |nil=>
  intro st _
  simp only [li,pF,dJ,uX]
  congr 2
  congr 1
  ·rw [yF];simp;omega
  ·rw [yF];simp;omega
 |cons n ns ih=>
  intro st hs
  simp only [iR]at hs
  have hll:=Fs st
  unfold li
  rw [y6]
  simp only [bC,dJ,El]
  unfold pF
  unfold push
  -- the parts
  cases hk:pk n.Tag with
  |none=>
   have e:GN n.Tag= -1:=by unfold GN;rw [hk]
   simp [e]
  |some k=>
   have e:GN n.Tag=(k:Int):=by unfold GN;rw [hk]
   have hk3:k=0∨k=1∨k=2:=by
    unfold pk at hk
    repeat' split at hk
    all_goals simp at hk
    all_goals omega
   rw [e]
   rcases hk3 with rfl|rfl|rfl
   ·-- none
    simp only []
    have c1:(decide (((0:Nat):Int)<0)||decide ((st.length:Int)<((0:Nat):Int)))=false:=by simp
    simp only [c1,Bb,jW,bC]
    cases hc:HD n with
    |false=>simp
    |true=>
     simp only [oh,mA,ji,w8]
     rw [mL st.length st.length (by rw [cA (by omega) (by omega)];omega) rfl (eW _) (by rw [dJ];exact eW _)]
     have hd:(List.take st.length (mN st)).drop st.length=[]:=vc (by simp;omega)
     simp only [hd,bC,mZ]
     by_cases hL:n.L= -1∧n.R= -1
     ·have hb:(n.L== -1&&n.R== -1)=true:=by simp [hL]
      rw [bS hb,bM (by simp [hL.1,hL.2])]
      rw [cP (by simp only [iR,sN,uX];omega)]
      simp only [bC]
      rw [mL (i:=0) 0 st.length rfl (by rw [dJ,cA (by omega) (by omega)];omega) (iP _) (by rw [dJ];exact eW _)]
      rw [rZ (by rw [dJ];exact eW _),sM]
      simp only [bC]
      rw [cP (by simp only [iR,sN,dJ];omega)]
      simp only [bC]
      have h2:=ih (.lf (gP n (-1) (-1))::st) (by simp [cM,Tr.size];omega)
      simp only [cM,Tr.size,I0,fl,mN]at h2
      rw [show(((cM st+1:Nat):Int)-1)=(cM st:Int)from by omega]at h2
      exact h2
     ·have hb:(n.L== -1&&n.R== -1)=false:=by
       rw [Aa];intro h;apply hL;simpa using h
      rw [hb]
      rw [bS (by
       simp only [Be,Df]
       intro h
       have h1:(-1:Int)=n.L:=by injection h
       have h2:(-1:Int)=n.R:=by injection h with _ h;injection h
       exact hL ⟨h1.symm,h2.symm⟩)]
      simp
   ·-- one
    cases st with
    |nil=>simp
    |cons a st=>
     simp only []
     have c1:(decide (((1:Nat):Int)<0)||decide (((a::st).length:Int)<((1:Nat):Int)))=false:=by simp;omega
     simp only [c1,Bb,jW,bC]
     cases hc:HD n with
     |false=>simp
     |true=>
      simp only [oh,mA,ji,w8]
      simp only [iR]at hll ⊢
      simp only [cM]at hs hll
      have hap:=a.size_pos
      rw [mL st.length (st.length+1) (by rw [cA (by omega) (by omega)];omega) (by omega) (by omega) (by rw [dJ];exact eW _)]
      have hd:(List.take (st.length+1) (mN (a::st))).drop st.length=[((cM st+a.size:Nat):Int)-1]:=by
       rw [rZ (by rw [dJ];exact eW _)]
       simp only [mN]
       rw [JE (by rw [dJ];exact eW _),vc (by rw [dJ];exact eW _),ke]
      rw [hd]
      simp only [bC,mZ]
      rw [mp (cM st+a.size-1) (by omega)]
      have hf:=Ec a st []
      rw [zU]at hf
      simp only [I0]
      rw [hf]
      simp only [bC]
      rw [mp 0 rfl]
      simp only [HG,bC]
      have hset:([(-1:Int),-1].set ((0:Nat):Int).toNat (((cM st+a.size:Nat):Int)-1))=[((cM st+a.size:Nat):Int)-1,-1]:=rfl
      rw [hset]
      by_cases hL:n.L=((cM st+a.size:Nat):Int)-1∧n.R= -1
      ·have hb:(n.L==((cM st+a.size:Nat):Int)-1&&n.R== -1)=true:=by simp [hL]
       rw [bS hb,bM (by rw [hL.1,hL.2];simp)]
       rw [cP (by simp only [iR,sN,lw,uX,sX];omega)]
       simp only [bC]
       rw [mL (i:=0) 0 st.length rfl (by rw [dJ,cA (by simp<;>omega) (by simp<;>omega)];simp) (iP _) (by rw [dJ];simp)]
       have ht:(List.take st.length (mN (a::st))).drop 0=mN st:=by
        simp only [mN,sM]
        rw [zg (by rw [dJ];exact eW _),rZ (by rw [dJ];exact eW _)]
       rw [ht]
       simp only [bC]
       rw [cP (by simp only [iR,sN,dJ];omega)]
       simp only [bC]
       have h2:=ih (.un (gP n (-1) (-1)) a::st) (by simp [cM,Tr.size];omega)
       simp only [cM,Tr.size,I0,fl,mN]at h2
       rw [show(((cM st+(a.size+1):Nat):Int)-1)=((cM st+a.size:Nat):Int)from by omega]at h2
       have hm:min ((cM (a::st):Nat):Int) (cM st:Int)=(cM st:Int):=by simp only [cM];omega
       rw [hm]
       simp only [iS]at h2 ⊢
       exact h2
      ·have hb:(n.L==((cM st+a.size:Nat):Int)-1&&n.R== -1)=false:=by
        rw [Aa];intro h;apply hL;simpa using h
       rw [hb]
       rw [bS (by
        simp only [Be,Df]
        intro h
        have h1:((cM st+a.size:Nat):Int)-1=n.L:=by injection h
        have h2:(-1:Int)=n.R:=by injection h with _ h;injection h
        exact hL ⟨h1.symm,h2.symm⟩)]
       simp
   ·-- two
    cases st with
    |nil=>simp
    |cons b st=>
     cases st with
     |nil=>simp
     |cons a st=>
      simp only []
      have c1:(decide (((2:Nat):Int)<0)||decide (((b::a::st).length:Int)<((2:Nat):Int)))=false:=by simp;omega
      simp only [c1,Bb,jW,bC]
      cases hc:HD n with
      |false=>simp
      |true=>
       simp only [oh,mA,ji,w8]
       simp only [iR]at hll ⊢
       simp only [cM]at hs hll
       have hap:=a.size_pos
       have hbp:=b.size_pos
       rw [mL st.length (st.length+1+1) (by rw [cA (by omega) (by omega)];omega) (by omega) (by omega) (by rw [dJ];exact eW _)]
       have hd:(List.take (st.length+1+1) (mN (b::a::st))).drop st.length=[((cM st+a.size:Nat):Int)-1,((cM st+a.size+b.size:Nat):Int)-1]:=by
        rw [rZ (by rw [dJ];exact eW _)]
        simp only [mN,cM,iS]
        rw [JE (by rw [dJ];exact eW _),vc (by rw [dJ];exact eW _),ke]
        rfl
       rw [hd]
       simp only [bC,mZ]
       simp only [I0,cM]
       rw [mp (cM st+a.size-1) (by omega)]
       rw [Ec a st (fl b (cM st+a.size))]
       simp only [bC]
       rw [mp 0 rfl]
       simp only [HG,bC]
       have hset:([(-1:Int),-1].set ((0:Nat):Int).toNat (((cM st+a.size:Nat):Int)-1))=[((cM st+a.size:Nat):Int)-1,-1]:=rfl
       rw [hset]
       rw [mp (cM st+a.size+b.size-1) (by omega)]
       have hf:=Ec b (a::st) []
       rw [zU]at hf
       simp only [I0,cM]at hf
       rw [hf]
       simp only [bC]
       rw [mp (0+1) rfl]
       simp only [List.getElem?_cons_succ,HG,bC]
       have hset2:([((cM st+a.size:Nat):Int)-1,-1].set ((0+1:Nat):Int).toNat (((cM st+a.size+b.size:Nat):Int)-1))=[((cM st+a.size:Nat):Int)-1,((cM st+a.size+b.size:Nat):Int)-1]:=rfl
       rw [hset2]
       by_cases hL:n.L=((cM st+a.size:Nat):Int)-1∧n.R=((cM st+a.size+b.size:Nat):Int)-1
       ·have hb:(n.L==((cM st+a.size:Nat):Int)-1&&n.R==((cM st+a.size+b.size:Nat):Int)-1)=true:=by rw [hL.1,hL.2];simp
        rw [bS hb,bM (by rw [hL.1,hL.2];simp)]
        rw [cP (by simp only [iR,sN,lw,uX,sX];omega)]
        simp only [bC]
        rw [mL (i:=0) 0 st.length rfl (by rw [dJ,cA (by simp;omega) (by simp;omega)];simp;omega) (iP _) (by rw [dJ];simp;omega)]
        have ht:(List.take st.length (mN (b::a::st))).drop 0=mN st:=by
         simp only [mN,sM,iS]
         rw [zg (by rw [dJ];exact eW _),rZ (by rw [dJ];exact eW _)]
        rw [ht]
        simp only [bC]
        rw [cP (by simp only [iR,sN,dJ];omega)]
        simp only [bC]
        have h2:=ih (.bi (gP n (-1) (-1)) a b::st) (by simp [cM,Tr.size];omega)
        simp only [cM,Tr.size,I0,fl,mN]at h2
        rw [show(((cM st+(a.size+b.size+1):Nat):Int)-1)=((cM st+a.size+b.size:Nat):Int)from by omega,show cM st+(a.size+b.size+1)=cM st+a.size+b.size+1 from by omega]at h2
        have hm:min (min (((cM st+a.size+b.size:Nat)):Int) (cM st:Int)) ((cM st+a.size:Nat):Int)=(cM st:Int):=by omega
        rw [hm]
        simp only [iS]at h2 ⊢
        exact h2
       ·have hb:(n.L==((cM st+a.size:Nat):Int)-1&&n.R==((cM st+a.size+b.size:Nat):Int)-1)=false:=by
         rw [Aa];intro h;apply hL;simpa using h
        rw [hb]
        rw [bS (by
         simp only [Be,Df]
         intro h
         have h1:((cM st+a.size:Nat):Int)-1=n.L:=by injection h
         have h2:((cM st+a.size+b.size:Nat):Int)-1=n.R:=by injection h with _ h;injection h
         exact hL ⟨h1.symm,h2.symm⟩)]
        simp
end Go.Proofs.YtnmjbolollcokaaGreatDoor

