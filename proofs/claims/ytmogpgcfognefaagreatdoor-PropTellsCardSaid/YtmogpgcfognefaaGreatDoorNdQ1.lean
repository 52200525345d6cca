/- di of this claim: K1, K2, K3, K4, K5, K6, K7, L1, L2, L3, L4. -/
import Derived.Test.YtmogpgcfognefaaGreatDoorNdF
import Derived.KernelRfl
import Derived.Test.YtmogpgcfognefaaGreatDoorNdV4
set_option linter.all false
namespace Go.Proofs.YtmogpgcfognefaaGreatDoor
open Go

abbrev Row:=List dQ
variable{α:Type}{xs:List α}
theorem du{ys:List α}(h:xs.length+ys.length≤68719476736):ko xs ys=some (xs++ys):=bQ h
def yk(v:dQ):Bool:=(oB v).getD false
theorem CS(v:dQ):oB v=some (yk v):=by
 unfold yk oB
 repeat' split
 all_goals rfl
variable{n:bD}
theorem Cp(v:dQ):tM v=some (if yk v then 0 else 120):=by
 obtain⟨k,n,u,s⟩:=v
 unfold yk oB tM wt
 simp only [kY,qh,qg,qf]
 by_cases h0:k=0
 ·subst h0;simp
  repeat' split
  all_goals simp_all
 by_cases h1:k=1
 ·subst h1
  by_cases n0:n=0
  ·subst n0;simp
   repeat' split
   all_goals simp_all
  by_cases n1:n=1
  ·subst n1;simp
   repeat' split
   all_goals simp_all
  simp [n0,n1]
 by_cases h2:k=2
 ·subst h2;simp
  repeat' split
  all_goals simp_all
 by_cases h3:k=3
 ·subst h3;simp
  repeat' split
  all_goals simp_all
 by_cases h4:k=4
 ·subst h4;simp
  repeat' split
  all_goals simp_all
 simp [h0,h1,h2,h3,h4]

structure Cmp{α:Type}(f:α→α→Int):Prop where
 rng: ∀x y,f x y= -1∨f x y=0∨f x y=1
 anti: ∀x y,f y x= -f x y
 eq: ∀x y,f x y=0↔x=y
 trans: ∀x y z,f x y≤0→f y z≤0→f x z≤0
def key(v:dQ):Int×Int×Int×iZ:=(v.Kind,v.N,v.U,v.S)

section
variable{f:α→α→Int}
def ltB(f:α→α→Int)(x y:α):Bool:=decide (f x y<0)
def Vp(f:α→α→Int)(l:List α):List α:=SR (ltB f) l
def put(f:α→α→Int)(x:α):List α→List α
 |[]=>[x]
 |y::l=>if f x y<0 then x::y::l else y::put f x l
end
def wW{α:Type} [DecidableEq α]:α→List α→List α
 |_,[]=>[]
 |p,x::t=>if x=p then wW x t else x::wW x t
theorem Io [DecidableEq α](p:α):wW p []=[]:=by unfold wW;rfl
theorem Fn [DecidableEq α]{p x:α}(h:x=p)(t:List α):wW p (x::t)=wW x t:=by
 conv=>lhs;unfold wW
 rw [bQ h]
theorem Lw [DecidableEq α]{p x:α}(h: ¬x=p)(t:List α):wW p (x::t)=x::wW x t:=by
 conv=>lhs;unfold wW
 rw [bI h]
def Lv{α:Type} [DecidableEq α]:List α→List α
 |[]=>[]
 |x::t=>x::wW x t
theorem Du{α:Type} [DecidableEq α]: ∀(p:α) (l:List α) (z:α),z∈wW p l→z∈l
 |p,x::t,z,h=>by
  unfold wW at h
  split at h
  ·exact oS _ (Du x t z h)
  ·rcases kp.1 h with rfl|h
   ·exact oc ..
   ·exact oS _ (Du x t z h)
theorem C6{α:Type} [DecidableEq α]: ∀(p:α) (l:List α) (z:α),z∈l→z=p∨z∈wW p l
 |p,x::t,z,h=>by
  unfold wW
  by_cases hx:x=p
  ·rw [bQ hx]
   rcases kp.1 h with rfl|h
   ·exact .inl hx
   ·rcases C6 x t z h with h|h
    ·exact .inl (h.trans hx)
    ·exact .inr h
  ·rw [bI hx]
   rcases kp.1 h with rfl|h
   ·exact .inr (oc ..)
   ·rcases C6 x t z h with h|h
    ·exact .inr (by rw [h];exact oc ..)
    ·exact .inr (oS _ h)
theorem MO [DecidableEq α](l:List α)(z:α):z∈Lv l↔z∈l:=by
 cases l with
 |nil=>exact sU
 |cons x t=>
  constructor
  ·intro h
   rcases kp.1 h with rfl|h
   ·exact oc ..
   ·exact oS _ (Du x t z h)
  ·intro h
   rcases kp.1 h with rfl|h
   ·exact oc ..
   ·rcases C6 x t z h with rfl|h
    ·exact oc ..
    ·exact oS _ h

structure Small(l:List Row):Prop where
 len:l.length≤8000
 row: ∀r∈l,r.length≤1000
theorem eS{n:Int}(h: -9223372036854775808≤n)(h2:n≤9223372036854775807):IntKind.i64.wrap n=n:=by rw [D0];omega
theorem xd{l m:Nat}(h:l≤m)(h2:m≤xs.length):dw xs (l:Int) (m:Int)=some ((xs.take m).drop l):=by
 unfold dw
 rw [bQ (by omega)]
 simp


def nb(r:Nat):Nat:=if r%2=1 then(r/2)^^^2197175160 else r/2
def nb8(r:Nat):Nat:=nb (nb (nb (nb (nb (nb (nb (nb r)))))))
def SI:List Int:=(List.range 256).map fun i=>(nb8 i:Int)

theorem vb{f:Int→Option Bool}{g:Int→Bool}(hf: ∀v,f v=some (g v)): ∀(l:List Int) (i:Nat),∃j:Int,f6 f l i=some j∧decide (0≤j)=l.any g
 |[],i=>⟨-1,rfl,rfl⟩
 |e::l,i=>by
  unfold f6
  rw [hf,bA]
  cases h:g e with
  |true=>exact⟨(i:Int),by simp,by simp [h]⟩
  |false=>
   obtain⟨j,h1,h2⟩:=vb hf l (i+1)
   exact⟨j,by simpa using h1,by rw [h2];simp [h]⟩
theorem jb{f:Int→Option Bool}{g:Int→Bool}(hf: ∀v,f v=some (g v))(l:List Int):ef l f=some (l.any g):=by
 unfold ef mh
 obtain⟨j,h1,h2⟩:=vb hf l 0
 rw [h1,bA,h2]

theorem j3{i j:Int}(l m:Nat)(hi:i=(l:Int))(hj:j=(m:Int))(h:l≤m)(h2:m≤xs.length):dw xs i j=some ((xs.take m).drop l):=by
 subst hi hj;exact xd h h2
theorem gR{i:Int}(k:Nat)(hi:i=(k:Int)):dC xs i=xs[k]? :=by subst hi;exact cK _ _
def yr(v:dQ):Bool:=yk v&&(v.Kind !=4)
theorem Co(v:dQ):tL v=some (yr v):=by
 unfold tL yr
 rw [Cp]
 cases yk v<;>simp
theorem s8(v:dQ):t6 v=some (yr v):=by
 unfold t6 yr
 rw [CS]
 rfl
theorem HD{v:dQ}(h:yr v=true):0≤v.Kind∧v.Kind≤3:=by
 obtain⟨k,n,u,s⟩:=v
 unfold yr yk oB at h
 simp only [iz,wn,ne_eq]at h
 obtain⟨h1,h2⟩:=h
 by_cases h0:k=0
 ·simp [h0]
 by_cases k1:k=1
 ·simp [k1]
 by_cases k2:k=2
 ·simp [k2]
 by_cases k3:k=3
 ·simp [k3]
 simp [h0,k1,k2,k3,h2]at h1
def pk(tag:Int):Option Nat:=if tag=1∨tag=2 then some 0 else if 4≤tag∧tag≤7 then some 1 else if 12≤tag∧tag≤23 then some 2 else none
def F5(tag:Int):Int:=match pk tag with
 |some k=>(k:Int)
 |none=> -1
theorem xQ(tag:Int):rj tag=some (F5 tag):=by
 unfold rj F5 pk
 by_cases h1:tag=1∨tag=2
 ·rw [bQ h1,bQ (by simpa using h1)];rfl
 rw [bI h1,bI (by simpa using h1)]
 by_cases h2:4≤tag∧tag≤7
 ·rw [bQ h2,bQ (by simpa using h2)];rfl
 rw [bI h2,bI (by simpa using h2)]
 by_cases h3:12≤tag∧tag≤23
 ·rw [bQ h3,bQ (by simpa using h3)];rfl
 rw [bI h3,bI (by simpa using h3)]
theorem qx(tag:Int):tY tag=some (F5 tag):=by
 unfold tY wC F5 pk
 by_cases h1:tag=1∨tag=2
 ·rw [bQ h1];rcases h1 with rfl|rfl<;>rfl
 rw [bI h1]
 by_cases h2:4≤tag∧tag≤7
 ·rw [bQ h2]
  have:tag=4∨tag=5∨tag=6∨tag=7:=by omega
  rcases this with rfl|rfl|rfl|rfl<;>rfl
 rw [bI h2]
 by_cases h3:12≤tag∧tag≤23
 ·rw [bQ h3,bI (by simp;omega),bI (by simp;omega),bI (by simp;omega),bI (by simp;omega)];rfl
 rw [bI h3]
 by_cases h4:tag=3∨(8≤tag∧tag≤11)
 ·rw [bQ (by simpa using h4)]
 rw [bI (by simpa using h4),bQ (by simp;omega)]
 rfl
def G3(n:bD):Bool:=(lV n).getD false
theorem kf(n:bD):lV n=some (G3 n):=by
 unfold G3 lV
 rw [s8]
 split
 ·rfl
 ·split<;>rfl
theorem Do(n:bD):uj n=some (G3 n):=by
 rw [←kf]
 unfold uj lV
 rw [s8,Co]
inductive Tr where
 |lf (n:bD)
 |un (n:bD) (a:Tr)
 |bi (n:bD) (a b:Tr)
 deriving Inhabited
def Tr.size:Tr→Nat
 | .lf _=>1
 | .un _ a=>a.size+1
 | .bi _ a b=>a.size+b.size+1
def lG(n:bD)(l r:Int):bD:={n with L:=l,R:=r}
def Tr.flat:Tr→Nat→List bD
 | .lf n,_=>[lG n (-1) (-1)]
 | .un n a,s=>a.flat s++[lG n ((s+a.size:Nat)-1) (-1)]
 | .bi n a b,s=>a.flat s++b.flat (s+a.size)++[lG n ((s+a.size:Nat)-1) ((s+a.size+b.size:Nat)-1)]
def TG(k:Nat)(n:bD):Prop:=pk n.Tag=some k∧G3 n=true∧n.L= -1∧n.R= -1
def Tr.wf:Tr→Prop
 | .lf n=>TG 0 n
 | .un n a=>TG 1 n∧a.wf
 | .bi n a b=>TG 2 n∧a.wf∧b.wf
theorem Tr.size_pos(t:Tr):0<t.size:=by cases t<;>simp [Tr.size]
theorem Tr.flat_len(t:Tr): ∀s,(t.flat s).length=t.size:=by
 induction t with
 |lf n=>intro s;rfl
 |un n a ih=>intro s;simp [Tr.flat,Tr.size,ih]
 |bi n a b iha ihb=>intro s;simp [Tr.flat,Tr.size,iha,ihb];omega
def cV:List Tr→Nat
 |[]=>0
 |t::st=>cV st+t.size
def v7:List Tr→List bD
 |[]=>[]
 |t::st=>v7 st++t.flat (cV st)
theorem E8: ∀st:List Tr,(v7 st).length=cV st
 |[]=>rfl
 |t::st=>by simp [v7,cV,E8 st,t.flat_len]
theorem EJ: ∀st:List Tr,st.length≤cV st
 |[]=>gB _
 |t::st=>by have:=EJ st;have:=t.size_pos;simp [cV];omega
def push(st:List Tr)(n:bD):Option (List Tr):=
 match pk n.Tag,st with
 |some 0,st=>if G3 n&&n.L== -1&&n.R== -1 then some (.lf (lG n (-1) (-1))::st)else none
 |some 1,a::st=>if G3 n&&n.L==((cV st+a.size:Nat):Int)-1&&n.R== -1 then some (.un (lG n (-1) (-1)) a::st)else none
 |some 2,b::a::st=>if G3 n&&n.L==((cV st+a.size:Nat):Int)-1&&n.R==((cV st+a.size+b.size:Nat):Int)-1 then some (.bi (lG n (-1) (-1)) a b::st)else none
 |_,_=>none
def pX:List bD→List Tr→Option (List Tr)
 |[],st=>some st
 |n::ns,st=>(push st n).bind (pX ns)
def XG(st:List Tr):Prop:= ∀t∈st,t.wf
theorem xg{l r:Int}(h:n.L=l)(h2:n.R=r):lG (lG n (-1) (-1)) l r=n:=by subst h h2;rfl
theorem MA{st st' :List Tr}(h:push st n=some st')(hw:XG st):v7 st' =v7 st++[n]∧cV st' =cV st+1∧XG st' :=by
 unfold push at h
 split at h
 ·rename_i k st0 hk
  split at h
  ·rename_i hc
   simp only [iz,uM]at hc
   obtain⟨⟨h1,h2⟩,h3⟩:=hc
   cases h
   refine⟨?_,rfl,fun t ht=>?_⟩
   ·simp only [v7,Tr.flat]
    rw [xg h2 h3]
   ·rcases kp.1 ht with rfl|ht
    ·exact⟨hk,h1,rfl,rfl⟩
    ·exact hw t ht
  ·cases h
 ·rename_i k a st0 hk
  split at h
  ·rename_i hc
   simp only [iz,uM]at hc
   obtain⟨⟨h1,h2⟩,h3⟩:=hc
   cases h
   refine⟨?_,by simp [cV,Tr.size];omega,fun t ht=>?_⟩
   ·simp only [v7,Tr.flat]
    rw [xg h2 h3,mV]
   ·rcases kp.1 ht with rfl|ht
    ·exact⟨⟨hk,h1,rfl,rfl⟩,hw a (oc ..)⟩
    ·exact hw t (oS _ ht)
  ·cases h
 ·rename_i k b a st0 hk
  split at h
  ·rename_i hc
   simp only [iz,uM]at hc
   obtain⟨⟨h1,h2⟩,h3⟩:=hc
   cases h
   refine⟨?_,by simp [cV,Tr.size];omega,fun t ht=>?_⟩
   ·simp only [v7,Tr.flat,cV]
    rw [xg h2 h3]
    simp only [mV]
   ·rcases kp.1 ht with rfl|ht
    ·exact⟨⟨hk,h1,rfl,rfl⟩,hw a (oS _ (oc ..)),hw b (oc ..)⟩
    ·exact hw t (oS _ (oS _ ht))
  ·cases h
 ·cases h
variable{ns:List bD}
theorem yu: ∀{ns:List bD} {st st' :List Tr},pX ns st=some st' →XG st→v7 st' =v7 st++ns∧XG st'
 |[],st,st',h,hw=>by cases h;simp [hw]
 |n::ns,st,st',h,hw=>by
  unfold pX at h
  cases hp:push st n with
  |none=>rw [hp]at h;cases h
  |some st1=>
   rw [hp]at h
   obtain⟨h1,_,h3⟩:=MA hp hw
   obtain⟨h4,h5⟩:=yu (ns:=ns) h h3
   exact⟨by rw [h4,h1];simp,h5⟩
theorem sC: ∀(ns ms:List bD) (st:List Tr),pX (ns++ms) st=(pX ns st).bind (pX ms)
 |[],ms,st=>rfl
 |n::ns,ms,st=>by
  simp only [yM,pX]
  cases push st n with
  |none=>rfl
  |some st1=>exact sC ns ms st1
theorem Jt(t:Tr): ∀(st:List Tr),t.wf→pX (t.flat (cV st)) st=some (t::st):=by
 induction t with
 |lf n=>
  intro st ⟨h1,h2,h3,h4⟩
  have hn' :lG n (-1) (-1)=n:=by cases n;simp only at h3 h4;subst h3 h4;rfl
  simp only [Tr.flat,pX,push,hn']
  rw [h1]
  simp [h2,h3,h4,pX,hn']
 |un n a ih=>
  intro st ⟨⟨h1,h2,h3,h4⟩,ha⟩
  have hn' :lG n (-1) (-1)=n:=by cases n;simp only at h3 h4;subst h3 h4;rfl
  simp only [Tr.flat]
  rw [sC,ih st ha]
  simp only [bA,pX,push]
  have e1:(lG n (((cV st+a.size:Nat):Int)-1) (-1)).Tag=n.Tag:=rfl
  rw [e1,h1]
  have e2:G3 (lG n (((cV st+a.size:Nat):Int)-1) (-1))=true:=h2
  rw [e2]
  simp only [lG,beq_self_eq_true,Bool.and_self,nt,bA,pX]
  simp only [lG]at hn'
  rw [hn']
 |bi n a b iha ihb=>
  intro st ⟨⟨h1,h2,h3,h4⟩,ha,hb⟩
  have hn' :lG n (-1) (-1)=n:=by cases n;simp only at h3 h4;subst h3 h4;rfl
  simp only [Tr.flat]
  rw [sC,sC,iha st ha]
  simp only [bA]
  have e0:cV st+a.size=cV (a::st):=rfl
  rw [e0,ihb (a::st) hb]
  simp only [bA,pX,push]
  have e1:(lG n (((cV (a::st):Nat):Int)-1) (((cV (a::st)+b.size:Nat):Int)-1)).Tag=n.Tag:=rfl
  rw [e1,h1]
  have e2:G3 (lG n (((cV (a::st):Nat):Int)-1) (((cV (a::st)+b.size:Nat):Int)-1))=true:=h2
  rw [e2]
  simp only [lG,cV,beq_self_eq_true,Bool.and_self,nt,bA,pX]
  simp only [lG]at hn'
  rw [hn']
def qX(ns:List bD):Option Tr:=match pX ns []with
 |some [t]=>if ns.length≤1000 then some t else none
 |_=>none
theorem pR{t:Tr}(h:qX ns=some t):t.wf∧ns=t.flat 0∧t.size≤1000:=by
 unfold qX at h
 split at h
 ·rename_i t0 hp
  split at h
  ·rename_i hl
   cases h
   obtain⟨h1,h2⟩:=yu hp (fun t ht=>by cases ht)
   simp only [v7,cV,nv]at h1
   exact⟨h2 t (oc ..),h1.symm,by rw [←t.flat_len 0,h1];exact hl⟩
  ·cases h
 ·cases h
theorem Hk{t:Tr}(h:t.wf)(hs:t.size≤1000):qX (t.flat 0)=some t:=by
 unfold qX
 have h0:=Jt t [] h
 simp only [cV]at h0
 rw [h0]
 simp only [t.flat_len,hs,nt]
def fl:Tr→Nat→List Int
 | .lf _,s=>[(s:Int)]
 | .un _ a,s=>fl a s++[(s:Int)]
 | .bi _ a b,s=>fl a s++fl b (s+a.size)++[(s:Int)]
def M5:List Tr→List Int
 |[]=>[]
 |t::st=>M5 st++fl t (cV st)
def m7:List Tr→List Int
 |[]=>[]
 |t::st=>m7 st++[((cV st+t.size:Nat):Int)-1]
theorem vE(t:Tr): ∀s,(fl t s).length=t.size:=by
 induction t with
 |lf n=>intro s;rfl
 |un n a ih=>intro s;simp [fl,Tr.size,ih]
 |bi n a b iha ihb=>intro s;simp [fl,Tr.size,iha,ihb];omega
theorem ue: ∀st:List Tr,(M5 st).length=cV st
 |[]=>rfl
 |t::st=>by simp [M5,cV,ue st,vE]
theorem dX: ∀st:List Tr,(m7 st).length=st.length
 |[]=>rfl
 |t::st=>by simp [m7,dX st]
theorem Qv(t:Tr)(s:Nat):(fl t s)[t.size-1]? =some (s:Int):=by
 cases t with
 |lf n=>rfl
 |un n a=>simp only [fl,Tr.size];rw [uu (by rw [vE];omega),vE];simp
 |bi n a b=>simp only [fl,Tr.size];rw [uu (by simp [vE]),mt,vE,vE];simp
theorem Dd(t:Tr)(st:List Tr)(rest:List Int):(M5 st++fl t (cV st)++rest)[cV st+t.size-1]? =some (cV st:Int):=by
 have:=t.size_pos
 rw [vh (by rw [mt,ue,vE];omega),uu (by rw [ue];omega),ue,show cV st+t.size-1-cV st=t.size-1 from by omega]
 exact Qv t _
theorem M8: ∀(ns:List bD) (st:List Tr),cV st+ns.length≤100000→lA ns (cV st) (M5 st) (m7 st)=some (match pX ns st with
   |some st' =>(M5 st',decide (st'.length=1)&&decide (cV st' ≤1000))
   |none=>([],false)):=by
 intro ns
 induction ns with
 |nil=>
  intro st _
  simp only [lA,pX,dX,ue]
  congr 2
  congr 1
  ·rw [xu];simp;omega
  ·rw [xu];simp;omega
 |cons n ns ih=>
  intro st hs
  simp only [kb]at hs
  have hll:=EJ st
  unfold lA
  rw [xQ]
  simp only [bA,dX,Do]
  unfold pX
  unfold push
  -- the parts
  cases hk:pk n.Tag with
  |none=>
   have e:F5 n.Tag= -1:=by unfold F5;rw [hk]
   simp [e]
  |some k=>
   have e:F5 n.Tag=(k:Int):=by unfold F5;rw [hk]
   have hk3:k=0∨k=1∨k=2:=by
    unfold pk at hk
    repeat' split at hk
    all_goals simp at hk
    all_goals omega
   rw [e]
   rcases hk3 with rfl|rfl|rfl
   ·-- none
    simp only []
    have c1:(decide (((0:Nat):Int)<0)||decide ((st.length:Int)<((0:Nat):Int)))=false:=by simp
    simp only [c1,Bw,nt,bA]
    cases hc:G3 n with
    |false=>simp
    |true=>
     simp only [tF,uK,qa,nQ]
     rw [j3 st.length st.length (by rw [eS (by omega) (by omega)];omega) rfl (gB _) (by rw [dX];exact gB _)]
     have hd:(List.take st.length (m7 st)).drop st.length=[]:=vf (by simp;omega)
     simp only [hd,bA,mQ]
     by_cases hL:n.L= -1∧n.R= -1
     ·have hb:(n.L== -1&&n.R== -1)=true:=by simp [hL]
      rw [bQ hb,bI (by simp [hL.1,hL.2])]
      rw [du (by simp only [kb,xv,ue];omega)]
      simp only [bA]
      rw [j3 (i:=0) 0 st.length rfl (by rw [dX,eS (by omega) (by omega)];omega) (jz _) (by rw [dX];exact gB _)]
      rw [vg (by rw [dX];exact gB _),sa]
      simp only [bA]
      rw [du (by simp only [kb,xv,dX];omega)]
      simp only [bA]
      have h2:=ih (.lf (lG n (-1) (-1))::st) (by simp [cV,Tr.size];omega)
      simp only [cV,Tr.size,M5,fl,m7]at h2
      rw [show(((cV st+1:Nat):Int)-1)=(cV st:Int)from by omega]at h2
      exact h2
     ·have hb:(n.L== -1&&n.R== -1)=false:=by
       rw [Ci];intro h;apply hL;simpa using h
      rw [hb]
      rw [bQ (by
       simp only [xX,D1]
       intro h
       have h1:(-1:Int)=n.L:=by injection h
       have h2:(-1:Int)=n.R:=by injection h with _ h;injection h
       exact hL ⟨h1.symm,h2.symm⟩)]
      simp
   ·-- one
    cases st with
    |nil=>simp
    |cons a st=>
     simp only []
     have c1:(decide (((1:Nat):Int)<0)||decide (((a::st).length:Int)<((1:Nat):Int)))=false:=by simp;omega
     simp only [c1,Bw,nt,bA]
     cases hc:G3 n with
     |false=>simp
     |true=>
      simp only [tF,uK,qa,nQ]
      simp only [kb]at hll ⊢
      simp only [cV]at hs hll
      have hap:=a.size_pos
      rw [j3 st.length (st.length+1) (by rw [eS (by omega) (by omega)];omega) (by omega) (by omega) (by rw [dX];exact gB _)]
      have hd:(List.take (st.length+1) (m7 (a::st))).drop st.length=[((cV st+a.size:Nat):Int)-1]:=by
       rw [vg (by rw [dX];exact gB _)]
       simp only [m7]
       rw [Hb (by rw [dX];exact gB _),vf (by rw [dX];exact gB _),nv]
      rw [hd]
      simp only [bA,mQ]
      rw [gR (cV st+a.size-1) (by omega)]
      have hf:=Dd a st []
      rw [z8]at hf
      simp only [M5]
      rw [hf]
      simp only [bA]
      rw [gR 0 rfl]
      simp only [EC,bA]
      have hset:([(-1:Int),-1].set ((0:Nat):Int).toNat (((cV st+a.size:Nat):Int)-1))=[((cV st+a.size:Nat):Int)-1,-1]:=rfl
      rw [hset]
      by_cases hL:n.L=((cV st+a.size:Nat):Int)-1∧n.R= -1
      ·have hb:(n.L==((cV st+a.size:Nat):Int)-1&&n.R== -1)=true:=by simp [hL]
       rw [bQ hb,bI (by rw [hL.1,hL.2];simp)]
       rw [du (by simp only [kb,xv,mt,ue,vE];omega)]
       simp only [bA]
       rw [j3 (i:=0) 0 st.length rfl (by rw [dX,eS (by simp<;>omega) (by simp<;>omega)];simp) (jz _) (by rw [dX];simp)]
       have ht:(List.take st.length (m7 (a::st))).drop 0=m7 st:=by
        simp only [m7,sa]
        rw [Cg (by rw [dX];exact gB _),vg (by rw [dX];exact gB _)]
       rw [ht]
       simp only [bA]
       rw [du (by simp only [kb,xv,dX];omega)]
       simp only [bA]
       have h2:=ih (.un (lG n (-1) (-1)) a::st) (by simp [cV,Tr.size];omega)
       simp only [cV,Tr.size,M5,fl,m7]at h2
       rw [show(((cV st+(a.size+1):Nat):Int)-1)=((cV st+a.size:Nat):Int)from by omega]at h2
       have hm:min ((cV (a::st):Nat):Int) (cV st:Int)=(cV st:Int):=by simp only [cV];omega
       rw [hm]
       simp only [mV]at h2 ⊢
       exact h2
      ·have hb:(n.L==((cV st+a.size:Nat):Int)-1&&n.R== -1)=false:=by
        rw [Ci];intro h;apply hL;simpa using h
       rw [hb]
       rw [bQ (by
        simp only [xX,D1]
        intro h
        have h1:((cV st+a.size:Nat):Int)-1=n.L:=by injection h
        have h2:(-1:Int)=n.R:=by injection h with _ h;injection h
        exact hL ⟨h1.symm,h2.symm⟩)]
       simp
   ·-- two
    cases st with
    |nil=>simp
    |cons b st=>
     cases st with
     |nil=>simp
     |cons a st=>
      simp only []
      have c1:(decide (((2:Nat):Int)<0)||decide (((b::a::st).length:Int)<((2:Nat):Int)))=false:=by simp;omega
      simp only [c1,Bw,nt,bA]
      cases hc:G3 n with
      |false=>simp
      |true=>
       simp only [tF,uK,qa,nQ]
       simp only [kb]at hll ⊢
       simp only [cV]at hs hll
       have hap:=a.size_pos
       have hbp:=b.size_pos
       rw [j3 st.length (st.length+1+1) (by rw [eS (by omega) (by omega)];omega) (by omega) (by omega) (by rw [dX];exact gB _)]
       have hd:(List.take (st.length+1+1) (m7 (b::a::st))).drop st.length=[((cV st+a.size:Nat):Int)-1,((cV st+a.size+b.size:Nat):Int)-1]:=by
        rw [vg (by rw [dX];exact gB _)]
        simp only [m7,cV,mV]
        rw [Hb (by rw [dX];exact gB _),vf (by rw [dX];exact gB _),nv]
        rfl
       rw [hd]
       simp only [bA,mQ]
       simp only [M5,cV]
       rw [gR (cV st+a.size-1) (by omega)]
       rw [Dd a st (fl b (cV st+a.size))]
       simp only [bA]
       rw [gR 0 rfl]
       simp only [EC,bA]
       have hset:([(-1:Int),-1].set ((0:Nat):Int).toNat (((cV st+a.size:Nat):Int)-1))=[((cV st+a.size:Nat):Int)-1,-1]:=rfl
       rw [hset]
       rw [gR (cV st+a.size+b.size-1) (by omega)]
       have hf:=Dd b (a::st) []
       rw [z8]at hf
       simp only [M5,cV]at hf
       rw [hf]
       simp only [bA]
       rw [gR (0+1) rfl]
       simp only [List.getElem?_cons_succ,EC,bA]
       have hset2:([((cV st+a.size:Nat):Int)-1,-1].set ((0+1:Nat):Int).toNat (((cV st+a.size+b.size:Nat):Int)-1))=[((cV st+a.size:Nat):Int)-1,((cV st+a.size+b.size:Nat):Int)-1]:=rfl
       rw [hset2]
       by_cases hL:n.L=((cV st+a.size:Nat):Int)-1∧n.R=((cV st+a.size+b.size:Nat):Int)-1
       ·have hb:(n.L==((cV st+a.size:Nat):Int)-1&&n.R==((cV st+a.size+b.size:Nat):Int)-1)=true:=by rw [hL.1,hL.2];simp
        rw [bQ hb,bI (by rw [hL.1,hL.2];simp)]
        rw [du (by simp only [kb,xv,mt,ue,vE];omega)]
        simp only [bA]
        rw [j3 (i:=0) 0 st.length rfl (by rw [dX,eS (by simp;omega) (by simp;omega)];simp;omega) (jz _) (by rw [dX];simp;omega)]
        have ht:(List.take st.length (m7 (b::a::st))).drop 0=m7 st:=by
         simp only [m7,sa,mV]
         rw [Cg (by rw [dX];exact gB _),vg (by rw [dX];exact gB _)]
        rw [ht]
        simp only [bA]
        rw [du (by simp only [kb,xv,dX];omega)]
        simp only [bA]
        have h2:=ih (.bi (lG n (-1) (-1)) a b::st) (by simp [cV,Tr.size];omega)
        simp only [cV,Tr.size,M5,fl,m7]at h2
        rw [show(((cV st+(a.size+b.size+1):Nat):Int)-1)=((cV st+a.size+b.size:Nat):Int)from by omega,show cV st+(a.size+b.size+1)=cV st+a.size+b.size+1 from by omega]at h2
        have hm:min (min (((cV st+a.size+b.size:Nat)):Int) (cV st:Int)) ((cV st+a.size:Nat):Int)=(cV st:Int):=by omega
        rw [hm]
        simp only [mV]at h2 ⊢
        exact h2
       ·have hb:(n.L==((cV st+a.size:Nat):Int)-1&&n.R==((cV st+a.size+b.size:Nat):Int)-1)=false:=by
         rw [Ci];intro h;apply hL;simpa using h
        rw [hb]
        rw [bQ (by
         simp only [xX,D1]
         intro h
         have h1:((cV st+a.size:Nat):Int)-1=n.L:=by injection h
         have h2:((cV st+a.size+b.size:Nat):Int)-1=n.R:=by injection h with _ h;injection h
         exact hL ⟨h1.symm,h2.symm⟩)]
        simp

theorem o4{n:Nat}(h:n≤1000000):n≤gK:=by unfold gK;omega
def qZ(ns:List bD):Bool:=(qX ns).isSome
theorem HF{st:List Tr}(h:pX ns []=some st):cV st=ns.length:=by
 have:=(yu h (fun t ht=>by cases ht)).1
 rw [←E8,this];simp [v7]
theorem xR(e:bp)(h:e.Nodes.length≤100000):pL e=some (if qZ e.Nodes then 0 else 200):=by
 unfold pL ui qZ qX
 have:=M8 e.Nodes [] (by simpa [cV] using h)
 simp only [cV,M5,m7]at this
 rw [this]
 cases hp:pX e.Nodes []with
 |none=>rfl
 |some st=>
  have hsz:=HF hp
  match st,hsz with
  |[],_=>rfl
  |[t],hsz=>
   simp only [bA,hsz]
   by_cases hl:e.Nodes.length≤1000<;>simp [hl]
  |t::t2::st,_=>simp
theorem Qc(t:Tr):t.wf→ ∀(P R N:List bD) (fu:Nat),N=P++t.flat P.length++R→t.size≤fu→N.length≤100000→iL fu ⟨N⟩ (((P.length+t.size:Nat):Int)-1)=some (t.size:Int):=by
 induction t with
 |lf n=>
  intro⟨h1,h2,h3,h4⟩ P R N fu hN hf hl
  have hNl:=congrArg List.length hN
  simp only [mt,Tr.flat_len]at hNl
  simp only [Tr.size]at hf hNl ⊢
  obtain⟨fu,rfl⟩: ∃k,fu=k+1:=⟨fu-1,by omega⟩
  unfold iL
  have hx:N[P.length]? =some (lG n (-1) (-1)):=by
   rw [hN,mV,uu (gB _),wo];rfl
  rw [bI (by simp;omega),gR P.length (by omega),hx]
  have e1:(lG n (-1) (-1)).Tag=n.Tag:=rfl
  simp only [bA]
  rw [e1,qx]
  have e:F5 n.Tag=0:=by unfold F5;rw [h1];rfl
  simp only [e,bA,kf]
  have e2:G3 (lG n (-1) (-1))=true:=h2
  rw [e2]
  simp [lG]
 |un n a ih=>
  intro⟨⟨h1,h2,h3,h4⟩,ha⟩ P R N fu hN hf hl
  obtain⟨m,hm⟩: ∃m,m=lG n (((P.length+a.size:Nat):Int)-1) (-1):=⟨_,rfl⟩
  have hNl:=congrArg List.length hN
  simp only [mt,Tr.flat_len]at hNl
  simp only [Tr.size]at hf hNl ⊢
  simp only [Tr.flat,←hm]at hN
  obtain⟨fu,rfl⟩: ∃k,fu=k+1:=⟨fu-1,by omega⟩
  have hpos:=a.size_pos
  have hi:=ih ha P ([m]++R) N fu (by rw [hN];simp only [mV]) (by omega) hl
  unfold iL
  have hx:N[P.length+a.size]? =some m:=by
   rw [hN,mV,mV,←mV P,uu (by simp [a.flat_len])]
   simp [a.flat_len]
  rw [bI (by simp;omega),gR (P.length+a.size) (by omega),hx]
  simp only [bA]
  have e1:m.Tag=n.Tag:=by rw [hm];rfl
  rw [e1,qx]
  have e:F5 n.Tag=1:=by unfold F5;rw [h1];rfl
  simp only [e,bA,kf]
  have e2:G3 m=true:=by rw [hm];exact h2
  have eL:m.L=((P.length+a.size:Nat):Int)-1:=by rw [hm];rfl
  have eR:m.R= -1:=by rw [hm];rfl
  rw [eS (n:=((P.length+(a.size+1):Nat):Int)-1-1) (by omega) (by omega),show(((P.length+(a.size+1):Nat):Int)-1-1)=(((P.length+a.size:Nat):Int)-1)from by omega]
  rw [hi]
  simp only [bA]
  rw [eS (n:=(a.size:Int)+1) (by omega) (by omega)]
  have n1: ¬a.size=0:=by omega
  simp [e2,eL,eR,n1]
 |bi n a b iha ihb=>
  intro⟨⟨h1,h2,h3,h4⟩,ha,hb⟩ P R N fu hN hf hl
  obtain⟨m,hm⟩: ∃m,m=lG n (((P.length+a.size:Nat):Int)-1) (((P.length+a.size+b.size:Nat):Int)-1):=⟨_,rfl⟩
  have hNl:=congrArg List.length hN
  simp only [mt,Tr.flat_len]at hNl
  simp only [Tr.size]at hf hNl ⊢
  simp only [Tr.flat,←hm]at hN
  obtain⟨fu,rfl⟩: ∃k,fu=k+1:=⟨fu-1,by omega⟩
  have hap:=a.size_pos
  have hbp:=b.size_pos
  have hi1:=iha ha P (b.flat (P.length+a.size)++[m]++R) N fu (by rw [hN];simp only [mV]) (by omega) hl
  have hi2:=ihb hb (P++a.flat P.length) ([m]++R) N fu (by rw [hN];simp only [mV,mt,a.flat_len]) (by omega) hl
  rw [mt,a.flat_len]at hi2
  unfold iL
  have hx:N[P.length+a.size+b.size]? =some m:=by
   rw [hN,mV,mV,←mV P,uu (by simp [a.flat_len,b.flat_len];omega)]
   have:P.length+a.size+b.size-(P++(a.flat P.length++b.flat (P.length+a.size))).length=0:=by simp [a.flat_len,b.flat_len];omega
   rw [this];rfl
  rw [bI (by simp;omega),gR (P.length+a.size+b.size) (by omega),hx]
  simp only [bA]
  have e1:m.Tag=n.Tag:=by rw [hm];rfl
  rw [e1,qx]
  have e:F5 n.Tag=2:=by unfold F5;rw [h1];rfl
  simp only [e,bA,kf]
  have e2:G3 m=true:=by rw [hm];exact h2
  have eL:m.L=((P.length+a.size:Nat):Int)-1:=by rw [hm];rfl
  have eR:m.R=((P.length+a.size+b.size:Nat):Int)-1:=by rw [hm];rfl
  rw [eS (n:=((P.length+(a.size+b.size+1):Nat):Int)-1-1) (by omega) (by omega),show(((P.length+(a.size+b.size+1):Nat):Int)-1-1)=(((P.length+a.size+b.size:Nat):Int)-1)from by omega]
  rw [hi2]
  simp only [bA]
  rw [eS (n:=((P.length+a.size+b.size:Nat):Int)-1-(b.size:Int)) (by omega) (by omega),show((P.length+a.size+b.size:Nat):Int)-1-(b.size:Int)=((P.length+a.size:Nat):Int)-1 from by omega]
  rw [hi1]
  simp only [bA]
  rw [eS (n:=(a.size:Int)+(b.size:Int)) (by omega) (by omega),eS (n:=(a.size:Int)+(b.size:Int)+1) (by omega) (by omega)]
  have n1: ¬a.size=0:=by omega
  have n2: ¬b.size=0:=by omega
  have e5:(P.length:Int)+(a.size:Int)+(b.size:Int)-1-(b.size:Int)=(P.length:Int)+(a.size:Int)-1:=by omega
  simp [e2,eL,eR,n1,n2,e5]
theorem Qd(N:List bD)(hN:N.length≤100000): ∀(fu q:Nat),q≤N.length→q<fu→ ∃k:Nat,iL fu ⟨N⟩ ((q:Int)-1)=some (k:Int)∧(k=0∨ ∃(t:Tr) (P R:List bD),t.wf∧t.size=k∧N=P++t.flat P.length++R∧P.length+k=q):=by
 intro fu
 induction fu with
 |zero=>intro q _ h;omega
 |succ fu ih=>
  intro q hq hf
  unfold iL
  by_cases h0:q=0
  ·subst h0
   exact⟨0,by rw [bQ (by simp)];rfl,.inl rfl⟩
  rw [bI (by simp;omega),gR (q-1) (by omega)]
  have hlt:q-1<N.length:=by omega
  rw [nP hlt]
  obtain⟨n,hn⟩: ∃n,n=N[q-1]:=⟨_,rfl⟩
  rw [←hn]
  have hd:N=N.take (q-1)++([n]++N.drop q):=by
   have h1:=sS (q-1) N
   rw [ut hlt,←hn,show q-1+1=q from by omega]at h1
   exact h1.symm
  simp only [bA,qx,kf]
  cases hk:pk n.Tag with
  |none=>
   have e:F5 n.Tag= -1:=by unfold F5;rw [hk]
   exact⟨0,by simp [e],.inl rfl⟩
  |some k=>
   have e:F5 n.Tag=(k:Int):=by unfold F5;rw [hk]
   have hk3:k=0∨k=1∨k=2:=by
    unfold pk at hk
    repeat' split at hk
    all_goals simp at hk
    all_goals omega
   cases hc:G3 n with
   |false=>exact⟨0,by simp [e,hc],.inl rfl⟩
   |true=>
    rcases hk3 with rfl|rfl|rfl
    ·rw [e]
     by_cases hL:n.L= -1∧n.R= -1
     ·refine⟨1,by simp [hL],.inr ⟨.lf (lG n (-1) (-1)),N.take (q-1),N.drop q,⟨hk,hc,rfl,rfl⟩,rfl,?_,by simp;omega⟩⟩
      simp only [Tr.flat]
      rw [xg hL.1 hL.2,mV]
      exact hd
     ·refine⟨0,?_,.inl rfl⟩
      have:(n.L != -1||n.R != -1)=true:=by
       rw [z7,wn,wn]
       by_cases hl:n.L= -1
       ·exact .inr fun h=>hL ⟨hl,h⟩
       ·exact .inl hl
      simp [this]
    ·rw [e,eS (by omega) (by omega)]
     have e9:(((q-1:Nat):Int)-1)=(q:Int)-1-1:=by omega
     obtain⟨r2,h2,h2'⟩:=ih (q-1) (by omega) (by omega)
     rw [e9]at h2
     rw [h2]
     rcases h2' with rfl|⟨t,P,R,hw,hs,hN2,hl⟩
     ·exact⟨0,by simp,.inl rfl⟩
     ·have hp:=t.size_pos
      by_cases hL:n.L=(q:Int)-1-1∧n.R= -1
      ·refine⟨r2+1,?_,.inr ⟨.un (lG n (-1) (-1)) t,P,N.drop q,⟨⟨hk,hc,rfl,rfl⟩,hw⟩,by simp only [Tr.size];omega,?_,by omega⟩⟩
       ·simp only [bA]
        rw [eS (n:=(r2:Int)+1) (by omega) (by omega)]
        have: ¬(r2=0):=by omega
        simp [hL,this]
       ·simp only [Tr.flat]
        rw [xg (by rw [hL.1];omega) hL.2]
        have ht:N.take (q-1)=P++t.flat P.length:=by
         rw [hN2,Cg (by simp [t.flat_len];omega),vg (by simp [t.flat_len];omega)]
        rw [ht]at hd
        simpa only [mV] using hd
      ·refine⟨0,?_,.inl rfl⟩
       have:(n.L !=(q:Int)-1-1||n.R != -1)=true:=by
        rw [z7,wn,wn]
        by_cases hl:n.L=(q:Int)-1-1
        ·exact .inr fun h=>hL ⟨hl,h⟩
        ·exact .inl hl
       simp [this]
    ·rw [e,eS (n:=(q:Int)-1-1) (by omega) (by omega)]
     have e9:(((q-1:Nat):Int)-1)=(q:Int)-1-1:=by omega
     obtain⟨r2,h2,h2'⟩:=ih (q-1) (by omega) (by omega)
     rw [e9]at h2
     rw [h2]
     rcases h2' with rfl|⟨t,P,R,hw,hs,hN2,hl⟩
     ·exact⟨0,by simp,.inl rfl⟩
     ·have hp:=t.size_pos
      simp only [bA]
      rw [eS (n:=(q:Int)-1-1-(r2:Int)) (by omega) (by omega)]
      have e8:(((q-1-r2:Nat):Int)-1)=(q:Int)-1-1-(r2:Int):=by omega
      have n2: ¬(r2=0):=by omega
      obtain⟨r3,h3,h3'⟩:=ih (q-1-r2) (by omega) (by omega)
      rw [e8]at h3
      rw [h3]
      rcases h3' with rfl|⟨t3,P3,R3,hw3,hs3,hN3,hl3⟩
      ·exact⟨0,by simp,.inl rfl⟩
      ·have hp3:=t3.size_pos
       have n3: ¬(r3=0):=by omega
       by_cases hL:n.R=(q:Int)-1-1∧n.L=(q:Int)-1-1-(r2:Int)
       ·refine⟨r3+r2+1,?_,.inr ⟨.bi (lG n (-1) (-1)) t3 t,P3,N.drop q,⟨⟨hk,hc,rfl,rfl⟩,hw3,hw⟩,by simp only [Tr.size];omega,?_,by omega⟩⟩
        ·simp only [bA]
         rw [eS (n:=(r3:Int)+(r2:Int)) (by omega) (by omega),eS (n:=(r3:Int)+(r2:Int)+1) (by omega) (by omega)]
         simp [hL,n2,n3]
        ·simp only [Tr.flat]
         rw [xg (by rw [hL.2];omega) (by rw [hL.1];omega)]
         have ht:N.take (q-1)=P++t.flat P.length:=by
          rw [hN2,Cg (by simp [t.flat_len];omega),vg (by simp [t.flat_len];omega)]
         have hP:P=N.take P.length:=by
          conv=>rhs;rw [hN2,mV,Cg (gB _),vg (gB _)]
         have hP3:P=P3++t3.flat P3.length:=by
          rw [hP]
          have:P.length=P3.length+t3.size:=by omega
          conv=>lhs;rw [this,hN3]
          rw [Cg (by simp [t3.flat_len]),vg (by simp [t3.flat_len])]
         have hPl:P.length=P3.length+t3.size:=by omega
         rw [ht,hPl]at hd
         rw [hP3]at hd
         simpa only [mV] using hd
       ·clear ih hN2 hN3
        refine⟨0,?_,.inl rfl⟩
        have:(n.R !=(q:Int)-1-1||n.L !=(q:Int)-1-1-(r2:Int))=true:=by
         rw [z7,wn,wn]
         by_cases hl:n.R=(q:Int)-1-1
         ·exact .inr fun h=>hL ⟨hl,h⟩
         ·exact .inl hl
        have h' :=this
        rw [z7,wn,wn]at h'
        simp [n2,n3]
        intro h1 h2
        exact absurd h2 (by rcases h' with h' |h';exact absurd h1 h';exact h')
theorem CP(e:bp):tX e=some (qZ e.Nodes):=by
 unfold tX qZ
 by_cases h:1≤e.Nodes.length∧e.Nodes.length≤1000
 ·rw [bQ (by simp;omega),eS (by omega) (by omega)]
  unfold yn
  obtain⟨k,h1,h2⟩:=Qd e.Nodes (by omega) gK e.Nodes.length (gB _) (wg (Bz _) (o4 (by omega)))
  have h1' :iL gK e ((e.Nodes.length:Int)-1)=some (k:Int):=h1
  rw [h1']
  simp only [bA]
  congr 1
  rw [xu]
  constructor
  ·intro hk
   have hk' :k=e.Nodes.length:=by have:=eq_of_beq hk;omega
   rcases h2 with rfl|⟨t,P,R,hw,hs,hN,hl⟩
   ·omega
   ·have hP:P=[]:=uL (by omega)
    subst hP
    have hR:R=[]:=by
     have:=congrArg List.length hN
     simp [t.flat_len]at this
     exact uL (by omega)
    subst hR
    have hN' :e.Nodes=t.flat 0:=by simpa using hN
    rw [hN',Hk hw (by omega)];rfl
  ·intro hi
   cases ht:qX e.Nodes with
   |none=>rw [ht]at hi;cases hi
   |some t=>
    obtain⟨hw,hN,hs⟩:=pR ht
    have hlen:e.Nodes.length=t.size:=by rw [hN,t.flat_len]
    have h3:=Qc t hw [] [] e.Nodes gK (by simpa using hN) (o4 (by omega)) (by omega)
    simp only [xv,pj]at h3
    rw [←hlen]at h3
    have h4:some (k:Int)=some (e.Nodes.length:Int):=h1.symm.trans h3
    simpa using h4
 ·rw [bI (by simp;omega)]
  simp only [bA]
  congr 1
  symm
  rw [Ci]
  intro hi
  cases ht:qX e.Nodes with
  |none=>rw [ht]at hi;cases hi
  |some t=>
   obtain⟨hw,hN,hs⟩:=pR ht
   have hlen:e.Nodes.length=t.size:=by rw [hN,t.flat_len]
   have:=t.size_pos
   omega
theorem Jm(h:qZ ns=true):1≤ns.length∧ns.length≤1000:=by
 unfold qZ at h
 cases ht:qX ns with
 |none=>rw [ht]at h;cases h
 |some t=>
  obtain⟨hw,hN,hs⟩:=pR ht
  have hlen:ns.length=t.size:=by rw [hN,t.flat_len]
  have:=t.size_pos
  omega

theorem J3(p:List Int)(hp:p.length≤8000)(i:Nat)(y:List Int)(hy:i+y.length=p.length): ∀(k i1:Nat) (x:List Int) (x1:Nat),i1+k=y.length→0<i1→x.length=p.length→x1+1≤i+i1→x.drop (i+i1-1)=p.drop (i+i1-1)→
  eN i y k i1 x (x1:Int)=some (x.take x1++wW ((p[i+i1-1]?).getD 0) (p.drop (i+i1))):=by
 intro k
 induction k with
 |zero=>
  intro i1 x x1 h1 h0 hx h2 h3
  simp only [eN]
  have hx1:x1≤x.length:=by omega
  rw [xd hx1 (gB _)]
  simp only [bA,Cd,Ab]
  rw [show((0:Int))=((0:Nat):Int)from rfl,xd (jz _) (by simp;omega)]
  simp only [bA,sa]
  have hn:p.drop (i+i1)=[]:=G5 (by omega)
  rw [hn,Io,z8,Cg (by simp;omega),Bv,Nat.min_self]
 |succ k ih=>
  intro i1 x x1 h1 h0 hx h2 h3
  have e1:x[i+i1]? =p[i+i1]? :=by
   have:=congrArg (fun l:List Int=>l[1]?) h3
   simp only [wh]at this
   rwa [show i+i1-1+1=i+i1 from by omega]at this
  have e0:x[i+i1-1]? =p[i+i1-1]? :=by
   have:=congrArg (fun l:List Int=>l[0]?) h3
   simpa only [wh,yP] using this
  have hlt:i+i1<p.length:=by omega
  have g1:Ep x (i:Int) y.length (i1:Int)=some p[i+i1]:=by
   unfold Ep
   rw [bQ (by omega),show(i:Int)+(i1:Int)=((i+i1:Nat):Int)from by omega,cK,e1,nP hlt]
  have g0:Ep x (i:Int) y.length (IntKind.i64.wrap ((i1:Int)-1))=some p[i+i1-1]:=by
   rw [eS (by omega) (by omega)]
   unfold Ep
   rw [bQ (by omega),show(i:Int)+((i1:Int)-1)=((i+i1-1:Nat):Int)from by omega,cK,e0,nP (by omega)]
  have hd:p.drop (i+i1)=p[i+i1]::p.drop (i+i1+1):=ut hlt
  have hp1:(p[i+i1-1]?).getD 0=p[i+i1-1]:=by rw [nP (by omega)];rfl
  simp only [eN,g1,g0,bA]
  rw [hd,hp1]
  by_cases hx2:p[i+i1]=p[i+i1-1]
  ·rw [bI (by simp [hx2])]
   have h3' :x.drop (i+(i1+1)-1)=p.drop (i+(i1+1)-1):=by
    have:=congrArg (List.drop 1) h3
    rwa [vd,vd,show i+i1-1+1=i+(i1+1)-1 from by omega]at this
   rw [ih (i1+1) x x1 (by omega) (by omega) hx (by omega) h3']
   rw [Fn hx2,show i+(i1+1)-1=i+i1 from by omega,nP hlt,show i+(i1+1)=i+i1+1 from by omega]
   rfl
  ·rw [bQ (by simp [hx2]),cK,nP (by omega)]
   simp only [bA,Ab]
   rw [eS (by omega) (by omega),show((x1:Int)+1)=((x1+1:Nat):Int)from by omega]
   have h3' :(x.set x1 p[i+i1]).drop (i+(i1+1)-1)=p.drop (i+(i1+1)-1):=by
    rw [List.drop_set_of_lt (by omega)]
    have:=congrArg (List.drop 1) h3
    rwa [vd,vd,show i+i1-1+1=i+(i1+1)-1 from by omega]at this
   rw [ih (i1+1) _ (x1+1) (by omega) (by omega) (by simpa using hx) (by omega) h3']
   rw [Lw hx2,show i+(i1+1)-1=i+i1 from by omega,nP hlt,show i+(i1+1)=i+i1+1 from by omega]
   have ht:(x.set x1 p[i+i1]).take (x1+1)=x.take x1++[p[i+i1]]:=by
    rw [NJ (by simp;omega),List.take_set_of_le (by omega)]
    simp
   rw [ht]
   simp
theorem J4(p:List Int)(hp:p.length≤8000):kF p=some (Lv p):=by
 unfold kF
 by_cases h2:p.length<2
 ·rw [bQ (by simp;omega)]
  match p,h2 with
  |[],_=>rfl
  |[x],_=>rfl
 ·rw [bI (by simp;omega)]
  have key: ∀(l:List Int) (i:Nat),p.drop i=l→0<i→i≤p.length→Lv p=p.take i++wW ((p[i-1]?).getD 0) (p.drop i)→fz p l i=some (Lv p):=by
   intro l
   induction l with
   |nil=>
    intro i h1 h0 hle h3
    have:=EB.1 h1
    simp only [fz]
    rw [h3,h1,vg (by omega),Io,z8]
   |cons x t ih=>
    intro i h1 h0 hle h3
    have hi:i<p.length:=by
     rcases m2 i p.length with h|h
     ·exact h
     ·rw [G5 h]at h1;cases h1
    have hx:x=p[i]:=by rw [ut hi]at h1;exact(List.cons.inj h1).1.symm
    have ht:p.drop (i+1)=t:=by rw [←vd,h1];rfl
    have hp1:(p[i-1]?).getD 0=p[i-1]:=by rw [nP (by omega)];rfl
    simp only [fz]
    rw [eS (by omega) (by omega),show(i:Int)-1=((i-1:Nat):Int)from by omega,cK,nP (by omega)]
    simp only [bA]
    by_cases he:x=p[i-1]
    ·rw [bQ (by simp [he])]
     rw [xd hle (gB _)]
     simp only [bA,Cd]
     rw [J3 p hp i (p.drop i) (by simp;omega) _ 1 p i (by simp;omega) (by omega) rfl (by omega) (by simp)]
     rw [h3,h1,hp1,Fn he,←ht,hx]
     rw [show i+1-1=i from by omega,nP hi];rfl
    ·rw [bI (by simp [he])]
     refine ih (i+1) ht (by omega) (by omega) ?_
     rw [h3,h1,hp1,Lw he,NJ hi,←ht,hx,show i+1-1=i from by omega,nP hi]
     rw [mV];rfl
  have hpc:p=p[0]::p.drop 1:=by
   have:=ut (l:=p) (i:=0) (by omega)
   simpa using this
  refine key (p.drop 1) 1 rfl (by omega) (by omega) ?_
  have e:(p[1-1]?).getD 0=p[0]:=by simp [nP (show 0<p.length by omega)]
  rw [e]
  conv=>lhs;rw [hpc]
  have e2:p.take 1=[p[0]]:=by
   conv=>lhs;rw [hpc]
   rfl
  rw [e2];rfl

theorem MN(l:List Int)(z:Int):z∈sortI l↔z∈l:=by unfold sortI;simp
theorem yE: ∀(ns:List bD) (out:List Int),out.length+ns.length≤8000→ ∃cs,nk ns out=some cs∧ ∀c,c∈cs↔c∈out∨ ∃n∈ns,n.Tag=2∧n.Col=c
 |[],out,h=>by
  unfold nk Ct
  rw [bQ (by simp at h;omega)]
  simp only [bA]
  rw [J4 _ (by rw [Af];simpa using h)]
  exact⟨_,rfl,fun c=>by rw [MO,MN];simp⟩
 |n::ns,out,h=>by
  simp only [kb]at h
  unfold nk
  by_cases ht:n.Tag=2
  ·rw [bQ (by simp [ht]),du (by simp;omega)]
   simp only [bA]
   obtain⟨cs,h1,h2⟩:=yE ns (out++[n.Col]) (by simp;omega)
   exact⟨cs,h1,fun c=>by rw [h2];simp [ht,or_assoc,eq_comm]⟩
  ·rw [bI (by simp [ht])]
   obtain⟨cs,h1,h2⟩:=yE ns out (by omega)
   exact⟨cs,h1,fun c=>by rw [h2];simp [ht]⟩
theorem GF(e:bp)(h:qZ e.Nodes=true): ∃cs,u5 e=some cs∧ ∀c,c∈cs↔ ∃n∈e.Nodes,n.Tag=2∧n.Col=c:=by
 have hl:=Jm h
 unfold u5
 rw [xR e (by omega),h]
 obtain⟨cs,h1,h2⟩:=yE e.Nodes [] (by simp;omega)
 exact⟨cs,by simpa using h1,fun c=>by rw [h2];simp⟩
def kn(tag l r:Int):Int×Bool:=(q6 tag l r).getD (0,false)
theorem xI(tag l r:Int):q6 tag l r=some (kn tag l r):=by
 unfold kn q6 pG
 simp only [bA]
 repeat' split
 all_goals simp
def k4(k:Int):Prop:=k=0∨k=1∨k=2∨k=3
theorem SO(tag l r:Int):k4 (kn tag l r).1:=by
 unfold kn q6 pG
 simp only [bA]
 repeat' split
 all_goals simp [k4]
theorem Kf(kinds:List Int)(n:bD)(x:Int)(hx:k4 x)(hk:pk n.Tag=some 1):jW kinds n [x]=some (if(kn n.Tag x 0).2 then((kn n.Tag x 0).1,0)else(0,201)):=by
 obtain⟨tag,L,R,col,v⟩:=n
 have ht:tag=4∨tag=5∨tag=6∨tag=7:=by
  unfold pk at hk
  repeat' split at hk
  all_goals simp at hk
  rename_i h
  have h:4≤tag∧tag≤7:=h
  omega
 rcases ht with rfl|rfl|rfl|rfl<;>rcases hx with rfl|rfl|rfl|rfl<;>rfl
theorem Ke(kinds:List Int)(n:bD)(x y:Int)(hx:k4 x)(hy:k4 y)(hk:pk n.Tag=some 2):jW kinds n [x,y]=some (if(kn n.Tag x y).2 then((kn n.Tag x y).1,0)else(0,201)):=by
 obtain⟨tag,L,R,col,v⟩:=n
 have ht:tag=12∨tag=13∨tag=14∨tag=15∨tag=16∨tag=17∨tag=18∨tag=19∨tag=20∨tag=21∨tag=22∨tag=23:=by
  unfold pk at hk
  repeat' split at hk
  all_goals simp at hk
  rename_i h
  have h:12≤tag∧tag≤23:=h
  omega
 rcases ht with rfl|rfl|rfl|rfl|rfl|rfl|rfl|rfl|rfl|rfl|rfl|rfl<;>rcases hx with rfl|rfl|rfl|rfl<;>rcases hy with rfl|rfl|rfl|rfl<;>rfl
def kd(kinds:List Int):Tr→Option Int
 | .lf n=>if n.Tag=1 then some n.Value.Kind else some ((kinds[n.Col.toNat]?).getD 0)
 | .un n a=>(kd kinds a).bind fun x=>if(kn n.Tag x 0).2 then some (kn n.Tag x 0).1 else none
 | .bi n a b=>(kd kinds a).bind fun x=>(kd kinds b).bind fun y=>if(kn n.Tag x y).2 then some (kn n.Tag x y).1 else none
theorem OA(kinds:List Int)(n:bD)(a:Tr):kd kinds (.un n a)=(kd kinds a).bind fun x=>if(kn n.Tag x 0).2 then some (kn n.Tag x 0).1 else none:=rfl
theorem KV(kinds:List Int)(n:bD)(a b:Tr):kd kinds (.bi n a b)=(kd kinds a).bind fun x=>(kd kinds b).bind fun y=>if(kn n.Tag x y).2 then some (kn n.Tag x y).1 else none:=rfl
def Fo(m:Nat):Tr→Prop
 | .lf n=>n.Tag=2→n.Col<m
 | .un _ a=>Fo m a
 | .bi _ a b=>Fo m a∧Fo m b
theorem pk0{tag:Int}(h:pk tag=some 0):tag=1∨tag=2:=by
 unfold pk at h
 repeat' split at h
 all_goals simp at h
 assumption
theorem X7(h:G3 n=true)(ht:n.Tag=1):yr n.Value=true:=by
 have h2:=kf n
 rw [h]at h2
 unfold lV at h2
 rw [bQ (by simp [ht]),s8]at h2
 simp at h2
 exact h2.1
theorem V8(h:G3 n=true)(ht:n.Tag=2):0≤n.Col∧n.Col<16:=by
 have h2:=kf n
 rw [h]at h2
 unfold lV at h2
 rw [bI (by simp [ht]),bQ (by simp [ht])]at h2
 simp at h2
 exact⟨h2.1.2,h2.2⟩
theorem KU{kinds:List Int}(hk: ∀k∈kinds,k4 k): ∀(t:Tr),t.wf→ ∀{k},kd kinds t=some k→k4 k
 | .lf n,⟨h1,h2,_,_⟩,k,h=>by
  unfold kd at h
  split at h
  ·rename_i ht
   have:=HD (X7 h2 ht)
   cases h;unfold k4;omega
  ·injection h with h
   subst h
   cases hc:kinds[n.Col.toNat]? with
   |none=>exact .inl rfl
   |some z=>exact hk z (qS hc)
 | .un n a,_,k,h=>by
  unfold kd at h
  cases ha:kd kinds a with
  |none=>rw [ha]at h;cases h
  |some x=>
   rw [ha,bA]at h
   split at h
   ·cases h;exact SO ..
   ·cases h
 | .bi n a b,_,k,h=>by
  unfold kd at h
  cases ha:kd kinds a with
  |none=>rw [ha]at h;cases h
  |some x=>
   cases hb:kd kinds b with
   |none=>rw [ha,hb]at h;cases h
   |some y=>
    rw [ha,hb]at h
    simp only [bA]at h
    split at h
    ·cases h;exact SO ..
    ·cases h
theorem Ju(stack l:List Int)(h:stack.length+l.length≤100000):py (stack++l) (l.length:Int)=some (l,stack):=by
 unfold py dA
 have e:IntKind.i64.wrap (((stack++l).length:Int)-(l.length:Int))=(stack.length:Int):=by
  rw [mt,eS (by omega) (by omega)];omega
 rw [e,j3 stack.length (stack++l).length rfl rfl (by simp) (gB _)]
 simp only [bA,Cd,Hb (gB _),List.drop_length,nv]
 rw [du (by simp;omega)]
 simp only [bA,nv]
 rw [j3 (i:=0) 0 stack.length rfl rfl (jz _) (by simp)]
 simp
theorem HG(stack:List Int){b:Int}(h:b≠0):mP b stack=some (0,b):=by
 unfold mP;rw [bQ (by simpa using h)]
theorem uG{tag:Int}{k:Nat}(h:pk tag=some k):rj tag=some (k:Int):=by
 rw [xQ];unfold F5;rw [h]
theorem MB(kinds:List Int)(hk: ∀k∈kinds,k4 k)(t:Tr):t.wf→Fo kinds.length t→ ∀(s:Nat) (rest:List bD) (stack:List Int),stack.length+t.size≤50000→
  ip (jW kinds) (t.flat s++rest) 0 stack=match kd kinds t with
   |some k=>ip (jW kinds) rest 0 (stack++[k])
   |none=>some (0,201):=by
 induction t with
 |lf n=>
  intro⟨h1,h2,h3,h4⟩ hc s rest stack hl
  simp only [Tr.flat,Tr.size,yM,nv]at hl ⊢
  rw [ip]
  have e1:(lG n (-1) (-1)).Tag=n.Tag:=rfl
  rw [e1,uG h1]
  have h0:=Ju stack [] (by simp;omega)
  simp only [z8,xv]at h0
  simp only [bA]
  rw [h0]
  simp only [bA]
  have hv:jW kinds (lG n (-1) (-1)) []=(kd kinds (.lf n)).map (fun k=>(k,(0:Int))):=by
   unfold jW mR kd
   simp only [e1]
   rcases pk0 h1 with ht|ht
   ·rw [bQ (by simp [ht]),bQ ht];rfl
   ·rw [bI (by simp [ht]),bQ (by simp [ht]),bI (by simp [ht])]
    have hb:=V8 h2 ht
    have hm:n.Col<kinds.length:=hc ht
    have e2:(lG n (-1) (-1)).Col=n.Col:=rfl
    rw [e2,gR n.Col.toNat (by omega),nP (by omega)]
    rfl
  rw [hv]
  have: ∃k,kd kinds (.lf n)=some k:=by unfold kd;split<;>exact⟨_,rfl⟩
  obtain⟨k,hk1⟩:=this
  rw [hk1]
  simp only [Ch,bA]
  rw [bI (by simp),du (by simp;omega)]
  rfl
 |un n a ih=>
  intro⟨⟨h1,h2,h3,h4⟩,ha⟩ hc s rest stack hl
  simp only [Tr.flat,Tr.size,mV]at hl ⊢
  rw [OA,ih ha hc s _ stack (by omega)]
  cases hx:kd kinds a with
  |none=>rfl
  |some x=>
   have hx4:=KU hk a ha hx
   simp only [bA,yM,nv]
   rw [ip]
   have e1:(lG n (((s+a.size:Nat):Int)-1) (-1)).Tag=n.Tag:=rfl
   rw [e1,uG h1]
   have h0:=Ju stack [x] (by simp;omega)
   simp only [bA]
   have e0:(([x]:List Int).length:Int)=((1:Nat):Int):=rfl
   rw [←e0,h0]
   simp only [bA]
   rw [Kf kinds _ x hx4 (by rw [e1];exact h1),e1]
   cases hb:(kn n.Tag x 0).2 with
   |true=>
    simp only [nt,bA]
    rw [bI (by simp),du (by simp;omega)]
    rfl
   |false=>
    simp only [uK,qa,bA]
    rw [bQ (by decide),HG _ (by decide)]
 |bi n a b iha ihb=>
  intro⟨⟨h1,h2,h3,h4⟩,ha,hb⟩ ⟨hca,hcb⟩ s rest stack hl
  simp only [Tr.flat,Tr.size,mV]at hl ⊢
  rw [KV,iha ha hca s _ stack (by omega)]
  cases hx:kd kinds a with
  |none=>rfl
  |some x=>
   have hx4:=KU hk a ha hx
   simp only [bA]
   rw [ihb hb hcb (s+a.size) _ (stack++[x]) (by have:=a.size_pos;simp;omega)]
   cases hy:kd kinds b with
   |none=>rfl
   |some y=>
    have hy4:=KU hk b hb hy
    have hap:=a.size_pos
    simp only [bA,yM,nv]
    rw [ip]
    have e1:(lG n (((s+a.size:Nat):Int)-1) (((s+a.size+b.size:Nat):Int)-1)).Tag=n.Tag:=rfl
    rw [e1,uG h1]
    have h0:=Ju stack [x,y] (by simp;omega)
    simp only [bA]
    have e0:(([x,y]:List Int).length:Int)=((2:Nat):Int):=rfl
    have e9:stack++[x]++[y]=stack++[x,y]:=by simp
    rw [←e0,e9,h0]
    simp only [bA]
    rw [Ke kinds _ x y hx4 hy4 (by rw [e1];exact h1),e1]
    cases hb:(kn n.Tag x y).2 with
    |true=>
     simp only [nt,bA]
     rw [bI (by simp),du (by simp;omega)]
     rfl
    |false=>
     simp only [uK,qa,bA]
     rw [bQ (by decide),HG _ (by decide)]
theorem N9(kinds:List Int)(hk: ∀k∈kinds,k4 k)(t:Tr):t.wf→Fo kinds.length t→ ∀(rest:List bD) (own:List Int),own.length+t.size≤50000→
  (kd kinds t=none∧dG kinds (t.flat own.length++rest) own=some (0,201))∨
  (∃k w,kd kinds t=some k∧w.length+1=t.size∧dG kinds (t.flat own.length++rest) own=dG kinds rest (own++w++[k])):=by
 induction t with
 |lf n=>
  intro⟨h1,h2,h3,h4⟩ hc rest own hl
  simp only [Tr.flat,Tr.size,yM,nv]at hl ⊢
  refine .inr ?_
  have e1:(lG n (-1) (-1)).Tag=n.Tag:=rfl
  unfold kd
  rcases pk0 h1 with ht|ht
  ·refine⟨_,[],bQ ht,rfl,?_⟩
   rw [dG]
   rw [e1,bQ (by simp [ht]),du (by simp;omega)]
   simp only [bA,z8]
   rfl
  ·refine⟨_,[],bI (by simp [ht]),rfl,?_⟩
   have hb:=V8 h2 ht
   have hm:n.Col<kinds.length:=hc ht
   have e2:(lG n (-1) (-1)).Col=n.Col:=rfl
   rw [dG]
   rw [e1,bI (by simp [ht]),bQ (by simp [ht]),e2,gR n.Col.toNat (by omega),nP (by omega)]
   simp only [bA,z8,Option.getD_some]
   rw [du (by simp;omega)]
   rfl
 |un n a ih=>
  intro⟨⟨h1,h2,h3,h4⟩,ha⟩ hc rest own hl
  have hap:=a.size_pos
  simp only [Tr.flat,Tr.size,mV]at hl ⊢
  rcases ih ha hc ([lG n (((own.length+a.size:Nat):Int)-1) (-1)]++rest) own (by omega)with⟨hx,he⟩|⟨x,w,hx,hw,he⟩
  ·exact .inl ⟨by rw [OA,hx];rfl,by rw [he]⟩
  ·rw [he]
   rw [OA,hx]
   simp only [bA,yM,nv]
   have e1:(lG n (((own.length+a.size:Nat):Int)-1) (-1)).Tag=n.Tag:=rfl
   have n1:n.Tag≠1:=fun h=>by rw [h]at h1;simp [pk]at h1
   have n2:n.Tag≠2:=fun h=>by rw [h]at h1;simp [pk]at h1
   have hstep:dG kinds (lG n (((own.length+a.size:Nat):Int)-1) (-1)::rest) (own++w++[x])=if(kn n.Tag x 0).2 then dG kinds rest (own++w++[x]++[(kn n.Tag x 0).1])else some (0,201):=by
    rw [dG]
    rw [e1,bI (by simpa using n1),bI (by simpa using n2)]
    have eL:(lG n (((own.length+a.size:Nat):Int)-1) (-1)).L=((own.length+a.size:Nat):Int)-1:=rfl
    have eR:(lG n (((own.length+a.size:Nat):Int)-1) (-1)).R= -1:=rfl
    rw [eL,eR,gR (own++w).length (by simp;omega),uu (gB _),wo]
    simp only [EC,bA]
    rw [bI (by decide)]
    unfold pm
    rw [e1,xI]
    simp only [bA]
    cases hb:(kn n.Tag x 0).2 with
    |true=>
     simp only [tF,uK,qa,nt]
     rw [du (by simp;omega)];rfl
    |false=>rfl
   rw [hstep]
   cases hb:(kn n.Tag x 0).2 with
   |true=>exact .inr ⟨(kn n.Tag x 0).1,w++[x],by simp,by simp;omega,by simp⟩
   |false=>exact .inl ⟨by simp,by simp⟩
 |bi n a b iha ihb=>
  intro⟨⟨h1,h2,h3,h4⟩,ha,hb⟩ ⟨hca,hcb⟩ rest own hl
  have hap:=a.size_pos
  have hbp:=b.size_pos
  simp only [Tr.flat,Tr.size,mV]at hl ⊢
  obtain⟨m,hm⟩: ∃m,m=lG n (((own.length+a.size:Nat):Int)-1) (((own.length+a.size+b.size:Nat):Int)-1):=⟨_,rfl⟩
  rw [←hm]
  rcases iha ha hca (b.flat (own.length+a.size)++([m]++rest)) own (by omega)with⟨hx,he⟩|⟨x,w,hx,hw,he⟩
  ·exact .inl ⟨by rw [KV,hx];rfl,by rw [he]⟩
  ·rw [he]
   have hl2:(own++w++[x]).length=own.length+a.size:=by simp;omega
   rw [←hl2]
   rcases ihb hb hcb ([m]++rest) (own++w++[x]) (by rw [hl2];omega)with⟨hy,he2⟩|⟨y,w2,hy,hw2,he2⟩
   ·exact .inl ⟨by rw [KV,hx,hy];rfl,by rw [he2]⟩
   ·rw [he2]
    rw [KV,hx,hy]
    simp only [bA,yM,nv]
    have e1:m.Tag=n.Tag:=by rw [hm];rfl
    have eL:m.L=((own.length+a.size:Nat):Int)-1:=by rw [hm];rfl
    have eR:m.R=((own.length+a.size+b.size:Nat):Int)-1:=by rw [hm];rfl
    have n1:n.Tag≠1:=fun h=>by rw [h]at h1;simp [pk]at h1
    have n2:n.Tag≠2:=fun h=>by rw [h]at h1;simp [pk]at h1
    have hstep:dG kinds (m::rest) (own++w++[x]++w2++[y])=if(kn n.Tag x y).2 then dG kinds rest (own++w++[x]++w2++[y]++[(kn n.Tag x y).1])else some (0,201):=by
     rw [dG]
     rw [e1,bI (by simpa using n1),bI (by simpa using n2)]
     rw [eL,eR,gR (own++w).length (by simp;omega)]
     have g1:(own++w++[x]++w2++[y])[(own++w).length]? =some x:=by
      rw [mV,mV,uu (gB _),wo];rfl
     rw [g1]
     simp only [bA]
     rw [bQ (by rw [oU];omega),gR (own++w++[x]++w2).length (by simp;omega)]
     have g2:(own++w++[x]++w2++[y])[(own++w++[x]++w2).length]? =some y:=by
      rw [uu (gB _),wo];rfl
     rw [g2]
     simp only [bA]
     unfold pm
     rw [e1,xI]
     simp only [bA]
     cases hb:(kn n.Tag x y).2 with
     |true=>
      simp only [tF,uK,qa,nt]
      rw [du (by simp;omega)];rfl
     |false=>rfl
    rw [hstep]
    cases hb:(kn n.Tag x y).2 with
    |true=>exact .inr ⟨(kn n.Tag x y).1,w++[x]++w2++[y],by simp,by simp;omega,by simp⟩
    |false=>exact .inl ⟨by simp,by simp⟩
def rk(m:Nat)(ns:List bD):Bool:=ns.all fun n=> !((n.Tag==2)&&decide ((m:Int)≤n.Col))
theorem Ip(m:Nat)(n:bD)(ns:List bD):rk m (n::ns)=(!((n.Tag==2)&&decide ((m:Int)≤n.Col))&&rk m ns):=rfl
theorem Bo(m:Nat)(t:Tr):t.wf→ ∀s,rk m (t.flat s)=true→Fo m t:=by
 induction t with
 |lf n=>
  intro _ s h ht
  simp only [rk,Tr.flat,yI,List.all_nil,Bool.and_true]at h
  have e1:(lG n (-1) (-1)).Tag=n.Tag:=rfl
  have e2:(lG n (-1) (-1)).Col=n.Col:=rfl
  simp [e1,e2,ht]at h
  exact h
 |un n a ih=>
  intro⟨_,ha⟩ s h
  simp only [rk,Tr.flat,List.all_append,iz]at h
  exact ih ha s h.1
 |bi n a b iha ihb=>
  intro⟨_,ha,hb⟩ s h
  simp only [rk,Tr.flat,List.all_append,iz]at h
  exact⟨iha ha s h.1.1,ihb hb _ h.1.2⟩
def OB(kinds:List Int):Bool:=kinds.all fun k=>decide (0≤k)&&decide (k≤3)
theorem HY(k:Int)(ks:List Int):OB (k::ks)=((decide (0≤k)&&decide (k≤3))&&OB ks):=rfl
theorem Gg{kinds:List Int}(h:OB kinds=true){k:Int}(hk:k∈kinds):k4 k:=by
 have:=m3.1 h k hk
 simp at this
 unfold k4;omega
def gV(e:bp)(kinds:List Int):Int×Int:=
 if qZ e.Nodes then if OB kinds then if rk kinds.length e.Nodes then match (qX e.Nodes).bind (kd kinds)with
  |some k=>(k,0)
  |none=>(0,201)else(0,2)else(0,2)else(0,200)
theorem DN(e:bp)(kinds:List Int): ∀cs:List Int,nj e kinds cs=if cs.all (fun c=>decide (c<(kinds.length:Int)))then pp e (jW kinds)else some (0,2)
 |[]=>by
  unfold nj
  cases pp e (jW kinds)<;>rfl
 |c::cs=>by
  unfold nj
  rw [DN e kinds cs]
  by_cases h:(kinds.length:Int)≤c
  ·rw [bQ (by simpa using h),bI (by simp;omega)]
  ·rw [bI (by simpa using h)]
   have:c<(kinds.length:Int):=by omega
   simp [this]
theorem o9(e:bp)(kinds:List Int)(hl:e.Nodes.length≤50000):nL e kinds=some (gV e kinds):=by
 unfold nL gV
 rw [xR e (by omega)]
 cases hr:qZ e.Nodes with
 |false=>rfl
 |true=>
  simp only [nt,bA]
  rw [bI (by decide)]
  have key: ∀ks:List Int,qI e kinds ks=if OB ks then(u5 e).bind (nj e kinds)else some (0,2):=by
   intro ks
   induction ks with
   |nil=>rfl
   |cons k ks ih=>
    unfold qI
    rw [ih]
    by_cases h:k<0∨3<k
    ·rw [bQ (by simpa using h),bI (by simp [OB];omega)]
    ·rw [bI (by simpa using h)]
     have h1:(decide (0≤k)&&decide (k≤3))=true:=by simp;omega
     rw [HY,h1,nQ]
  rw [key]
  cases hk:OB kinds with
  |false=>rfl
  |true=>
   simp only [nt]
   obtain⟨cs,h1,h2⟩:=GF e hr
   rw [h1,bA,DN]
   have hci:cs.all (fun c=>decide (c<(kinds.length:Int)))=rk kinds.length e.Nodes:=by
    rw [xu]
    simp only [m3,oU,rk,xX,Bool.and_eq_false_iff,beq_eq_false_iff_ne,D1]
    constructor
    ·intro h n hn
     by_cases ht:n.Tag=2
     ·exact .inr (by have:=h _ ((h2 n.Col).2 ⟨n,hn,ht,rfl⟩);omega)
     ·exact .inl ht
    ·intro h c hc
     obtain⟨n,hn,ht,rfl⟩:=(h2 c).1 hc
     rcases h n hn with h|h
     ·exact absurd ht h
     ·omega
   rw [hci]
   cases hc:rk kinds.length e.Nodes with
   |false=>rfl
   |true=>
    simp only [nt]
    cases ht:qX e.Nodes with
    |none=>unfold qZ at hr;rw [ht]at hr;cases hr
    |some t=>
     obtain⟨hw,hN,hs⟩:=pR ht
     have hct:=Bo kinds.length t hw 0 (by rw [←hN];exact hc)
     have:=MB kinds (fun k=>Gg hk) t hw hct 0 [] [] (by simp;omega)
     rw [z8,←hN]at this
     unfold pp
     rw [this]
     simp only [bA]
     cases kd kinds t with
     |none=>rfl
     |some k=>rfl
theorem rp(e:bp)(kinds:List Int):q7 e kinds=some (gV e kinds):=by
 unfold q7 gV
 rw [CP e]
 cases hr:qZ e.Nodes with
 |false=>rfl
 |true=>
  simp only [nt,bA,tF,uK,qa]
  have Az: ∀ns:List bD,nG e kinds ns=if rk kinds.length ns then dG kinds e.Nodes []else some (0,2):=by
   intro ns
   induction ns with
   |nil=>rfl
   |cons n ns ih=>
    unfold nG
    rw [ih,Ip]
    cases ((n.Tag==2)&&decide ((kinds.length:Int)≤n.Col))<;>simp
  have key: ∀ks:List Int,pl e kinds ks=if OB ks then nG e kinds e.Nodes else some (0,2):=by
   intro ks
   induction ks with
   |nil=>rfl
   |cons k ks ih=>
    unfold pl
    rw [ih]
    by_cases h:k<0∨3<k
    ·rw [bQ (by simpa using h),bI (by simp [OB];omega)]
    ·rw [bI (by simpa using h)]
     have h1:(decide (0≤k)&&decide (k≤3))=true:=by simp;omega
     rw [HY,h1,nQ]
  rw [key,Az]
  cases hk:OB kinds with
  |false=>rfl
  |true=>
   cases hc:rk kinds.length e.Nodes with
   |false=>rfl
   |true=>
    simp only [nt]
    cases ht:qX e.Nodes with
    |none=>unfold qZ at hr;rw [ht]at hr;cases hr
    |some t=>
     obtain⟨hw,hN,hs⟩:=pR ht
     have hct:=Bo kinds.length t hw 0 (by rw [←hN];exact hc)
     have:=N9 kinds (fun k=>Gg hk) t hw hct [] [] (by simp;omega)
     rw [z8,xv,←hN]at this
     simp only [bA]
     rcases this with⟨h1,h2⟩|⟨k,w,h1,h2,h3⟩
     ·rw [h1,h2]
     ·rw [h1,h3]
      unfold dG
      have hls:t.size≤1000:=hs
      rw [nv,gR w.length (by rw [eS (by simp<;>omega) (by simp<;>omega)];simp),uu (gB _),wo]
      rfl

theorem lE{tl:List α}{i:Nat}{y:α}(h:xs.drop i=y::tl):dC xs (i:Int)=some y∧i<xs.length∧xs.drop (i+1)=tl:=by
 have hi:i<xs.length:=by
  rcases m2 i xs.length with h1|h1
  ·exact h1
  ·rw [G5 h1]at h;cases h
 rw [ut hi]at h
 injection h with h1 h2
 exact⟨by rw [cK,nP hi,h1],hi,h2⟩
theorem tq{i:Nat}(h:xs.drop i=[]):xs.length≤i:=EB.1 h
theorem va{f:kW→Option Bool}{g:kW→Bool}(hf: ∀v,f v=some (g v)): ∀(l:List kW) (i:Nat),∃j:Int,ej f l i=some j∧decide (0≤j)=l.any g
 |[],i=>⟨-1,rfl,rfl⟩
 |e::l,i=>by
  unfold ej
  rw [hf,bA]
  cases h:g e with
  |true=>exact⟨(i:Int),by simp,by simp [h]⟩
  |false=>
   obtain⟨j,h1,h2⟩:=va hf l (i+1)
   exact⟨j,by simpa using h1,by rw [h2];simp [h]⟩
theorem sn{f:kW→Option Bool}{g:kW→Bool}(hf: ∀v,f v=some (g v))(l:List kW):fj l f=some (l.any g):=by
 unfold fj iC
 obtain⟨j,h1,h2⟩:=va hf l 0
 rw [h1,bA,h2]
theorem nr(l:List Int)(h:l.length≤68719476736):dA l=some l:=by
 unfold dA
 rw [du (by simpa using h)];rfl
theorem SD(n:Int)(h0:0≤n)(h:n≤68719476736):mv n=some []:=by
 unfold mv m5
 rw [bI (by simp;omega)]
 have e:IntKind.i64.wrap (n-IntKind.i64.wrap ((0:Int)-0))=n:=by
  rw [eS (n:=(0:Int)-0) (by omega) (by omega),eS (by omega) (by omega)];omega
 rw [e]
 by_cases hp:0<n
 ·rw [bQ (by simpa using hp)]
  unfold XJ Cn
  rw [bQ hp]
  simp only [bA]
  rw [bQ ⟨h0,h⟩]
  simp only [bA]
  rw [show dw (List.replicate n.toNat (0:Int)) 0 0=some []from by unfold dw;rw [bQ (by simp;omega)];simp]
  rfl
 ·rw [bI (by simpa using hp)];rfl
theorem DU(a b:List Int)(ha:a.length≤8000)(hb:b.length≤8000):jo [a,b]=some (a++b):=by
 unfold jo
 simp only [jB]
 rw [eS (n:=(0:Int)+(a.length:Int)) (by omega) (by omega),bI (by simp),eS (by omega) (by omega),bI (by simp;omega),SD _ (by omega) (by omega)]
 simp only [bA,jA]
 rw [du (by simp;omega)]
 simp only [bA,nv]
 rw [du (by omega)]
 rfl
structure jX(n:aw):Prop where
 cond:n.Cond.Nodes.length≤5000
 kinds:n.Kinds.length≤5000
 keys:n.Keys.length≤5000
 aggs:n.Aggs.length≤5000
 items:n.Items.length≤5000
 order:n.Order.length≤5000
 args: ∀g∈n.Aggs,g.Arg.Nodes.length≤5000
 exprs: ∀e∈n.Items,e.Nodes.length≤5000
def L6(e:bp)(kinds:List Int):Bool:=(gV e kinds).2==0&&((gV e kinds).1==1||(gV e kinds).1==0)
theorem wB(e:bp)(kinds:List Int):rN e kinds=some (L6 e kinds):=by
 unfold rN L6
 rw [rp e kinds]
 simp only [bA,Bool.or_comm]
def Ka(a:gm)(kinds:List Int):Int×Bool:=(lM a kinds).getD (0,false)
theorem yl(a:gm)(kinds:List Int):lM a kinds=some (Ka a kinds):=by
 unfold Ka lM
 rw [rp]
 simp only [bA]
 repeat' split
 all_goals rfl
def ND(a:List Int)(e:Int):Int:=(a[e.toNat]?).getD 0
def wH(a:List Int)(e:Int):Bool:=decide (e<0)||decide ((a.length:Int)≤e)
theorem JM{a:List Int}{e:Int}(h:wH a e=false):dC a e=some (ND a e):=by
 simp [wH]at h
 rw [gR e.toNat (by omega),nP (by omega)]
 unfold ND
 rw [nP (by omega)];rfl
def FN(x y:Int):Int:=if x=0 then y else x
def BF(p:Int×Int):Bool:=(p.2==FN p.1 p.2)||p.2==0
end Go.Proofs.YtmogpgcfognefaaGreatDoor

