/- cR of this claim: K1, K2, K3, K4, L1. -/
import Derived.Test.YtnmjbolollcokaaGreatDoorRcF
import Derived.KernelRfl
import Derived.Test.YtnmjbolollcokaaGreatDoorRcV4
set_option linter.all false
namespace Go.Proofs.YtnmjbolollcokaaGreatDoor
open Go

abbrev Row:=List cB
variable{α:Type}{xs:List α}
theorem ca{ys:List α}(h:xs.length+ys.length≤68719476736):iC xs ys=some (xs++ys):=bm h
def xy(v:cB):Bool:=(nM v).getD false
theorem Cj(v:cB):nM v=some (xy v):=by
 unfold xy nM
 repeat' split
 all_goals rfl
theorem BS(v:cB):sf v=some (if xy v then 0 else 120):=by
 obtain⟨k,n,u,s⟩:=v
 unfold xy nM sf vi
 simp only [jg,oe,od,oc]
 by_cases h0:k=0
 ·subst h0;simp
  repeat' split
  all_goals simp_all
 by_cases h1:k=1
 ·subst h1
  by_cases n0:n=0
  ·subst n0;simp
   repeat' split
   all_goals simp_all
  by_cases n1:n=1
  ·subst n1;simp
   repeat' split
   all_goals simp_all
  simp [n0,n1]
 by_cases h2:k=2
 ·subst h2;simp
  repeat' split
  all_goals simp_all
 by_cases h3:k=3
 ·subst h3;simp
  repeat' split
  all_goals simp_all
 by_cases h4:k=4
 ·subst h4;simp
  repeat' split
  all_goals simp_all
 simp [h0,h1,h2,h3,h4]

structure Cmp{α:Type}(f:α→α→Int):Prop where
 rng: ∀x y,f x y= -1∨f x y=0∨f x y=1
 anti: ∀x y,f y x= -f x y
 eq: ∀x y,f x y=0↔x=y
 trans: ∀x y z,f x y≤0→f y z≤0→f x z≤0
def key(v:cB):Int×Int×Int×gV:=(v.Kind,v.N,v.U,v.S)

section
variable{f:α→α→Int}
def ltB(f:α→α→Int)(x y:α):Bool:=decide (f x y<0)
def Tx(f:α→α→Int)(l:List α):List α:=QJ (ltB f) l
def put(f:α→α→Int)(x:α):List α→List α
 |[]=>[x]
 |y::l=>if f x y<0 then x::y::l else y::put f x l
end
def wb{α:Type} [DecidableEq α]:α→List α→List α
 |_,[]=>[]
 |p,x::t=>if x=p then wb x t else x::wb x t
theorem HI [DecidableEq α](p:α):wb p []=[]:=by unfold wb;rfl
theorem Eu [DecidableEq α]{p x:α}(h:x=p)(t:List α):wb p (x::t)=wb x t:=by
 conv=>lhs;unfold wb
 rw [bm h]
theorem Kt [DecidableEq α]{p x:α}(h: ¬x=p)(t:List α):wb p (x::t)=x::wb x t:=by
 conv=>lhs;unfold wb
 rw [bg h]
def Ks{α:Type} [DecidableEq α]:List α→List α
 |[]=>[]
 |x::t=>x::wb x t
theorem CF{α:Type} [DecidableEq α]: ∀(p:α) (l:List α) (z:α),z∈wb p l→z∈l
 |p,x::t,z,h=>by
  unfold wb at h
  split at h
  ·exact nE _ (CF x t z h)
  ·rcases gz.1 h with rfl|h
   ·exact nm ..
   ·exact nE _ (CF x t z h)
theorem Cr{α:Type} [DecidableEq α]: ∀(p:α) (l:List α) (z:α),z∈l→z=p∨z∈wb p l
 |p,x::t,z,h=>by
  unfold wb
  by_cases hx:x=p
  ·rw [bm hx]
   rcases gz.1 h with rfl|h
   ·exact .inl hx
   ·rcases Cr x t z h with h|h
    ·exact .inl (h.trans hx)
    ·exact .inr h
  ·rw [bg hx]
   rcases gz.1 h with rfl|h
   ·exact .inr (nm ..)
   ·rcases Cr x t z h with h|h
    ·exact .inr (by rw [h];exact nm ..)
    ·exact .inr (nE _ h)
theorem LB [DecidableEq α](l:List α)(z:α):z∈Ks l↔z∈l:=by
 cases l with
 |nil=>exact Iff.rfl
 |cons x t=>
  constructor
  ·intro h
   rcases gz.1 h with rfl|h
   ·exact nm ..
   ·exact nE _ (CF x t z h)
  ·intro h
   rcases gz.1 h with rfl|h
   ·exact nm ..
   ·rcases Cr x t z h with rfl|h
    ·exact nm ..
    ·exact nE _ h

structure Small(l:List Row):Prop where
 len:l.length≤8000
 row: ∀r∈l,r.length≤1000
theorem bP{n:Int}(h: -9223372036854775808≤n)(h2:n≤9223372036854775807):IntKind.i64.wrap n=n:=by rw [C0];omega
theorem wm{l m:Nat}(h:l≤m)(h2:m≤xs.length):d6 xs (l:Int) (m:Int)=some ((xs.take m).drop l):=by
 unfold d6
 rw [bm (by omega)]
 simp

theorem jE{i j:Int}(l m:Nat)(hi:i=(l:Int))(hj:j=(m:Int))(h:l≤m)(h2:m≤xs.length):d6 xs i j=some ((xs.take m).drop l):=by
 subst hi hj;exact wm h h2
theorem kj{i:Int}(k:Nat)(hi:i=(k:Int)):cK xs i=xs[k]? :=by subst hi;exact cg _ _
def xJ(v:cB):Bool:=xy v&&(v.Kind !=4)
theorem BR(v:cB):se v=some (xJ v):=by
 unfold se xJ
 rw [BS]
 cases xy v<;>simp
theorem rn(v:cB):vF v=some (xJ v):=by
 unfold vF xJ
 rw [Cj]
 rfl
theorem GY{v:cB}(h:xJ v=true):0≤v.Kind∧v.Kind≤3:=by
 obtain⟨k,n,u,s⟩:=v
 unfold xJ xy nM at h
 simp only [jD,sa,ne_eq]at h
 obtain⟨h1,h2⟩:=h
 by_cases h0:k=0
 ·simp [h0]
 by_cases k1:k=1
 ·simp [k1]
 by_cases k2:k=2
 ·simp [k2]
 by_cases k3:k=3
 ·simp [k3]
 simp [h0,k1,k2,k3,h2]at h1
def pk(tag:Int):Option Nat:=if tag=1∨tag=2 then some 0 else if 4≤tag∧tag≤7 then some 1 else if 12≤tag∧tag≤23 then some 2 else none
def Fa(tag:Int):Int:=match pk tag with
 |some k=>(k:Int)
 |none=> -1
theorem xd(tag:Int):pA tag=some (Fa tag):=by
 unfold pA Fa pk
 by_cases h1:tag=1∨tag=2
 ·rw [bm h1,bm (by simpa using h1)];rfl
 rw [bg h1,bg (by simpa using h1)]
 by_cases h2:4≤tag∧tag≤7
 ·rw [bm h2,bm (by simpa using h2)];rfl
 rw [bg h2,bg (by simpa using h2)]
 by_cases h3:12≤tag∧tag≤23
 ·rw [bm h3,bm (by simpa using h3)];rfl
 rw [bg h3,bg (by simpa using h3)]
theorem ox(tag:Int):vD tag=some (Fa tag):=by
 unfold vD AC Fa pk
 by_cases h1:tag=1∨tag=2
 ·rw [bm h1];rcases h1 with rfl|rfl<;>rfl
 rw [bg h1]
 by_cases h2:4≤tag∧tag≤7
 ·rw [bm h2]
  have:tag=4∨tag=5∨tag=6∨tag=7:=by omega
  rcases this with rfl|rfl|rfl|rfl<;>rfl
 rw [bg h2]
 by_cases h3:12≤tag∧tag≤23
 ·rw [bm h3,bg (by simp;omega),bg (by simp;omega),bg (by simp;omega),bg (by simp;omega)];rfl
 rw [bg h3]
 by_cases h4:tag=3∨(8≤tag∧tag≤11)
 ·rw [bm (by simpa using h4)]
 rw [bg (by simpa using h4),bm (by simp;omega)]
 rfl
def F4(n:aU):Bool:=(k7 n).getD false
theorem iy(n:aU):k7 n=some (F4 n):=by
 unfold F4 k7
 rw [rn]
 split
 ·rfl
 ·split<;>rfl
theorem CD(n:aU):sI n=some (F4 n):=by
 rw [←iy]
 unfold sI k7
 rw [rn,BR]
inductive Tr where
 |lf (n:aU)
 |un (n:aU) (a:Tr)
 |bi (n:aU) (a b:Tr)
 deriving Inhabited
def Tr.size:Tr→Nat
 | .lf _=>1
 | .un _ a=>a.size+1
 | .bi _ a b=>a.size+b.size+1
def fD(n:aU)(l r:Int):aU:={n with L:=l,R:=r}
def Tr.flat:Tr→Nat→List aU
 | .lf n,_=>[fD n (-1) (-1)]
 | .un n a,s=>a.flat s++[fD n ((s+a.size:Nat)-1) (-1)]
 | .bi n a b,s=>a.flat s++b.flat (s+a.size)++[fD n ((s+a.size:Nat)-1) ((s+a.size+b.size:Nat)-1)]
def RL(k:Nat)(n:aU):Prop:=pk n.Tag=some k∧F4 n=true∧n.L= -1∧n.R= -1
def Tr.wf:Tr→Prop
 | .lf n=>RL 0 n
 | .un n a=>RL 1 n∧a.wf
 | .bi n a b=>RL 2 n∧a.wf∧b.wf
theorem Tr.size_pos(t:Tr):0<t.size:=by cases t<;>simp [Tr.size]
theorem Tr.flat_len(t:Tr): ∀s,(t.flat s).length=t.size:=by
 induction t with
 |lf n=>intro s;rfl
 |un n a ih=>intro s;simp [Tr.flat,Tr.size,ih]
 |bi n a b iha ihb=>intro s;simp [Tr.flat,Tr.size,iha,ihb];omega
def bY:List Tr→Nat
 |[]=>0
 |t::st=>bY st+t.size
def tM:List Tr→List aU
 |[]=>[]
 |t::st=>tM st++t.flat (bY st)
theorem Ek: ∀st:List Tr,(tM st).length=bY st
 |[]=>rfl
 |t::st=>by simp [tM,bY,Ek st,t.flat_len]
theorem DK: ∀st:List Tr,st.length≤bY st
 |[]=>dN _
 |t::st=>by have:=DK st;have:=t.size_pos;simp [bY];omega
def push(st:List Tr)(n:aU):Option (List Tr):=
 match pk n.Tag,st with
 |some 0,st=>if F4 n&&n.L== -1&&n.R== -1 then some (.lf (fD n (-1) (-1))::st)else none
 |some 1,a::st=>if F4 n&&n.L==((bY st+a.size:Nat):Int)-1&&n.R== -1 then some (.un (fD n (-1) (-1)) a::st)else none
 |some 2,b::a::st=>if F4 n&&n.L==((bY st+a.size:Nat):Int)-1&&n.R==((bY st+a.size+b.size:Nat):Int)-1 then some (.bi (fD n (-1) (-1)) a b::st)else none
 |_,_=>none
def m4:List aU→List Tr→Option (List Tr)
 |[],st=>some st
 |n::ns,st=>(push st n).bind (m4 ns)
def Vn(st:List Tr):Prop:= ∀t∈st,t.wf
theorem wt{n:aU}{l r:Int}(h:n.L=l)(h2:n.R=r):fD (fD n (-1) (-1)) l r=n:=by subst h h2;rfl
theorem Lj{st st' :List Tr}{n:aU}(h:push st n=some st')(hw:Vn st):tM st' =tM st++[n]∧bY st' =bY st+1∧Vn st' :=by
 unfold push at h
 split at h
 ·rename_i k st0 hk
  split at h
  ·rename_i hc
   simp only [jD,tq]at hc
   obtain⟨⟨h1,h2⟩,h3⟩:=hc
   cases h
   refine⟨?_,rfl,fun t ht=>?_⟩
   ·simp only [tM,Tr.flat]
    rw [wt h2 h3]
   ·rcases gz.1 ht with rfl|ht
    ·exact⟨hk,h1,rfl,rfl⟩
    ·exact hw t ht
  ·cases h
 ·rename_i k a st0 hk
  split at h
  ·rename_i hc
   simp only [jD,tq]at hc
   obtain⟨⟨h1,h2⟩,h3⟩:=hc
   cases h
   refine⟨?_,by simp [bY,Tr.size];omega,fun t ht=>?_⟩
   ·simp only [tM,Tr.flat]
    rw [wt h2 h3,n6]
   ·rcases gz.1 ht with rfl|ht
    ·exact⟨⟨hk,h1,rfl,rfl⟩,hw a (nm ..)⟩
    ·exact hw t (nE _ ht)
  ·cases h
 ·rename_i k b a st0 hk
  split at h
  ·rename_i hc
   simp only [jD,tq]at hc
   obtain⟨⟨h1,h2⟩,h3⟩:=hc
   cases h
   refine⟨?_,by simp [bY,Tr.size];omega,fun t ht=>?_⟩
   ·simp only [tM,Tr.flat,bY]
    rw [wt h2 h3]
    simp only [n6]
   ·rcases gz.1 ht with rfl|ht
    ·exact⟨⟨hk,h1,rfl,rfl⟩,hw a (nE _ (nm ..)),hw b (nm ..)⟩
    ·exact hw t (nE _ (nE _ ht))
  ·cases h
 ·cases h
theorem rq: ∀{ns:List aU} {st st' :List Tr},m4 ns st=some st' →Vn st→tM st' =tM st++ns∧Vn st'
 |[],st,st',h,hw=>by cases h;simp [hw]
 |n::ns,st,st',h,hw=>by
  unfold m4 at h
  cases hp:push st n with
  |none=>rw [hp]at h;cases h
  |some st1=>
   rw [hp]at h
   obtain⟨h1,_,h3⟩:=Lj hp hw
   obtain⟨h4,h5⟩:=rq (ns:=ns) h h3
   exact⟨by rw [h4,h1];simp,h5⟩
theorem qM: ∀(ns ms:List aU) (st:List Tr),m4 (ns++ms) st=(m4 ns st).bind (m4 ms)
 |[],ms,st=>rfl
 |n::ns,ms,st=>by
  simp only [zA,m4]
  cases push st n with
  |none=>rfl
  |some st1=>exact qM ns ms st1
theorem IT(t:Tr): ∀(st:List Tr),t.wf→m4 (t.flat (bY st)) st=some (t::st):=by
 induction t with
 |lf n=>
  intro st ⟨h1,h2,h3,h4⟩
  have hn' :fD n (-1) (-1)=n:=by cases n;simp only at h3 h4;subst h3 h4;rfl
  simp only [Tr.flat,m4,push,hn']
  rw [h1]
  simp [h2,h3,h4,m4,hn']
 |un n a ih=>
  intro st ⟨⟨h1,h2,h3,h4⟩,ha⟩
  have hn' :fD n (-1) (-1)=n:=by cases n;simp only at h3 h4;subst h3 h4;rfl
  simp only [Tr.flat]
  rw [qM,ih st ha]
  simp only [be,m4,push]
  have e1:(fD n (((bY st+a.size:Nat):Int)-1) (-1)).Tag=n.Tag:=rfl
  rw [e1,h1]
  have e2:F4 (fD n (((bY st+a.size:Nat):Int)-1) (-1))=true:=h2
  rw [e2]
  simp only [fD,beq_self_eq_true,Bool.and_self,iE,be,m4]
  simp only [fD]at hn'
  rw [hn']
 |bi n a b iha ihb=>
  intro st ⟨⟨h1,h2,h3,h4⟩,ha,hb⟩
  have hn' :fD n (-1) (-1)=n:=by cases n;simp only at h3 h4;subst h3 h4;rfl
  simp only [Tr.flat]
  rw [qM,qM,iha st ha]
  simp only [be]
  have e0:bY st+a.size=bY (a::st):=rfl
  rw [e0,ihb (a::st) hb]
  simp only [be,m4,push]
  have e1:(fD n (((bY (a::st):Nat):Int)-1) (((bY (a::st)+b.size:Nat):Int)-1)).Tag=n.Tag:=rfl
  rw [e1,h1]
  have e2:F4 (fD n (((bY (a::st):Nat):Int)-1) (((bY (a::st)+b.size:Nat):Int)-1))=true:=h2
  rw [e2]
  simp only [fD,bY,beq_self_eq_true,Bool.and_self,iE,be,m4]
  simp only [fD]at hn'
  rw [hn']
def np(ns:List aU):Option Tr:=match m4 ns []with
 |some [t]=>if ns.length≤1000 then some t else none
 |_=>none
theorem nG{ns:List aU}{t:Tr}(h:np ns=some t):t.wf∧ns=t.flat 0∧t.size≤1000:=by
 unfold np at h
 split at h
 ·rename_i t0 hp
  split at h
  ·rename_i hl
   cases h
   obtain⟨h1,h2⟩:=rq hp (fun t ht=>by cases ht)
   simp only [tM,bY,iv]at h1
   exact⟨h2 t (nm ..),h1.symm,by rw [←t.flat_len 0,h1];exact hl⟩
  ·cases h
 ·cases h
theorem As{t:Tr}(h:t.wf)(hs:t.size≤1000):np (t.flat 0)=some t:=by
 unfold np
 have h0:=IT t [] h
 simp only [bY]at h0
 rw [h0]
 simp only [t.flat_len,hs,iE]
def fl:Tr→Nat→List Int
 | .lf _,s=>[(s:Int)]
 | .un _ a,s=>fl a s++[(s:Int)]
 | .bi _ a b,s=>fl a s++fl b (s+a.size)++[(s:Int)]
def Hx:List Tr→List Int
 |[]=>[]
 |t::st=>Hx st++fl t (bY st)
def kF:List Tr→List Int
 |[]=>[]
 |t::st=>kF st++[((bY st+t.size:Nat):Int)-1]
theorem qx(t:Tr): ∀s,(fl t s).length=t.size:=by
 induction t with
 |lf n=>intro s;rfl
 |un n a ih=>intro s;simp [fl,Tr.size,ih]
 |bi n a b iha ihb=>intro s;simp [fl,Tr.size,iha,ihb];omega
theorem sF: ∀st:List Tr,(Hx st).length=bY st
 |[]=>rfl
 |t::st=>by simp [Hx,bY,sF st,qx]
theorem cN: ∀st:List Tr,(kF st).length=st.length
 |[]=>rfl
 |t::st=>by simp [kF,cN st]
theorem Kh(t:Tr)(s:Nat):(fl t s)[t.size-1]? =some (s:Int):=by
 cases t with
 |lf n=>rfl
 |un n a=>simp only [fl,Tr.size];rw [o5 (by rw [qx];omega),qx];simp
 |bi n a b=>simp only [fl,Tr.size];rw [o5 (by simp [qx]),jA,qx,qx];simp
theorem Cw(t:Tr)(st:List Tr)(rest:List Int):(Hx st++fl t (bY st)++rest)[bY st+t.size-1]? =some (bY st:Int):=by
 have:=t.size_pos
 rw [t8 (by rw [jA,sF,qx];omega),o5 (by rw [sF];omega),sF,show bY st+t.size-1-bY st=t.size-1 from by omega]
 exact Kh t _
theorem Em: ∀(ns:List aU) (st:List Tr),bY st+ns.length≤100000→jw ns (bY st) (Hx st) (kF st)=some (match m4 ns st with
   |some st' =>(Hx st',decide (st'.length=1)&&decide (bY st' ≤1000))
   |none=>([],false)):=by
 intro ns
 induction ns with
 |nil=>
  intro st _
  simp only [jw,m4,cN,sF]
  congr 2
  congr 1
  ·rw [wM];simp;omega
  ·rw [wM];simp;omega
 |cons n ns ih=>
  intro st hs
  simp only [gJ]at hs
  have hll:=DK st
  unfold jw
  rw [xd]
  simp only [be,cN,CD]
  unfold m4
  unfold push
  -- the parts
  cases hk:pk n.Tag with
  |none=>
   have e:Fa n.Tag= -1:=by unfold Fa;rw [hk]
   simp [e]
  |some k=>
   have e:Fa n.Tag=(k:Int):=by unfold Fa;rw [hk]
   have hk3:k=0∨k=1∨k=2:=by
    unfold pk at hk
    repeat' split at hk
    all_goals simp at hk
    all_goals omega
   rw [e]
   rcases hk3 with rfl|rfl|rfl
   ·-- none
    simp only []
    have c1:(decide (((0:Nat):Int)<0)||decide ((st.length:Int)<((0:Nat):Int)))=false:=by simp
    simp only [c1,vg,iE,be]
    cases hc:F4 n with
    |false=>simp
    |true=>
     simp only [nT,mz,iM,vb]
     rw [jE st.length st.length (by rw [bP (by omega) (by omega)];omega) rfl (dN _) (by rw [cN];exact dN _)]
     have hd:(List.take st.length (kF st)).drop st.length=[]:=sT (by simp;omega)
     simp only [hd,be,kO]
     by_cases hL:n.L= -1∧n.R= -1
     ·have hb:(n.L== -1&&n.R== -1)=true:=by simp [hL]
      rw [bm hb,bg (by simp [hL.1,hL.2])]
      rw [ca (by simp only [gJ,q7,sF];omega)]
      simp only [be]
      rw [jE (i:=0) 0 st.length rfl (by rw [cN,bP (by omega) (by omega)];omega) (gx _) (by rw [cN];exact dN _)]
      rw [pV (by rw [cN];exact dN _),qr]
      simp only [be]
      rw [ca (by simp only [gJ,q7,cN];omega)]
      simp only [be]
      have h2:=ih (.lf (fD n (-1) (-1))::st) (by simp [bY,Tr.size];omega)
      simp only [bY,Tr.size,Hx,fl,kF]at h2
      rw [show(((bY st+1:Nat):Int)-1)=(bY st:Int)from by omega]at h2
      exact h2
     ·have hb:(n.L== -1&&n.R== -1)=false:=by
       rw [yk];intro h;apply hL;simpa using h
      rw [hb]
      rw [bm (by
       simp only [zB,BG]
       intro h
       have h1:(-1:Int)=n.L:=by injection h
       have h2:(-1:Int)=n.R:=by injection h with _ h;injection h
       exact hL ⟨h1.symm,h2.symm⟩)]
      simp
   ·-- one
    cases st with
    |nil=>simp
    |cons a st=>
     simp only []
     have c1:(decide (((1:Nat):Int)<0)||decide (((a::st).length:Int)<((1:Nat):Int)))=false:=by simp;omega
     simp only [c1,vg,iE,be]
     cases hc:F4 n with
     |false=>simp
     |true=>
      simp only [nT,mz,iM,vb]
      simp only [gJ]at hll ⊢
      simp only [bY]at hs hll
      have hap:=a.size_pos
      rw [jE st.length (st.length+1) (by rw [bP (by omega) (by omega)];omega) (by omega) (by omega) (by rw [cN];exact dN _)]
      have hd:(List.take (st.length+1) (kF (a::st))).drop st.length=[((bY st+a.size:Nat):Int)-1]:=by
       rw [pV (by rw [cN];exact dN _)]
       simp only [kF]
       rw [F8 (by rw [cN];exact dN _),sT (by rw [cN];exact dN _),iv]
      rw [hd]
      simp only [be,kO]
      rw [kj (bY st+a.size-1) (by omega)]
      have hf:=Cw a st []
      rw [yb]at hf
      simp only [Hx]
      rw [hf]
      simp only [be]
      rw [kj 0 rfl]
      simp only [F7,be]
      have hset:([(-1:Int),-1].set ((0:Nat):Int).toNat (((bY st+a.size:Nat):Int)-1))=[((bY st+a.size:Nat):Int)-1,-1]:=rfl
      rw [hset]
      by_cases hL:n.L=((bY st+a.size:Nat):Int)-1∧n.R= -1
      ·have hb:(n.L==((bY st+a.size:Nat):Int)-1&&n.R== -1)=true:=by simp [hL]
       rw [bm hb,bg (by rw [hL.1,hL.2];simp)]
       rw [ca (by simp only [gJ,q7,jA,sF,qx];omega)]
       simp only [be]
       rw [jE (i:=0) 0 st.length rfl (by rw [cN,bP (by simp<;>omega) (by simp<;>omega)];simp) (gx _) (by rw [cN];simp)]
       have ht:(List.take st.length (kF (a::st))).drop 0=kF st:=by
        simp only [kF,qr]
        rw [xl (by rw [cN];exact dN _),pV (by rw [cN];exact dN _)]
       rw [ht]
       simp only [be]
       rw [ca (by simp only [gJ,q7,cN];omega)]
       simp only [be]
       have h2:=ih (.un (fD n (-1) (-1)) a::st) (by simp [bY,Tr.size];omega)
       simp only [bY,Tr.size,Hx,fl,kF]at h2
       rw [show(((bY st+(a.size+1):Nat):Int)-1)=((bY st+a.size:Nat):Int)from by omega]at h2
       have hm:min ((bY (a::st):Nat):Int) (bY st:Int)=(bY st:Int):=by simp only [bY];omega
       rw [hm]
       simp only [n6]at h2 ⊢
       exact h2
      ·have hb:(n.L==((bY st+a.size:Nat):Int)-1&&n.R== -1)=false:=by
        rw [yk];intro h;apply hL;simpa using h
       rw [hb]
       rw [bm (by
        simp only [zB,BG]
        intro h
        have h1:((bY st+a.size:Nat):Int)-1=n.L:=by injection h
        have h2:(-1:Int)=n.R:=by injection h with _ h;injection h
        exact hL ⟨h1.symm,h2.symm⟩)]
       simp
   ·-- two
    cases st with
    |nil=>simp
    |cons b st=>
     cases st with
     |nil=>simp
     |cons a st=>
      simp only []
      have c1:(decide (((2:Nat):Int)<0)||decide (((b::a::st).length:Int)<((2:Nat):Int)))=false:=by simp;omega
      simp only [c1,vg,iE,be]
      cases hc:F4 n with
      |false=>simp
      |true=>
       simp only [nT,mz,iM,vb]
       simp only [gJ]at hll ⊢
       simp only [bY]at hs hll
       have hap:=a.size_pos
       have hbp:=b.size_pos
       rw [jE st.length (st.length+1+1) (by rw [bP (by omega) (by omega)];omega) (by omega) (by omega) (by rw [cN];exact dN _)]
       have hd:(List.take (st.length+1+1) (kF (b::a::st))).drop st.length=[((bY st+a.size:Nat):Int)-1,((bY st+a.size+b.size:Nat):Int)-1]:=by
        rw [pV (by rw [cN];exact dN _)]
        simp only [kF,bY,n6]
        rw [F8 (by rw [cN];exact dN _),sT (by rw [cN];exact dN _),iv]
        rfl
       rw [hd]
       simp only [be,kO]
       simp only [Hx,bY]
       rw [kj (bY st+a.size-1) (by omega)]
       rw [Cw a st (fl b (bY st+a.size))]
       simp only [be]
       rw [kj 0 rfl]
       simp only [F7,be]
       have hset:([(-1:Int),-1].set ((0:Nat):Int).toNat (((bY st+a.size:Nat):Int)-1))=[((bY st+a.size:Nat):Int)-1,-1]:=rfl
       rw [hset]
       rw [kj (bY st+a.size+b.size-1) (by omega)]
       have hf:=Cw b (a::st) []
       rw [yb]at hf
       simp only [Hx,bY]at hf
       rw [hf]
       simp only [be]
       rw [kj (0+1) rfl]
       simp only [List.getElem?_cons_succ,F7,be]
       have hset2:([((bY st+a.size:Nat):Int)-1,-1].set ((0+1:Nat):Int).toNat (((bY st+a.size+b.size:Nat):Int)-1))=[((bY st+a.size:Nat):Int)-1,((bY st+a.size+b.size:Nat):Int)-1]:=rfl
       rw [hset2]
       by_cases hL:n.L=((bY st+a.size:Nat):Int)-1∧n.R=((bY st+a.size+b.size:Nat):Int)-1
       ·have hb:(n.L==((bY st+a.size:Nat):Int)-1&&n.R==((bY st+a.size+b.size:Nat):Int)-1)=true:=by rw [hL.1,hL.2];simp
        rw [bm hb,bg (by rw [hL.1,hL.2];simp)]
        rw [ca (by simp only [gJ,q7,jA,sF,qx];omega)]
        simp only [be]
        rw [jE (i:=0) 0 st.length rfl (by rw [cN,bP (by simp;omega) (by simp;omega)];simp;omega) (gx _) (by rw [cN];simp;omega)]
        have ht:(List.take st.length (kF (b::a::st))).drop 0=kF st:=by
         simp only [kF,qr,n6]
         rw [xl (by rw [cN];exact dN _),pV (by rw [cN];exact dN _)]
        rw [ht]
        simp only [be]
        rw [ca (by simp only [gJ,q7,cN];omega)]
        simp only [be]
        have h2:=ih (.bi (fD n (-1) (-1)) a b::st) (by simp [bY,Tr.size];omega)
        simp only [bY,Tr.size,Hx,fl,kF]at h2
        rw [show(((bY st+(a.size+b.size+1):Nat):Int)-1)=((bY st+a.size+b.size:Nat):Int)from by omega,show bY st+(a.size+b.size+1)=bY st+a.size+b.size+1 from by omega]at h2
        have hm:min (min (((bY st+a.size+b.size:Nat)):Int) (bY st:Int)) ((bY st+a.size:Nat):Int)=(bY st:Int):=by omega
        rw [hm]
        simp only [n6]at h2 ⊢
        exact h2
       ·have hb:(n.L==((bY st+a.size:Nat):Int)-1&&n.R==((bY st+a.size+b.size:Nat):Int)-1)=false:=by
         rw [yk];intro h;apply hL;simpa using h
        rw [hb]
        rw [bm (by
         simp only [zB,BG]
         intro h
         have h1:((bY st+a.size:Nat):Int)-1=n.L:=by injection h
         have h2:((bY st+a.size+b.size:Nat):Int)-1=n.R:=by injection h with _ h;injection h
         exact hL ⟨h1.symm,h2.symm⟩)]
        simp
end Go.Proofs.YtnmjbolollcokaaGreatDoor

