/- cJ of this claim: U1. -/
import Derived.Test.YtnmjbolollcokaaGreatDoorRbQ1
set_option linter.all false
namespace Go.Proofs.YtnmjbolollcokaaGreatDoor
open Go

def IB(from1:Int)(i:Nat):List ai→Nat→List (Int×Int)
 |[],_=>[]
 |n::tl,k=>if(n.Op==(9:Int))&&(n.Table==from1)then((i:Int),(k:Int))::IB from1 i tl (k+1)else IB from1 i tl (k+1)
def E0(from1:Int):List cA→Nat→List (Int×Int)
 |[],_=>[]
 |f::tl,i=>IB from1 i f.Nodes 0++E0 from1 tl (i+1)
def pF{α Sg:Type}(yld:α→Sg→Option (Bool×Sg)):List α→Sg→(Sg→Option Sg)→Option Sg
 |[],s,k=>k s
 |x::tl,s,k=>(yld x s).bind fun r=>if(!r.1)then some r.2 else pF yld tl r.2 k
theorem nl{α Sg:Type}(yld:α→Sg→Option (Bool×Sg))(b:List α)(k:Sg→Option Sg): ∀(a:List α) (s:Sg),pF yld (a++b) s k=pF yld a s (fun s=>pF yld b s k)
 |[],_=>rfl
 |x::tl,s=>by
  show(yld x s).bind _=(yld x s).bind _
  congr 1
  funext r
  show(if _ then _ else pF yld (tl++b) r.2 k)=_
  rw [nl yld b k tl]
theorem pb{Sg:Type}(from1:Int)(yld:(Int×Int)→Sg→Option (Bool×Sg))(nx:Nat→Sg→Option Sg)(i:Nat): ∀(ns:List ai) (k:Nat) (s:Sg),fz from1 yld nx i ns k s=pF yld (IB from1 i ns k) s (nx (i+1))
 |[],k,s=>rfl
 |n::tl,k,s=>by
  unfold fz IB
  by_cases h:((n.Op==(9:Int))&&(n.Table==from1))=true
  ·rw [cU h,cU h]
   show _=(yld _ s).bind _
   congr 1
   funext r
   rw [pb from1 yld nx i tl (k+1)]
  ·rw [cM h,cM h]
   exact pb from1 yld nx i tl (k+1) s
theorem sE{Sg:Type}(from1:Int)(yld:(Int×Int)→Sg→Option (Bool×Sg)): ∀(fs:List cA) (i:Nat) (s:Sg),fA from1 yld fs i s=pF yld (E0 from1 fs i) s some
 |[],i,s=>rfl
 |f::tl,i,s=>by
  unfold fA E0
  rw [pb,nl]
  congr 1
  funext s'
  exact sE from1 yld tl (i+1) s'
theorem DO(p:bW)(from1:Int):np p from1=some (fun _ yld s=>pF yld (E0 from1 p.Frags 0) s some):=by
 unfold np
 congr 1
 funext Sg yld s
 exact sE from1 yld p.Frags 0 s
theorem yX{from1:Int}{i:Nat}{x:Int×Int}: ∀{ns:List ai} {k:Nat},x∈IB from1 i ns k→ ∃j n,ns[j]? =some n∧x=((i:Int),((k+j:Nat):Int))∧n.Op=9∧n.Table=from1
 |[],_,h=>by cases h
 |n::tl,k,h=>by
  unfold IB at h
  by_cases hc:((n.Op==(9:Int))&&(n.Table==from1))=true
  ·rw [cU hc]at h
   simp only [ki,beq_iff_eq]at hc
   rcases lM.1 h with rfl|h
   ·exact⟨0,n,rfl,rfl,hc⟩
   ·obtain⟨j,m,g1,g2,g3⟩:=yX h
    exact⟨j+1,m,by simpa using g1,by rw [g2];congr 2;omega,g3⟩
  ·rw [cM hc]at h
   obtain⟨j,m,g1,g2,g3⟩:=yX h
   exact⟨j+1,m,by simpa using g1,by rw [g2];congr 2;omega,g3⟩
theorem CL{from1:Int}{x:Int×Int}: ∀{fs:List cA} {i:Nat},x∈E0 from1 fs i→ ∃a f j n,fs[a]? =some f∧f.Nodes[j]? =some n∧x=(((i+a:Nat):Int),((j:Nat):Int))∧n.Op=9∧n.Table=from1
 |[],_,h=>by cases h
 |f::tl,i,h=>by
  unfold E0 at h
  rcases vq.1 h with h|h
  ·obtain⟨j,n,g1,g2,g3⟩:=yX h
   exact⟨0,f,j,n,rfl,g1,by rw [g2];simp,g3⟩
  ·obtain⟨a,f',j,n,g0,g1,g2,g3⟩:=CL h
   exact⟨a+1,f',j,n,by simpa using g0,g1,by rw [g2];congr 2;omega,g3⟩
theorem Ee(p:bW)(from1:Int):nq p from1=some (match E0 from1 p.Frags 0 with|[]=>(0,0,false)|x::_=>(x.1,x.2,true)):=by
 unfold nq
 rw [DO,kU]
 cases E0 from1 p.Frags 0 with
 |nil=>rfl
 |cons x tl=>rfl
end Go.Proofs.YtnmjbolollcokaaGreatDoor

