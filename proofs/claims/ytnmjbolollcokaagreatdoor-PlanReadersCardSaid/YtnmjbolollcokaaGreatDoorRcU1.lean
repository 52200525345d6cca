/- cR of this claim: U1. -/
import Derived.Test.YtnmjbolollcokaaGreatDoorRcQ1
set_option linter.all false
namespace Go.Proofs.YtnmjbolollcokaaGreatDoor
open Go

def O4(from1:Int)(i:Nat):List M→Nat→List (Int×Int)
 |[],_=>[]
 |n::tl,k=>if(n.Op==(9:Int))&&(n.Table==from1)then((i:Int),(k:Int))::O4 from1 i tl (k+1)else O4 from1 i tl (k+1)
def H9(from1:Int):List bk→Nat→List (Int×Int)
 |[],_=>[]
 |f::tl,i=>O4 from1 i f.Nodes 0++H9 from1 tl (i+1)
def GL{α Sg:Type}(yld:α→Sg→Option (Bool×Sg)):List α→Sg→(Sg→Option Sg)→Option Sg
 |[],s,k=>k s
 |x::tl,s,k=>(yld x s).bind fun r=>if(!r.1)then some r.2 else GL yld tl r.2 k
theorem Ax{α Sg:Type}(yld:α→Sg→Option (Bool×Sg))(b:List α)(k:Sg→Option Sg): ∀(a:List α) (s:Sg),GL yld (a++b) s k=GL yld a s (fun s=>GL yld b s k)
 |[],_=>rfl
 |x::tl,s=>by
  show(yld x s).bind _=(yld x s).bind _
  congr 1
  funext r
  show(if _ then _ else GL yld (tl++b) r.2 k)=_
  rw [Ax yld b k tl]
theorem uF{Sg:Type}(from1:Int)(yld:(Int×Int)→Sg→Option (Bool×Sg))(nx:Nat→Sg→Option Sg)(i:Nat): ∀(ns:List M) (k:Nat) (s:Sg),jb from1 yld nx i ns k s=GL yld (O4 from1 i ns k) s (nx (i+1))
 |[],k,s=>rfl
 |n::tl,k,s=>by
  unfold jb O4
  by_cases h:((n.Op==(9:Int))&&(n.Table==from1))=true
  ·rw [bm h,bm h]
   show _=(yld _ s).bind _
   congr 1
   funext r
   rw [uF from1 yld nx i tl (k+1)]
  ·rw [bg h,bg h]
   exact uF from1 yld nx i tl (k+1) s
theorem yU{Sg:Type}(from1:Int)(yld:(Int×Int)→Sg→Option (Bool×Sg)): ∀(fs:List bk) (i:Nat) (s:Sg),jd from1 yld fs i s=GL yld (H9 from1 fs i) s some
 |[],i,s=>rfl
 |f::tl,i,s=>by
  unfold jd H9
  rw [uF,Ax]
  congr 1
  funext s'
  exact yU from1 yld tl (i+1) s'
theorem LE(p:cC)(from1:Int):sn p from1=some (fun _ yld s=>GL yld (H9 from1 p.Frags 0) s some):=by
 unfold sn
 congr 1
 funext Sg yld s
 exact yU from1 yld p.Frags 0 s
theorem Fk{from1:Int}{i:Nat}{x:Int×Int}: ∀{ns:List M} {k:Nat},x∈O4 from1 i ns k→ ∃j n,ns[j]? =some n∧x=((i:Int),((k+j:Nat):Int))∧n.Op=9∧n.Table=from1
 |[],_,h=>by cases h
 |n::tl,k,h=>by
  unfold O4 at h
  by_cases hc:((n.Op==(9:Int))&&(n.Table==from1))=true
  ·rw [bm hc]at h
   simp only [jD,tq]at hc
   rcases gz.1 h with rfl|h
   ·exact⟨0,n,rfl,rfl,hc⟩
   ·obtain⟨j,m,g1,g2,g3⟩:=Fk h
    exact⟨j+1,m,by simpa using g1,by rw [g2];congr 2;omega,g3⟩
  ·rw [bg hc]at h
   obtain⟨j,m,g1,g2,g3⟩:=Fk h
   exact⟨j+1,m,by simpa using g1,by rw [g2];congr 2;omega,g3⟩
theorem J9{from1:Int}{x:Int×Int}: ∀{fs:List bk} {i:Nat},x∈H9 from1 fs i→ ∃a f j n,fs[a]? =some f∧f.Nodes[j]? =some n∧x=(((i+a:Nat):Int),((j:Nat):Int))∧n.Op=9∧n.Table=from1
 |[],_,h=>by cases h
 |f::tl,i,h=>by
  unfold H9 at h
  rcases xj.1 h with h|h
  ·obtain⟨j,n,g1,g2,g3⟩:=Fk h
   exact⟨0,f,j,n,rfl,g1,by rw [g2];simp,g3⟩
  ·obtain⟨a,f',j,n,g0,g1,g2,g3⟩:=J9 h
   exact⟨a+1,f',j,n,by simpa using g0,g1,by rw [g2];congr 2;omega,g3⟩
theorem Me(p:cC)(from1:Int):sq p from1=some (match H9 from1 p.Frags 0 with|[]=>(0,0,false)|x::_=>(x.1,x.2,true)):=by
 unfold sq
 rw [LE,be]
 cases H9 from1 p.Frags 0 with
 |nil=>rfl
 |cons x tl=>rfl
end Go.Proofs.YtnmjbolollcokaaGreatDoor

