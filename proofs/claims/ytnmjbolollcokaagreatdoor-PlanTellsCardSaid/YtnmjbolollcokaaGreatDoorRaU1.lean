/- cN of this claim: U1. -/
import Derived.Test.YtnmjbolollcokaaGreatDoorRaQ1
set_option linter.all false
namespace Go.Proofs.YtnmjbolollcokaaGreatDoor
open Go

def ES(from1:Int)(i:Nat):List ai→Nat→List (Int×Int)
 |[],_=>[]
 |n::tl,k=>if(n.Op==(9:Int))&&(n.Table==from1)then((i:Int),(k:Int))::ES from1 i tl (k+1)else ES from1 i tl (k+1)
def CA(from1:Int):List cz→Nat→List (Int×Int)
 |[],_=>[]
 |f::tl,i=>ES from1 i f.Nodes 0++CA from1 tl (i+1)
def p5{α Sg:Type}(yld:α→Sg→Option (Bool×Sg)):List α→Sg→(Sg→Option Sg)→Option Sg
 |[],s,k=>k s
 |x::tl,s,k=>(yld x s).bind fun r=>if(!r.1)then some r.2 else p5 yld tl r.2 k
theorem nF{α Sg:Type}(yld:α→Sg→Option (Bool×Sg))(b:List α)(k:Sg→Option Sg): ∀(a:List α) (s:Sg),p5 yld (a++b) s k=p5 yld a s (fun s=>p5 yld b s k)
 |[],_=>rfl
 |x::tl,s=>by
  show(yld x s).bind _=(yld x s).bind _
  congr 1
  funext r
  show(if _ then _ else p5 yld (tl++b) r.2 k)=_
  rw [nF yld b k tl]
theorem pt{Sg:Type}(from1:Int)(yld:(Int×Int)→Sg→Option (Bool×Sg))(nx:Nat→Sg→Option Sg)(i:Nat): ∀(ns:List ai) (k:Nat) (s:Sg),fD from1 yld nx i ns k s=p5 yld (ES from1 i ns k) s (nx (i+1))
 |[],k,s=>rfl
 |n::tl,k,s=>by
  unfold fD ES
  by_cases h:((n.Op==(9:Int))&&(n.Table==from1))=true
  ·rw [cO h,cO h]
   show _=(yld _ s).bind _
   congr 1
   funext r
   rw [pt from1 yld nx i tl (k+1)]
  ·rw [cQ h,cQ h]
   exact pt from1 yld nx i tl (k+1) s
theorem sV{Sg:Type}(from1:Int)(yld:(Int×Int)→Sg→Option (Bool×Sg)): ∀(fs:List cz) (i:Nat) (s:Sg),fE from1 yld fs i s=p5 yld (CA from1 fs i) s some
 |[],i,s=>rfl
 |f::tl,i,s=>by
  unfold fE CA
  rw [pt,nF]
  congr 1
  funext s'
  exact sV from1 yld tl (i+1) s'
theorem DU(p:bI)(from1:Int):nG p from1=some (fun _ yld s=>p5 yld (CA from1 p.Frags 0) s some):=by
 unfold nG
 congr 1
 funext Sg yld s
 exact sV from1 yld p.Frags 0 s
theorem y6{from1:Int}{i:Nat}{x:Int×Int}: ∀{ns:List ai} {k:Nat},x∈ES from1 i ns k→ ∃j n,ns[j]? =some n∧x=((i:Int),((k+j:Nat):Int))∧n.Op=9∧n.Table=from1
 |[],_,h=>by cases h
 |n::tl,k,h=>by
  unfold ES at h
  by_cases hc:((n.Op==(9:Int))&&(n.Table==from1))=true
  ·rw [cO hc]at h
   simp only [jz,beq_iff_eq]at hc
   rcases fS.1 h with rfl|h
   ·exact⟨0,n,rfl,rfl,hc⟩
   ·obtain⟨j,m,g1,g2,g3⟩:=y6 h
    exact⟨j+1,m,by simpa using g1,by rw [g2];congr 2;omega,g3⟩
  ·rw [cQ hc]at h
   obtain⟨j,m,g1,g2,g3⟩:=y6 h
   exact⟨j+1,m,by simpa using g1,by rw [g2];congr 2;omega,g3⟩
theorem CK{from1:Int}{x:Int×Int}: ∀{fs:List cz} {i:Nat},x∈CA from1 fs i→ ∃a f j n,fs[a]? =some f∧f.Nodes[j]? =some n∧x=(((i+a:Nat):Int),((j:Nat):Int))∧n.Op=9∧n.Table=from1
 |[],_,h=>by cases h
 |f::tl,i,h=>by
  unfold CA at h
  rcases zJ.1 h with h|h
  ·obtain⟨j,n,g1,g2,g3⟩:=y6 h
   exact⟨0,f,j,n,rfl,g1,by rw [g2];simp,g3⟩
  ·obtain⟨a,f',j,n,g0,g1,g2,g3⟩:=CK h
   exact⟨a+1,f',j,n,by simpa using g0,g1,by rw [g2];congr 2;omega,g3⟩
theorem Ec(p:bI)(from1:Int):nH p from1=some (match CA from1 p.Frags 0 with|[]=>(0,0,false)|x::_=>(x.1,x.2,true)):=by
 unfold nH
 rw [DU,n9]
 cases CA from1 p.Frags 0 with
 |nil=>rfl
 |cons x tl=>rfl
end Go.Proofs.YtnmjbolollcokaaGreatDoor

