/- co of this claim: Y3. -/
import Derived.Test.YtmogpgcfognefaaGreatDoorNeY2
set_option linter.all false
namespace Go.Proofs.YtmogpgcfognefaaGreatDoor
open Go

structure KOK(ns:List aK)(K:List (List Int)):Prop where
 len:K.length=ns.length
 at_: ∀j,j<ns.length→BM ns K j
structure QZ(ns:List aK):Prop where
 len:ns.length≤90
 n: ∀n∈ns,pO n
theorem Aj: ∀(K out:List (List Int)),(∀k∈K,k.length≤100)→out.length+K.length≤1000→lx K out=some (out++K,0,0)
 |[],out,_,_=>by unfold lx;rw [Bb]
 |k::tl,out,hk,hl=>by
  unfold lx
  rw [tX k (by have:=hk k (lV ..);omega),cq,dM (by simp at hl ⊢;omega),cq,Aj tl _ (fun x hx=>hk x (kG _ hx)) (by simp at hl ⊢;omega)]
  simp
def Ov(from1:Int)(i:Nat):List aK→Nat→List (Int×Int)
 |[],_=>[]
 |n::tl,k=>if(n.Op==(9:Int))&&(n.Table==from1)then((i:Int),(k:Int))::Ov from1 i tl (k+1)else Ov from1 i tl (k+1)
def Ow(from1:Int):List gJ→Nat→List (Int×Int)
 |[],_=>[]
 |f::tl,i=>Ov from1 i f.Nodes 0++Ow from1 tl (i+1)
def CX{Sg:Type}(yld:(Int×Int)→Sg→Option (Bool×Sg)):List (Int×Int)→Sg→(Sg→Option Sg)→Option Sg
 |[],s,k=>k s
 |x::tl,s,k=>(yld x s).bind fun r=>if(!r.1)then some r.2 else CX yld tl r.2 k
theorem zT{Sg:Type}(yld:(Int×Int)→Sg→Option (Bool×Sg))(b:List (Int×Int))(k:Sg→Option Sg): ∀(a:List (Int×Int)) (s:Sg),CX yld (a++b) s k=CX yld a s (fun s=>CX yld b s k)
 |[],_=>rfl
 |x::tl,s=>by
  show(yld x s).bind _=(yld x s).bind _
  congr 1
  funext r
  show(if _ then _ else CX yld (tl++b) r.2 k)=_
  rw [zT yld b k tl]
theorem tu{Sg:Type}(from1:Int)(yld:(Int×Int)→Sg→Option (Bool×Sg))(nx:Nat→Sg→Option Sg)(i:Nat): ∀(ns:List aK) (k:Nat) (s:Sg),je from1 yld nx i ns k s=CX yld (Ov from1 i ns k) s (nx (i+1))
 |[],k,s=>rfl
 |n::tl,k,s=>by
  unfold je Ov
  by_cases h:((n.Op==(9:Int))&&(n.Table==from1))=true
  ·rw [dy h,dy h]
   show _=(yld _ s).bind _
   congr 1
   funext r
   rw [tu from1 yld nx i tl (k+1)]
  ·rw [dd h,dd h]
   exact tu from1 yld nx i tl (k+1) s
theorem xV{Sg:Type}(from1:Int)(yld:(Int×Int)→Sg→Option (Bool×Sg)): ∀(fs:List gJ) (i:Nat) (s:Sg),jf from1 yld fs i s=CX yld (Ow from1 fs i) s some
 |[],i,s=>rfl
 |f::tl,i,s=>by
  unfold jf Ow
  rw [tu,zT]
  congr 1
  funext s'
  exact xV from1 yld tl (i+1) s'
theorem DU(p:hJ)(from1:Int):pu p from1=some (fun _ yld s=>CX yld (Ow from1 p.Frags 0) s some):=by
 unfold pu
 congr 1
 funext Sg yld s
 exact xV from1 yld p.Frags 0 s
end Go.Proofs.YtmogpgcfognefaaGreatDoor

