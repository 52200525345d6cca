/- co of this claim: Y5. -/
import Derived.Test.YtmogpgcfognefaaGreatDoorNeY4
set_option linter.all false
namespace Go.Proofs.YtmogpgcfognefaaGreatDoor
open Go

structure PIm(m:Nat)(x:bE):Prop where
 cols:x.Kind=2↔0<x.Cols.length
 inr: ∀c∈x.Cols,0≤c∧c<(m:Int)
 len:x.Cols.length≤100000
theorem PIm.any{m:Nat}:PIm m ⟨1,[]⟩:=⟨by simp,fun _ h=>(by cases h),by simp⟩
def I3(op:Int):Option cK→Option bE:=(nV ((qW).getD []) op).getD (fun _=>none)
section
variable{c:cn}{q:hJ}{KS:List (List (List Int))}
end
end Go.Proofs.YtmogpgcfognefaaGreatDoor

