/- Facts of this claim: M8. -/
import Derived.Test.YtdhledkpgaeoaaaGreatDoorKdM7
namespace Go.Proofs.YtdhledkpgaeoaaaGreatDoor
open Go

def sumS (l : List Tr) : Nat := (l.map Tr.size).sum
theorem sumS_append (a b : List Tr) : sumS (a ++ b) = sumS a + sumS b := by simp [sumS]
theorem ands_size (t : Tr) : sumS (andsT t) + (andsT t).length = t.size + 1 := by
  induction t with
  | lf n => rfl
  | un n a _ => simp [andsT, sumS]
  | bi n a b iha ihb =>
    rw [andsT_bi]
    split
    · rw [sumS_append, List.length_append]; simp only [Tr.size]; omega
    · simp [sumS]
end Go.Proofs.YtdhledkpgaeoaaaGreatDoor

