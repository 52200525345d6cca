/- Facts of this claim: M5. -/
import Derived.Test.YtdhledkpgaeoaaaGreatDoorKdM4
namespace Go.Proofs.YtdhledkpgaeoaaaGreatDoor
open Go

theorem expr_Safe_eq (e : DExpr) (h : e.Nodes.length ≤ 50000) : expr_Safe e = some (rightE e.Nodes && !(e.Nodes.any arB)) := by
  unfold expr_Safe
  rw [expr_Check_eq e (by omega)]
  cases rightE e.Nodes with
  | false => rfl
  | true =>
    simp only [if_true, Option.bind_some]
    rw [if_pos (by decide)]
    have key : ∀ (l : List DENode), slices_ContainsFunc_api_ENode_api_ENode l expr_Safe_1 = some (l.any arB) := by
      intro l
      unfold slices_ContainsFunc_api_ENode_api_ENode slices_IndexFunc_api_ENode_api_ENode
      have h2 : ∀ (l : List DENode) (i : Nat), ∃ z : Int, slices_IndexFunc_api_ENode_api_ENode_l1 expr_Safe_1 l i = some z ∧ (0 ≤ z ↔ l.any arB = true) := by
        intro l
        induction l with
        | nil => intro i; exact ⟨-1, rfl, by simp⟩
        | cons n l ih =>
          intro i
          unfold slices_IndexFunc_api_ENode_api_ENode_l1
          have e1 : expr_Safe_1 n = some (arB n) := rfl
          rw [e1]
          simp only [Option.bind_some]
          cases hb : arB n with
          | true => exact ⟨(i : Int), by simp, by simp [hb]⟩
          | false =>
            obtain ⟨z, h3, h4⟩ := ih (i + 1)
            exact ⟨z, by simpa using h3, by simpa [hb] using h4⟩
      obtain ⟨z, h3, h4⟩ := h2 l 0
      rw [h3]
      simp only [Option.bind_some]
      congr 1
      rw [Bool.eq_iff_iff, ← h4]; simp
    rw [key]; rfl
end Go.Proofs.YtdhledkpgaeoaaaGreatDoor

