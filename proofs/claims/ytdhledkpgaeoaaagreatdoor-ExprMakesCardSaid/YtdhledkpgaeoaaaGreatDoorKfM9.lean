/- Facts of this claim: M9. -/
import Derived.Test.YtdhledkpgaeoaaaGreatDoorKfM8
namespace Go.Proofs.YtdhledkpgaeoaaaGreatDoor
open Go

theorem bool_iff {a b : Bool} (h : a = true ↔ b = true) : a = b := by cases a <;> cases b <;> simp_all
theorem drop_idx {α : Type} {ys : List α} {i : Nat} (h : i < ys.length) : idx ys (i : Int) = some ys[i] := by rw [idx_nat, List.getElem?_eq_getElem h]
theorem rsame_l1 (b : DExpr) : ∀ (tl : List DENode) (i : Nat), i + tl.length = b.Nodes.length → ref10_Same_l1 b tl i = some (decide (tl = b.Nodes.drop i))
  | [], i, h => by
    have e : b.Nodes.drop i = [] := List.drop_of_length_le (by simp at h; omega)
    rw [e]; rfl
  | e :: tl, i, h => by
    simp only [List.length_cons] at h
    have hi : i < b.Nodes.length := by omega
    unfold ref10_Same_l1
    rw [drop_idx hi, List.drop_eq_getElem_cons hi]
    simp only [Option.bind_some]
    by_cases he : e = b.Nodes[i]
    · rw [if_neg (by simp [he]), rsame_l1 b tl (i + 1) (by omega)]
      congr 1
      apply bool_iff
      simp only [decide_eq_true_eq]
      rw [he]
      exact ⟨fun h => by rw [h], fun h => (List.cons.inj h).2⟩
    · rw [if_pos (by simp [he])]
      congr 1
      apply bool_iff
      simp only [decide_eq_true_eq, Bool.false_eq_true, false_iff]
      exact fun h => he (List.cons.inj h).1
theorem ref10_Same_eq (a b : DExpr) : ref10_Same a b = some (decide (a.Nodes = b.Nodes)) := by
  unfold ref10_Same
  by_cases h : a.Nodes.length = b.Nodes.length
  · rw [if_neg (by simp [h]), rsame_l1 _ _ 0 (by omega)]
    simp
  · rw [if_pos (by simp; omega)]
    have : ¬ a.Nodes = b.Nodes := fun e => h (by rw [e])
    simp [this]
end Go.Proofs.YtdhledkpgaeoaaaGreatDoor

