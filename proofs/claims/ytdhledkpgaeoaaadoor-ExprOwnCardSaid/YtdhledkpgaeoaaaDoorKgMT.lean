/- Facts of this claim: MT. -/
import Derived.Test.YtdhledkpgaeoaaaDoorKgF
import Derived.Test.YtdhledkpgaeoaaaDoorKgV3
namespace Go.Proofs.YtdhledkpgaeoaaaDoor
open Go

theorem law10_ExprOwn_l3_any (r1 : DExpr) (r3 q : List DValue) : ∀ ls : List Int, law10_ExprOwn_l3 r1 r3 q ls = if ls.any (fun c => decide ((r3.length : Int) ≤ c) || decide ((q.length : Int) ≤ c)) then some true else law10_ExprOwn_l3 r1 r3 q []
  | [] => rfl
  | c :: ls => by
    conv => lhs; unfold law10_ExprOwn_l3
    rw [law10_ExprOwn_l3_any r1 r3 q ls, List.any_cons]
    cases (decide ((r3.length : Int) ≤ c) || decide ((q.length : Int) ≤ c)) with
    | true => rfl
    | false => simp only [Bool.false_eq_true, if_false, Bool.false_or]
theorem any_perm {p : Int → Bool} {k : Int} {ls : List Int} (hk : k ∈ ls) : (k :: ls.filter (fun y => y ≠ k)).any p = ls.any p := by
  apply Bool.eq_iff_iff.2
  simp only [List.any_eq_true, List.mem_cons, List.mem_filter]
  constructor
  · rintro ⟨x, rfl | ⟨hx, _⟩, hp⟩
    · exact ⟨x, hk, hp⟩
    · exact ⟨x, hx, hp⟩
  · rintro ⟨x, hx, hp⟩
    by_cases h : x = k
    · exact ⟨x, .inl h, hp⟩
    · exact ⟨x, .inr ⟨hx, by simpa using h⟩, hp⟩
theorem law10_ExprOwn_l3_perm {r1 : DExpr} {r3 q : List DValue} {k : Int} {ls : List Int} (hk : k ∈ ls) : law10_ExprOwn_l3 r1 r3 q (k :: ls.filter (fun y => y ≠ k)) = law10_ExprOwn_l3 r1 r3 q ls := by
  rw [law10_ExprOwn_l3_any r1 r3 q ls, law10_ExprOwn_l3_any r1 r3 q (k :: _), any_perm hk]
end Go.Proofs.YtdhledkpgaeoaaaDoor

