/- Facts of this claim: LogicWidths. -/
import Derived.Test.YtbhkincjkpeaoaaWiA0
import Derived.Test.YtbhkincjkpeaoaaWiP5
import Derived.Test.YtbhkincjkpeaoaaWiQ2
namespace Go.Proofs.Ytbhkincjkpeaoaa
open Go Go.ChangeShapes Go.WideShapes Go.ChangeAt Go.RowKit

set_option maxRecDepth 100000 in
theorem logicWidths_lifted (os : Os) (started : os.Started) (H : Type) (enc : TypeId × Value → H) :
    ReturnsInHanded {} Try.checked os 3 .any (Rows.logicWidthsSpec.pre6 enc Try.prog Try.f3 Rows.logicWidthsRow.domain false) (Rows.logicWidthsSpec.post enc Try.prog Try.f3 false true false false) := by
  refine returnsInHanded_of_change (C := Try.checked) own_ok started (by kernel_rfl) Try.func3
    (ChangeSpec.witness6 (enc := enc) (C := Try.checked) false ⟨#[], #[.agg #[.slice none 0 0], .agg #[.slice none 0 0], .agg #[.int .i64 0, .int .i64 0, .int .i64 0, .int .i64 0, .slice none 0 0, .bool false, .slice none 0 0, .slice none 0 0, .slice none 0 0, .slice none 0 0, .slice none 0 0, .int .i64 0]], []⟩ 8 (by kernel_rfl) (by kernel_rfl) (by kernel_rfl) (by kernel_rfl)) ?_
  intro W base args ds gs before hval0 hW hcnd _
  have hval : ∀ (j : Nat) t v, Try.f3.params[j]? = some t → args[j]? = some v → Value.okWide Try.prog W .any base t v := hval0
  have hW' := hW
  obtain ⟨p, q, hA0, hV, hbf, hfz, hnd⟩ := hW
  have hA : DataW.TrodAll enc Try.prog W 0 (fun _ => true) true Try.f3.params.toList args.toList ds p := hA0
  have hgs : gs = [] := by
    cases gs with
    | nil => rfl
    | cons g gs => exact hV.elim
  rw [Try.params3] at hA hval
  obtain ⟨v0, v1, v2, d0, d1, d2, p0, p1, p2, hargs, hds, hps, h0, h1, h2⟩ := trodAll_three hA
  obtain ⟨a0, ha0, ho0⟩ := arg_agg (toR24 enc W) refDLogic rfl h0 (cells_struct Try.underlying24 (hval 0 24 v0 rfl (by rw [hargs]; rfl)))
  obtain ⟨a1, ha1, ho1⟩ := arg_agg (toR24 enc W) refDLogic rfl h1 (cells_struct Try.underlying24 (hval 1 24 v1 rfl (by rw [hargs]; rfl)))
  obtain ⟨a2, ha2, ho2⟩ := arg_agg (toR33 enc W) refDLNode rfl h2 (cells_struct Try.underlying33 (hval 2 33 v2 rfl (by rw [hargs]; rfl)))
  have hcall := f3_ok a0 a1 a2 (logicWidths_true a0 a1 a2) W (memS W) [v0, v1, v2] (sat_hS W) ⟨ha0, ha1, ha2, trivial⟩
  have hargs' : args = [v0, v1, v2].toArray := hargs
  rw [← hargs'] at hcall
  refine hcall.mono fun e W' ⟨v, S', he, hext, _, hv⟩ => ⟨v, he, ?_⟩
  rw [tB_iff.1 hv]
  exact law_post (tb := 4) laid_ok (by rw [Try.params3]; decide +kernel) rfl rfl Try.underlying4 hW' (by rw [hgs, hds]; rfl) (below_of_ext hext)
theorem logicWidths_said : Rows.LogicWidthsSaid :=
  OpenClaim.holds_of_wide 3 Try.f3 rfl rfl rfl rfl rfl rfl rfl ⟨rfl, rfl, rfl, rfl, rfl⟩ rfl rfl rfl rfl rfl (by kernel_rfl) Try.func3 (by kernel_rfl)
    (of_decide_eq_true (by kernel_rfl)) (by unfold Func.isWrapper; first | (rw [if_pos (by decide +kernel)]; kernel_rfl) | (rw [if_neg (by decide +kernel)]; exact ⟨rfl, rfl⟩))
    (fun os started H enc _ => logicWidths_lifted os started H enc)
#print axioms logicWidths_said
end Go.Proofs.Ytbhkincjkpeaoaa

