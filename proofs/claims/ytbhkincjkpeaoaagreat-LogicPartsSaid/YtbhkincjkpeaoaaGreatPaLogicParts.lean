/- Facts of this claim: LogicParts. -/
import Derived.Test.YtbhkincjkpeaoaaGreatPaA0
import Derived.Test.YtbhkincjkpeaoaaGreatPaP11
import Derived.Test.YtbhkincjkpeaoaaGreatPaQ2
namespace Go.Proofs.YtbhkincjkpeaoaaGreat
open Go Go.ChangeShapes Go.WideShapes Go.ChangeAt Go.RowKit

set_option maxRecDepth 100000 in
theorem logicParts_lifted (os : Os) (started : os.Started) (H : Type) (enc : TypeId × Value → H) :
    ReturnsInHanded {} Tryz.checked os 5 .any (Rows.logicPartsSpec.pre6 enc Tryz.prog Tryz.f5 Rows.logicPartsRow.domain false) (Rows.logicPartsSpec.post enc Tryz.prog Tryz.f5 false true false false) := by
  refine returnsInHanded_of_change (C := Tryz.checked) own_ok started (by kernel_rfl) Tryz.func5
    (ChangeSpec.witness6 (enc := enc) (C := Tryz.checked) false ⟨#[], #[.agg #[.slice none 0 0]], []⟩ 8 (by kernel_rfl) (by kernel_rfl) (by kernel_rfl) (by kernel_rfl)) ?_
  intro W base args ds gs before hval0 hW hcnd _
  have hval : ∀ (j : Nat) t v, Tryz.f5.params[j]? = some t → args[j]? = some v → Value.okWide Tryz.prog W .any base t v := hval0
  have hW' := hW
  obtain ⟨p, q, hA0, hV, hbf, hfz, hnd⟩ := hW
  have hA : DataW.TrodAll enc Tryz.prog W 0 (fun _ => true) true Tryz.f5.params.toList args.toList ds p := hA0
  have hgs : gs = [] := by
    cases gs with
    | nil => rfl
    | cons g gs => exact hV.elim
  rw [Tryz.params5] at hA hval
  obtain ⟨v0, d0, hargs, hds, h0⟩ := trodAll_one hA
  obtain ⟨a0, ha0, ho0⟩ := arg_agg (toR33 enc W) refDLogic rfl h0 (cells_struct Tryz.underlying33 (hval 0 33 v0 rfl (by rw [hargs]; rfl)))
  have hcall := f5_ok a0 (logicParts_true a0) W (memS W) [v0] (sat_hS W) ⟨ha0, trivial⟩
  have hargs' : args = [v0].toArray := hargs
  rw [← hargs'] at hcall
  refine hcall.mono fun e W' ⟨v, S', he, hext, _, hv⟩ => ⟨v, he, ?_⟩
  rw [tB_iff.1 hv]
  exact law_post (tb := 4) laid_ok (by rw [Tryz.params5]; decide +kernel) rfl rfl Tryz.underlying4 hW' (by rw [hgs, hds]; rfl) (below_of_ext hext)
theorem logicParts_said : Rows.LogicPartsSaid :=
  OpenClaim.holds_of_wide 5 Tryz.f5 rfl rfl rfl rfl rfl rfl rfl ⟨rfl, rfl, rfl, rfl, rfl⟩ rfl rfl rfl rfl rfl (by kernel_rfl) Tryz.func5 (by kernel_rfl)
    (of_decide_eq_true (by kernel_rfl)) (by unfold Func.isWrapper; first | (rw [if_pos (by decide +kernel)]; kernel_rfl) | (rw [if_neg (by decide +kernel)]; exact ⟨rfl, rfl⟩))
    (fun os started H enc _ => logicParts_lifted os started H enc)
#print axioms logicParts_said
end Go.Proofs.YtbhkincjkpeaoaaGreat

