/- Facts of this claim: LogicDoubles. -/
import Derived.Test.YtbhkincjkpeaoaaDoA0
import Derived.Test.YtbhkincjkpeaoaaDoP6
import Derived.Test.YtbhkincjkpeaoaaDoQ2
namespace Go.Proofs.Ytbhkincjkpeaoaa
open Go Go.ChangeShapes Go.WideShapes Go.ChangeAt Go.RowKit

set_option maxRecDepth 100000 in
theorem logicDoubles_lifted (os : Os) (started : os.Started) (H : Type) (enc : TypeId × Value → H) :
    ReturnsInHanded {} Try.checked os 4 .any (Rows.logicDoublesSpec.pre6 enc Try.prog Try.f4 Rows.logicDoublesRow.domain false) (Rows.logicDoublesSpec.post enc Try.prog Try.f4 false true false false) := by
  refine returnsInHanded_of_change (C := Try.checked) own_ok started (by kernel_rfl) Try.func4
    (ChangeSpec.witness6 (enc := enc) (C := Try.checked) false ⟨#[], #[.agg #[.slice none 0 0]], []⟩ 8 (by kernel_rfl) (by kernel_rfl) (by kernel_rfl) (by kernel_rfl)) ?_
  intro W base args ds gs before hval0 hW hcnd _
  have hval : ∀ (j : Nat) t v, Try.f4.params[j]? = some t → args[j]? = some v → Value.okWide Try.prog W .any base t v := hval0
  have hW' := hW
  obtain ⟨p, q, hA0, hV, hbf, hfz, hnd⟩ := hW
  have hA : DataW.TrodAll enc Try.prog W 0 (fun _ => true) true Try.f4.params.toList args.toList ds p := hA0
  have hgs : gs = [] := by
    cases gs with
    | nil => rfl
    | cons g gs => exact hV.elim
  rw [Try.params4] at hA hval
  obtain ⟨v0, d0, hargs, hds, h0⟩ := trodAll_one hA
  obtain ⟨a0, ha0, ho0⟩ := arg_agg (toR24 enc W) refDLogic rfl h0 (cells_struct Try.underlying24 (hval 0 24 v0 rfl (by rw [hargs]; rfl)))
  have hcall := f4_ok a0 (logicDoubles_true a0) W (memS W) [v0] (sat_hS W) ⟨ha0, trivial⟩
  have hargs' : args = [v0].toArray := hargs
  rw [← hargs'] at hcall
  refine hcall.mono fun e W' ⟨v, S', he, hext, _, hv⟩ => ⟨v, he, ?_⟩
  rw [tB_iff.1 hv]
  exact law_post (tb := 4) laid_ok (by rw [Try.params4]; decide +kernel) rfl rfl Try.underlying4 hW' (by rw [hgs, hds]; rfl) (below_of_ext hext)
theorem logicDoubles_said : Rows.LogicDoublesSaid :=
  OpenClaim.holds_of_wide 4 Try.f4 rfl rfl rfl rfl rfl rfl rfl ⟨rfl, rfl, rfl, rfl, rfl⟩ rfl rfl rfl rfl rfl (by kernel_rfl) Try.func4 (by kernel_rfl)
    (of_decide_eq_true (by kernel_rfl)) (by unfold Func.isWrapper; first | (rw [if_pos (by decide +kernel)]; kernel_rfl) | (rw [if_neg (by decide +kernel)]; exact ⟨rfl, rfl⟩))
    (fun os started H enc _ => logicDoubles_lifted os started H enc)
#print axioms logicDoubles_said
end Go.Proofs.Ytbhkincjkpeaoaa

