/- Facts of this claim: LogicTells. -/
import Derived.Test.YtbhkincjkpeaoaaGreatTeA0
import Derived.Test.YtbhkincjkpeaoaaGreatTeP10
import Derived.Test.YtbhkincjkpeaoaaGreatTeQ2
namespace Go.Proofs.YtbhkincjkpeaoaaGreat
open Go Go.ChangeShapes Go.WideShapes Go.ChangeAt Go.RowKit

set_option maxRecDepth 100000 in
theorem logicTells_lifted (os : Os) (started : os.Started) (H : Type) (enc : TypeId × Value → H) :
    ReturnsInHanded {} Tryz.checked os 4 .any (Rows.logicTellsSpec.pre6 enc Tryz.prog Tryz.f4 Rows.logicTellsRow.domain false) (Rows.logicTellsSpec.post enc Tryz.prog Tryz.f4 false true false false) := by
  refine returnsInHanded_of_change (C := Tryz.checked) own_ok started (by kernel_rfl) Tryz.func4
    (ChangeSpec.witness6 (enc := enc) (C := Tryz.checked) false ⟨#[], #[.agg #[.slice none 0 0], .int .i64 0], []⟩ 8 (by kernel_rfl) (by kernel_rfl) (by kernel_rfl) (by kernel_rfl)) ?_
  intro W base args ds gs before hval0 hW hcnd _
  have hval : ∀ (j : Nat) t v, Tryz.f4.params[j]? = some t → args[j]? = some v → Value.okWide Tryz.prog W .any base t v := hval0
  have hW' := hW
  obtain ⟨p, q, hA0, hV, hbf, hfz, hnd⟩ := hW
  have hA : DataW.TrodAll enc Tryz.prog W 0 (fun _ => true) true Tryz.f4.params.toList args.toList ds p := hA0
  have hgs : gs = [] := by
    cases gs with
    | nil => rfl
    | cons g gs => exact hV.elim
  rw [Tryz.params4] at hA hval
  obtain ⟨v0, v1, d0, d1, p0, p1, hargs, hds, hps, h0, h1⟩ := trodAll_two hA
  obtain ⟨a0, ha0, ho0⟩ := arg_agg (toR33 enc W) refDLogic rfl h0 (cells_struct Tryz.underlying33 (hval 0 33 v0 rfl (by rw [hargs]; rfl)))
  obtain ⟨a1, ha1, ho1⟩ := arg_one (toR3 enc W) ref_ok rfl h1 (cells_int Tryz.underlying3 (hval 1 3 v1 rfl (by rw [hargs]; rfl)))
  have hcall := f4_ok a0 a1 (logicTells_true a0 a1) W (memS W) [v0, v1] (sat_hS W) ⟨ha0, ha1, trivial⟩
  have hargs' : args = [v0, v1].toArray := hargs
  rw [← hargs'] at hcall
  refine hcall.mono fun e W' ⟨v, S', he, hext, _, hv⟩ => ⟨v, he, ?_⟩
  rw [tB_iff.1 hv]
  exact law_post (tb := 4) laid_ok (by rw [Tryz.params4]; decide +kernel) rfl rfl Tryz.underlying4 hW' (by rw [hgs, hds]; rfl) (below_of_ext hext)
theorem logicTells_said : Rows.LogicTellsSaid :=
  OpenClaim.holds_of_wide 4 Tryz.f4 rfl rfl rfl rfl rfl rfl rfl ⟨rfl, rfl, rfl, rfl, rfl⟩ rfl rfl rfl rfl rfl (by kernel_rfl) Tryz.func4 (by kernel_rfl)
    (of_decide_eq_true (by kernel_rfl)) (by unfold Func.isWrapper; first | (rw [if_pos (by decide +kernel)]; kernel_rfl) | (rw [if_neg (by decide +kernel)]; exact ⟨rfl, rfl⟩))
    (fun os started H enc _ => logicTells_lifted os started H enc)
#print axioms logicTells_said
end Go.Proofs.YtbhkincjkpeaoaaGreat

