/- The law RowTakes: whatever the input, true; the input reads as it did. -/
import Derived.Test.YtchjhcgkfglgiaaA0
import Derived.Test.YtchjhcgkfglgiaaP4
import Derived.Test.YtchjhcgkfglgiaaK7
namespace Go.Proofs.Ytchjhcgkfglgiaa
open Go Go.ChangeShapes Go.WideShapes Go.ChangeAt Go.RowKit

set_option maxRecDepth 100000 in
theorem rowTakes_lifted (os : Os) (started : os.Started) (H : Type) (enc : TypeId × Value → H) :
    ReturnsInHanded {} Try.checked os 5 .any (Rows.rowTakesSpec.pre6 enc Try.prog Try.f5 Rows.rowTakesRow.domain false) (Rows.rowTakesSpec.post enc Try.prog Try.f5 false true false false) := by
  refine returnsInHanded_of_change (C := Try.checked) own_ok started (by kernel_rfl) Try.func5
    (ChangeSpec.witness6 (enc := enc) (C := Try.checked) false ⟨#[], #[.slice none 0 0, .slice none 0 0], []⟩ 8 (by kernel_rfl) (by kernel_rfl) (by kernel_rfl) (by kernel_rfl)) ?_
  intro W base args ds gs before hval0 hW hcnd _
  have hval : ∀ (j : Nat) t v, Try.f5.params[j]? = some t → args[j]? = some v → Value.okWide Try.prog W .any base t v := hval0
  have hW' := hW
  obtain ⟨p, q, hA0, hV, hbf, hfz, hnd⟩ := hW
  have hA : DataW.TrodAll enc Try.prog W 0 (fun _ => true) true Try.f5.params.toList args.toList ds p := hA0
  have hgs : gs = [] := by
    cases gs with
    | nil => rfl
    | cons g gs => exact hV.elim
  rw [Try.params5] at hA hval
  obtain ⟨v0, v1, d0, d1, p0, p1, hargs, hds, hps, h0, h1⟩ := trodAll_two hA
  obtain ⟨a0, ha0, ho0⟩ := arg_one (toR26 enc W) (ref_sl refDValue) rfl h0 (cells_slice Try.underlying26 (hval 0 26 v0 rfl (by rw [hargs]; rfl)))
  obtain ⟨a1, ha1, ho1⟩ := arg_one (toR37 enc W) (ref_sl ref_ok) rfl h1 (cells_slice Try.underlying37 (hval 1 37 v1 rfl (by rw [hargs]; rfl)))
  have hcall := f5_ok a0 a1 (rowTakes_holds a0 ho0 a1) W (memS W) [v0, v1] (sat_hS W) ⟨ha0, ha1, trivial⟩
  have hargs' : args = [v0, v1].toArray := hargs
  rw [← hargs'] at hcall
  refine hcall.mono fun e W' ⟨v, S', he, hext, _, hv⟩ => ⟨v, he, ?_⟩
  rw [tB_iff.1 hv]
  exact law_post (tb := 4) laid_ok (by rw [Try.params5]; decide +kernel) rfl rfl Try.underlying4 hW' (by rw [hgs, hds]; rfl) (below_of_ext hext)
theorem rowTakes_said : Rows.RowTakesSaid :=
  OpenClaim.holds_of_wide 5 Try.f5 rfl rfl rfl rfl rfl rfl rfl ⟨rfl, rfl, rfl, rfl, rfl⟩ rfl rfl rfl rfl rfl (by kernel_rfl) Try.func5 (by kernel_rfl)
    (of_decide_eq_true (by kernel_rfl)) (by unfold Func.isWrapper; first | (rw [if_pos (by decide +kernel)]; kernel_rfl) | (rw [if_neg (by decide +kernel)]; exact ⟨rfl, rfl⟩))
    (fun os started H enc _ => rowTakes_lifted os started H enc)
#print axioms rowTakes_said
end Go.Proofs.Ytchjhcgkfglgiaa
