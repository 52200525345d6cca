/- The law RowTells: whatever the input, true; the input reads as it did. -/
import Derived.Test.YtchjhcgkfglgiaaRows
import Derived.Test.YtchjhcgkfglgiaaL3
import Derived.Test.YtchjhcgkfglgiaaP2
import Derived.Test.YtchjhcgkfglgiaaW21
namespace Go.Proofs.Ytchjhcgkfglgiaa
open Go Go.ChangeShapes Go.WideShapes Go.ChangeAt Go.RowKit

theorem own_ok : ownKnob Try.prog.godebug = none := by kernel_rfl
theorem laid_ok : laidOutB Try.prog = true := by kernel_rfl
theorem toR33 {H : Type} (enc : TypeId × Value → H) (W : World) : ToR enc Try.prog W 33 rpDValue :=
  toR_struct (l := [(3, 0), (2, 1), (31, 2), (9, 3)]) (by kernel_rfl) (by kernel_rfl) (fun y => ⟨⟨y.1, y.2.1, y.2.2.1, y.2.2.2⟩, rfl⟩)
    (frep_cons (toR_int Try.underlying3 (by kernel_rfl)) rfl (frep_cons (toR_int Try.underlying2 (by kernel_rfl)) rfl (frep_cons (toR_int Try.underlying31 (by kernel_rfl)) rfl (frep_one (toR_str Try.underlying9 (by kernel_rfl))))))
theorem toR26 {H : Type} (enc : TypeId × Value → H) (W : World) : ToR enc Try.prog W 26 (rSl rpDValue) := toR_slice Try.underlying26 (by kernel_rfl) rfl (toR33 enc W)
theorem toR22 {H : Type} (enc : TypeId × Value → H) (W : World) : ToR enc Try.prog W 22 (rSl (rSl rpDValue)) := toR_slice Try.underlying22 (by kernel_rfl) rfl (toR26 enc W)

set_option maxRecDepth 100000 in
theorem rowTells_lifted (os : Os) (started : os.Started) (H : Type) (enc : TypeId × Value → H) :
    ReturnsInHanded {} Try.checked os 3 .any (Rows.rowTellsSpec.pre6 enc Try.prog Try.f3 Rows.rowTellsRow.domain false) (Rows.rowTellsSpec.post enc Try.prog Try.f3 false true false false) := by
  refine returnsInHanded_of_change (C := Try.checked) own_ok started (by kernel_rfl) Try.func3
    (ChangeSpec.witness6 (enc := enc) (C := Try.checked) false ⟨#[], #[.slice none 0 0, .slice none 0 0], []⟩ 8 (by kernel_rfl) (by kernel_rfl) (by kernel_rfl) (by kernel_rfl)) ?_
  intro W base args ds gs before hval0 hW hcnd _
  have hval : ∀ (j : Nat) t v, Try.f3.params[j]? = some t → args[j]? = some v → Value.okWide Try.prog W .any base t v := hval0
  have hW' := hW
  obtain ⟨p, q, hA0, hV, hbf, hfz, hnd⟩ := hW
  have hA : DataW.TrodAll enc Try.prog W 0 (fun _ => true) true Try.f3.params.toList args.toList ds p := hA0
  have hgs : gs = [] := by
    cases gs with
    | nil => rfl
    | cons g gs => exact hV.elim
  rw [Try.params3] at hA hval
  obtain ⟨v0, v1, d0, d1, p0, p1, hargs, hds, hps, h0, h1⟩ := trodAll_two hA
  obtain ⟨a, ha⟩ := rep_of_trod (toR22 enc W) rfl h0 (cells_slice Try.underlying22 (hval 0 22 v0 rfl (by rw [hargs]; rfl)))
  obtain ⟨b, hb⟩ := rep_of_trod (toR22 enc W) rfl h1 (cells_slice Try.underlying22 (hval 1 22 v1 rfl (by rw [hargs]; rfl)))
  have hcall := f3_ok a b (rowTells_true a b) W (memS W) [v0, v1] (sat_hS W) ⟨ha, hb, trivial⟩
  have hargs' : args = [v0, v1].toArray := hargs
  rw [← hargs'] at hcall
  refine hcall.mono fun e W' ⟨v, S', he, hext, _, hv⟩ => ⟨v, he, ?_⟩
  rw [tB_iff.1 hv]
  exact law_post (tb := 4) laid_ok (by rw [Try.params3]; decide +kernel) rfl rfl Try.underlying4 hW' (by rw [hgs, hds]; rfl) (below_of_ext hext)
theorem rowTells_said : Rows.RowTellsSaid :=
  OpenClaim.holds_of_wide 3 Try.f3 rfl rfl rfl rfl rfl rfl rfl ⟨rfl, rfl, rfl, rfl, rfl⟩ rfl rfl rfl rfl rfl (by kernel_rfl) Try.func3 (by kernel_rfl)
    (of_decide_eq_true (by kernel_rfl)) (by unfold Func.isWrapper; first | (rw [if_pos (by decide +kernel)]; kernel_rfl) | (rw [if_neg (by decide +kernel)]; exact ⟨rfl, rfl⟩))
    (fun os started H enc _ => rowTells_lifted os started H enc)
#print axioms rowTells_said
end Go.Proofs.Ytchjhcgkfglgiaa
