/- Facts of this claim: ExprOwn. -/
import Derived.Test.YtdhledkpgaeoaaaDoorKgA0
import Derived.Test.YtdhledkpgaeoaaaDoorKgP4
import Derived.Test.YtdhledkpgaeoaaaDoorKgMW
import Derived.Test.YtdhledkpgaeoaaaDoorTie
import Derived.Test.YtdhledkpgaeoaaaDoorCards
import Derived.SevenTiedAt
namespace Go.Proofs.YtdhledkpgaeoaaaDoor
open Go Go.ChangeShapes Go.WideShapes Go.ChangeAt Go.RowKit

set_option maxRecDepth 100000 in
theorem exprOwn_lifted (os : Os) (started : os.Started) (H : Type) (enc : TypeId × Value → H) :
    ReturnsInHanded {} Tryd.checked os 3 .any (fun w args => (Rows.exprOwnSpec.pre enc Tryd.prog Tryd.f3 [] false w args ∧ laidMetH Tryd.prog laidL w) ∧ sizedMet enc Tryd.prog Tryd.f3 (OpenSpec.ofChange Rows.exprOwnSpec) false w args)
      (Rows.exprOwnSpec.post enc Tryd.prog Tryd.f3 false true false false) := by
  refine returnsInHanded_of_change_and (C := Tryd.checked) (X := fun w _ => laidMetH Tryd.prog laidL w) (fun _ _ _ hh h => h.of_heap hh) own_ok started (by kernel_rfl) Tryd.func3
    (ChangeSpec.witness_shaped (enc := enc) (C := Tryd.checked) (os := os) (X := fun w _ => laidMetH Tryd.prog laidL w) false (World.doorLaid Tryd.prog 400 os) #[.agg #[.slice none 0 0], .slice none 0 0, .slice none 0 0] 8 rfl (World.shaped_of_RefB (by kernel_rfl) (by kernel_rfl)) (by kernel_rfl) (by kernel_rfl) (by kernel_rfl) (door_met os _)) ?_
  intro W base args ds gs before hval0 hW hcnd _ hL _
  have hval : ∀ (j : Nat) t v, Tryd.f3.params[j]? = some t → args[j]? = some v → Value.okWide Tryd.prog W .any base t v := hval0
  have hW' := hW
  obtain ⟨p, q, hA0, hV, hbf, hfz, hnd⟩ := hW
  have hA : DataW.TrodAll enc Tryd.prog W 0 (fun _ => true) true Tryd.f3.params.toList args.toList ds p := hA0
  have hgs : gs = [] := by
    cases gs with
    | nil => rfl
    | cons g gs => exact hV.elim
  rw [Tryd.params3] at hA hval
  obtain ⟨v0, v1, v2, d0, d1, d2, p0, p1, p2, hargs, hds, hps, h0, h1, h2⟩ := trodAll_three hA
  obtain ⟨a0, ha0, ho0⟩ := arg_agg (toR24 enc W) refDExpr rfl h0 (cells_struct Tryd.underlying24 (hval 0 24 v0 rfl (by rw [hargs]; rfl)))
  obtain ⟨a1, ha1, ho1⟩ := arg_one (toR26 enc W) (ref_sl refDValue) rfl h1 (cells_slice Tryd.underlying26 (hval 1 26 v1 rfl (by rw [hargs]; rfl)))
  obtain ⟨a2, ha2, ho2⟩ := arg_one (toR26 enc W) (ref_sl refDValue) rfl h2 (cells_slice Tryd.underlying26 (hval 2 26 v2 rfl (by rw [hargs]; rfl)))
  have hcall := f3_ok a0 a1 a2 (exprOwn_holds a0 ho0 a1 ho1 a2 ho2) W (memS W) [v0, v1, v2] (sat_hS W (glob_laid hL)) ⟨ha0, ha1, ha2, trivial⟩
  have hargs' : args = [v0, v1, v2].toArray := hargs
  rw [← hargs'] at hcall
  refine hcall.mono fun e W' ⟨v, S', he, hext, _, hv⟩ => ⟨v, he, ?_⟩
  rw [tB_iff.1 hv]
  exact law_post (tb := 4) laid_ok (by rw [Tryd.params3]; decide +kernel) rfl rfl Tryd.underlying4 hW' (by rw [hgs, hds]; rfl) (below_of_ext hext)
theorem exprOwn_said : Rows.ExprOwnSaid :=
  OpenClaim.holds_of_wide 3 Tryd.f3 rfl rfl rfl rfl rfl rfl rfl ⟨rfl, rfl, rfl, rfl, rfl⟩ rfl rfl rfl rfl rfl (by kernel_rfl) Tryd.func3 (by kernel_rfl)
    (of_decide_eq_true (by kernel_rfl)) (by unfold Func.isWrapper; first | (rw [if_pos (by decide +kernel)]; kernel_rfl) | (rw [if_neg (by decide +kernel)]; exact ⟨rfl, rfl⟩))
    (fun os started H enc _ => exprOwn_lifted os started H enc)
theorem exprOwn_card : Rows.ExprOwnCardSaid :=
  Claim7.holds_tied_plain_at .later [] [.data] true (true, "b96e62370d379f4c6f5788584acb869544374c7d65e342bdaae81901ee2663cc") false
    exprOwn_said (fun _ h => by cases h) (by kernel_rfl) (fun _ h => by cases h) exprOwn_row_tie rfl ⟨rfl, rfl⟩ (by kernel_rfl) rfl
    (fun f fn hf hfn => by
      obtain rfl : f = 3 := Option.some.inj ((show Tryd.prog.funcNamed "bowsprit/bowspritlaw10.ExprOwn" = some 3 by kernel_rfl).symm.trans hf) |>.symm
      obtain rfl : fn = Tryd.f3 := (Option.some.inj (Tryd.func3.symm.trans hfn)).symm
      exact ⟨by kernel_rfl, fun j t ht => by
        rw [Tryd.params3] at ht
        have hm : t ∈ [24, 26, 26] := by simpa using Array.mem_of_getElem? ht
        have hall : ([24, 26, 26].all fun u => !Tryd.prog.wantsStandIn u) = true := by kernel_rfl
        exact (show Tryd.prog.wantsStandIn t = false by simpa using List.all_eq_true.1 hall t hm)⟩)
    (by kernel_rfl)
#print axioms exprOwn_card
end Go.Proofs.YtdhledkpgaeoaaaDoor

