/- Facts of this claim: PlaceGathers. -/
import Derived.Test.YtegigakgcnhiaaaGreatDoorLdA0
import Derived.Test.YtegigakgcnhiaaaGreatDoorLdP11
import Derived.Test.YtegigakgcnhiaaaGreatDoorLdQX
import Derived.Test.YtegigakgcnhiaaaGreatDoorTie
import Derived.Test.YtegigakgcnhiaaaGreatDoorCards
import Derived.SevenTiedAt
namespace Go.Proofs.YtegigakgcnhiaaaGreatDoor
open Go Go.ChangeShapes Go.WideShapes Go.ChangeAt Go.RowKit

set_option maxRecDepth 100000 in
theorem placeGathers_lifted (os : Os) (started : os.Started) (H : Type) (enc : TypeId × Value → H) :
  ReturnsInHanded {} Tryz.checked os 7 .any (fun w args => (Rows.placeGathersSpec.pre enc Tryz.prog Tryz.f7 [] false w args ∧ laidMetH Tryz.prog laidL w) ∧ sizedMet enc Tryz.prog Tryz.f7 (OpenSpec.ofChange Rows.placeGathersSpec) false w args)
   (Rows.placeGathersSpec.post enc Tryz.prog Tryz.f7 false true false false) := by
 refine returnsInHanded_of_change_and (C := Tryz.checked) (X := fun w _ => laidMetH Tryz.prog laidL w) (fun _ _ _ hh h => h.of_heap hh) own_ok started (by kernel_rfl) Tryz.func7
  (ChangeSpec.witness_shaped (enc := enc) (C := Tryz.checked) (os := os) (X := fun w _ => laidMetH Tryz.prog laidL w) false (World.laidAll Tryz.prog os laidL) #[.agg #[.slice none 0 0], .agg #[.slice none 0 0], .agg #[.slice none 0 0]] 8 (World.laidAll_os _ _ _) (World.shaped_of_ZipB (by kernel_rfl) (by kernel_rfl)) (by kernel_rfl) (by kernel_rfl) (by kernel_rfl) (door_met os _)) ?_
 intro W base args ds gs before hval0 hW hcnd _ hL _
 have hval : ∀ (j : Nat) t v, Tryz.f7.params[j]? = some t → args[j]? = some v → Value.okWide Tryz.prog W .any base t v := hval0
 have hW' := hW
 obtain ⟨p, q, hA0, hV, hbf, hfz, hnd⟩ := hW
 have hA : DataW.TrodAll enc Tryz.prog W 0 (fun _ => true) true Tryz.f7.params.toList args.toList ds p := hA0
 have hgs : gs = [] := by
  cases gs with
  | nil => rfl
  | cons g gs => exact hV.elim
 rw [Tryz.params7] at hA hval
 obtain ⟨v0, v1, v2, d0, d1, d2, p0, p1, p2, hargs, hds, hps, h0, h1, h2⟩ := trodAll_three hA
 obtain ⟨a0, ha0, ho0⟩ := arg_agg (toR24 enc W) refDCatalog rfl h0 (kE Tryz.underlying24 (hval 0 24 v0 rfl (by rw [hargs]; rfl)))
 obtain ⟨a1, ha1, ho1⟩ := arg_agg (toR36 enc W) refDLayout rfl h1 (kE Tryz.underlying36 (hval 1 36 v1 rfl (by rw [hargs]; rfl)))
 obtain ⟨a2, ha2, ho2⟩ := arg_agg (toR36 enc W) refDLayout rfl h2 (kE Tryz.underlying36 (hval 2 36 v2 rfl (by rw [hargs]; rfl)))
 have hcall := f7_ok a0 a1 a2 (placeGathers_holds a0 a1 ho1 a2) W (memS W) [v0, v1, v2] (sat_hS W (glob_laid hL) (tab_laid hL)) ⟨ha0, ha1, ha2, trivial⟩
 have hargs' : args = [v0, v1, v2].toArray := hargs
 rw [← hargs'] at hcall
 refine hcall.mono fun e W' ⟨v, S', he, hext, _, hv⟩ => ⟨v, he, ?_⟩
 rw [db.1 hv]
 exact law_post (tb := 4) laid_ok (by rw [Tryz.params7]; decide +kernel) rfl rfl Tryz.underlying4 hW' (by rw [hgs, hds]; rfl) (below_of_ext hext)
theorem placeGathers_said : Rows.PlaceGathersSaid :=
 OpenClaim.holds_of_wide 7 Tryz.f7 rfl rfl rfl rfl rfl rfl rfl ⟨rfl, rfl, rfl, rfl, rfl⟩ rfl rfl rfl rfl rfl (by kernel_rfl) Tryz.func7 (by kernel_rfl)
  (of_decide_eq_true (by kernel_rfl)) (by unfold Func.isWrapper; first | (rw [if_pos (by decide +kernel)]; kernel_rfl) | (rw [if_neg (by decide +kernel)]; exact ⟨rfl, rfl⟩))
  (fun os started H enc _ => placeGathers_lifted os started H enc)
theorem placeGathers_card : Rows.PlaceGathersCardSaid :=
 Claim7.holds_tied_plain_at .later [] [.data, .widerDeep, .data, .pinned, .pinned] true (true, "9fe06f30064eaa4591b8584ce6b4a71622ef1bb80e1e9e5e10d551360d5da12f") false
  placeGathers_said (fun _ h => by cases h) (by kernel_rfl) (fun _ h => by cases h) placeGathers_row_tie rfl ⟨rfl, rfl⟩ (by kernel_rfl) rfl
  (fun f fn hf hfn => by
   obtain rfl : f = 7 := Option.some.inj ((show Tryz.prog.funcNamed "bowsprit/bowspritlaw17.PlaceGathers" = some 7 by kernel_rfl).symm.trans hf) |>.symm
   obtain rfl : fn = Tryz.f7 := (Option.some.inj (Tryz.func7.symm.trans hfn)).symm
   exact ⟨by kernel_rfl, fun j t ht => by
    rw [Tryz.params7] at ht
    have hm : t ∈ [24, 36, 36] := by simpa using Array.mem_of_getElem? ht
    have hall : ([24, 36, 36].all fun u => !Tryz.prog.wantsStandIn u) = true := by kernel_rfl
    exact (show Tryz.prog.wantsStandIn t = false by simpa using List.all_eq_true.1 hall t hm)⟩)
  (by kernel_rfl)
#print axioms placeGathers_card
end Go.Proofs.YtegigakgcnhiaaaGreatDoor

