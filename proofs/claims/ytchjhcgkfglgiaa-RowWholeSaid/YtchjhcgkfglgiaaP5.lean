/- The walks, part 5. -/
import Derived.Test.YtchjhcgkfglgiaaT
import Derived.Test.YtchjhcgkfglgiaaP4
namespace Go.Proofs.Ytchjhcgkfglgiaa
open Go

set_option maxRecDepth 100000 in
theorem f70_own (n : Int) {R : (List (List DValue))} (h : slices_Grow_api_Row_api_Row n = some R) : SpecO Try.prog 70 [tV (.slice none 0 0), tD (rI .i64) n] false (rSl rpDValue) 26 R := by
  refine SpecO.of Try.func70 rfl rfl rfl fun w0 S0 => ?_
  refine CG.seq ?_
  refine CG.region ?_
  refine RG.fresh false (rSl rpDValue) 26 ?_
  refine RG.op (ok_assign hVn) rfl ?_
  refine RG.nil ?_
  refine AT.next ?_
  refine CG.sjoin0 (Z := slices_Grow_api_Row_api_Row_k1 n = some R) (Of := []) (Gf := [(0, tV (.slice none 0 0)), (1, tD (rI .i64) n)]) (fun h => ?_) (fun K => ?_)
  · skip
    refine CG.sjoin3 (Z := fun s l c => slices_Grow_api_Row_api_Row_k2 s = some R) (Of := fun s l c => [arr (rSl rpDValue) 26 l c s]) (Gf := fun s l c => [(0, tV (oslV l c s.length))]) (fun s l c h => ?_) (fun K1 => ?_)
    · skip
      refine CG.seq ?_
      refine CG.region ?_
      refine RG.op (ok_move (ht rfl)) rfl ?_
      refine RG.op (ok_assign (ht rfl)) rfl ?_
      refine RG.nil ?_
      refine AT.next ?_
      refine CG.ret ?_
      cases so h
      exact AT.retO rfl rfl
    · skip
      refine CG.seq ?_
      refine CG.region ?_
      refine RG.op (ok_move (ht rfl)) rfl ?_
      refine RG.op (ok_move (ht rfl)) rfl ?_
      refine RG.op (ok_capNil Try.underlying22 (ht rfl)) rfl ?_
      refine RG.op (ok_move (ht rfl)) rfl ?_
      refine RG.op (ok_lenNil Try.underlying22 (ht rfl)) rfl ?_
      refine RG.op (ok_sub (ht rfl) (ht rfl)) rfl ?_
      refine RG.op (ok_sub (ht rfl) (ht rfl)) rfl ?_
      refine RG.op (ok_assign (ht rfl)) rfl ?_
      refine RG.nil ?_
      refine AT.next ?_
      refine CG.seq ?_
      refine CG.region ?_
      refine RG.op (ok_move (ht rfl)) rfl ?_
      refine RG.op (ok_gtr (ht rfl) hI) rfl ?_
      refine RG.nil ?_
      refine AT.next ?_
      refine CG.cond (ht rfl) (fun hc => ?_) (fun hc => ?_)
      · have h := ct h hc
        refine CG.region ?_
        refine RG.op (ok_move (ht rfl)) rfl ?_
        refine RG.op (ok_move (ht rfl)) rfl ?_
        refine RG.op (ok_capNil Try.underlying22 (ht rfl)) rfl ?_
        refine RG.op (ok_sliceNil Try.underlying22 ti26 (ht rfl) (ht rfl)) rfl ?_
        refine RG.op (ok_move (ht rfl)) rfl ?_
        obtain ⟨u, q_u, h⟩ := bs h
        obtain ⟨mk, q_mk, h⟩ := bs h
        refine RG.eff (eff_appendZ (r := (rSl rpDValue)) (x := []) ti26 rfl rfl rfl rfl Try.underlying22 Try.underlying3 (fun _ => ⟨none, 0, rfl, Nat.le_refl _, Nat.zero_le _, .inl rfl⟩) (ht rfl) (ht rfl) (gt0_some q_u) q_mk) rfl (fun l1 c1 => ?_)
        refine RG.op (ok_move (ht rfl)) rfl ?_
        refine RG.op (ok_lenNil Try.underlying22 (ht rfl)) rfl ?_
        obtain ⟨y, q_y, h⟩ := bs h
        refine RG.op (ok_sliceHiO Try.underlying22 ti26 rfl (.head _) (ht rfl) (ht rfl) q_y) rfl ?_
        refine RG.cut q_y ?_
        refine RG.op (ok_assign (ht rfl)) rfl ?_
        refine RG.nil ?_
        exact AT.sub (K1 y l1 c1 h) ⟨rfl, trivial⟩
      · have h := cf h hc
        refine CG.skip ?_
        refine AT.fresh false (rSl rpDValue) 26 ?_
        exact AT.sub (K1 ([] : List (List DValue)) none 0 h) ⟨rfl, trivial⟩
  · skip
    refine CG.seq ?_
    refine CG.region ?_
    refine RG.op (ok_move (ht rfl)) rfl ?_
    refine RG.op (ok_lss (ht rfl) hI) rfl ?_
    refine RG.nil ?_
    refine AT.next ?_
    refine CG.cond (ht rfl) (fun hc => ?_) (fun hc => ?_)
    · have h := ct h hc
      refine CG.region ?_
      exact (nn h).elim
    · have h := cf h hc
      refine CG.skip ?_
      refine AT.drop ?_
      exact AT.sub (K h) ⟨rfl, rfl, trivial⟩
theorem f70_ok (n : Int) {R : (List (List DValue))} (h : slices_Grow_api_Row_api_Row n = some R) : Spec Try.prog 70 [tV (.slice none 0 0), tD (rI .i64) n] (tD (rSl (rSl rpDValue)) R) := (f70_own _ h).spec

set_option maxRecDepth 100000 in
theorem f50_own (slices : (List (List (List DValue)))) {R : (List (List DValue))} (h : slices_Concat_api_Row_api_Row slices = some R) : SpecO Try.prog 50 [tD (rSl (rSl (rSl rpDValue))) slices] false (rSl rpDValue) 26 R := by
  refine SpecO.of Try.func50 rfl rfl rfl fun w0 S0 => ?_
  refine CG.seq ?_
  refine CG.region ?_
  refine RG.fresh false (rSl rpDValue) 26 ?_
  refine RG.op (ok_assign hVn) rfl ?_
  refine RG.nil ?_
  refine AT.next ?_
  refine CG.seq ?_
  refine CG.region ?_
  refine RG.op (ok_assign hI) rfl ?_
  refine RG.nil ?_
  refine AT.next ?_
  refine CG.seq ?_
  refine CG.seq ?_
  refine CG.region ?_
  refine RG.op (ok_move (ht rfl)) rfl ?_
  refine RG.op (ok_lenSl Try.underlying58 (ht rfl)) rfl ?_
  refine RG.op (ok_move hI) rfl ?_
  refine RG.nil ?_
  refine AT.next ?_
  refine CG.block ?_
  refine CG.have_len (k := 9) rfl (fun hN => ?_)
  refine CG.loop ?_
  refine LG.drop ?_
  refine LG.sub (LG.list2 (Z := fun ls i size => (slices.drop i = ls) ∧ slices_Concat_api_Row_api_Row_l1 slices ls size = some R) (Of := fun _ i size => []) (Gf := fun _ i size => [(0, tD (rSl (rSl (rSl rpDValue))) slices), (3, tD (rI .i64) size), (9, tD (rSl (rSl (rSl rpDValue))) slices), (10, tD (rI .i64) (slices.length : Int)), (11, tD (rI .i64) (i : Int))]) (fun i size h => ?_) (fun e tl ih i size h => ?_) slices 0 (0 : Int) ⟨rfl, h⟩) ⟨rfl, rfl, rfl, rfl, rfl, trivial⟩
  · obtain ⟨hx, h⟩ := h
    refine LG.unfold ?_
    refine CG.seq ?_
    refine CG.region ?_
    refine RG.op (ok_lss (ht rfl) (ht rfl)) rfl ?_
    refine RG.nil ?_
    refine AT.next ?_
    refine CG.seq ?_
    refine CG.condF (ht rfl) (dropF hx) ?_
    refine CG.exit ?_
    refine AT.then_exit (AT.then_exit (AT.in_exit ?_))
    refine AT.next ?_
    refine CG.seq ?_
    refine CG.region ?_
    refine RG.op (ok_move (ht rfl)) rfl ?_
    obtain ⟨r, q_r, h⟩ := bs h
    refine RG.callO cb70 (f70_own _ q_r) ⟨hV, (ht rfl), trivial⟩ rfl (fun l c => ?_)
    refine RG.op (ok_assign (ht rfl)) rfl ?_
    refine RG.nil ?_
    refine AT.next ?_
    refine CG.seq ?_
    refine CG.seq ?_
    refine CG.region ?_
    refine RG.op (ok_move (ht rfl)) rfl ?_
    refine RG.op (ok_lenSl Try.underlying58 (ht rfl)) rfl ?_
    refine RG.op (ok_move hI) rfl ?_
    refine RG.nil ?_
    refine AT.next ?_
    refine CG.block ?_
    refine CG.have_len (k := 25) rfl (fun hN1 => ?_)
    refine CG.loop ?_
    refine LG.sub (LG.list4 (Z := fun ls1 i1 newslice l1 c1 => (slices.drop i1 = ls1) ∧ slices_Concat_api_Row_api_Row_l2 ls1 newslice = some R) (Of := fun _ i1 newslice l1 c1 => [arr (rSl rpDValue) 26 l1 c1 newslice]) (Gf := fun _ i1 newslice l1 c1 => [(6, tV (oslV l1 c1 newslice.length)), (25, tD (rSl (rSl (rSl rpDValue))) slices), (26, tD (rI .i64) (slices.length : Int)), (27, tD (rI .i64) (i1 : Int))]) (fun i1 newslice l1 c1 h => ?_) (fun e1 tl1 ih1 i1 newslice l1 c1 h => ?_) slices 0 r l c ⟨rfl, h⟩) ⟨rfl, rfl, rfl, rfl, trivial⟩
    · obtain ⟨hx1, h⟩ := h
      refine LG.unfold ?_
      refine CG.seq ?_
      refine CG.region ?_
      refine RG.op (ok_lss (ht rfl) (ht rfl)) rfl ?_
      refine RG.nil ?_
      refine AT.next ?_
      refine CG.seq ?_
      refine CG.condF (ht rfl) (dropF hx1) ?_
      refine CG.exit ?_
      refine AT.then_exit (AT.then_exit (AT.in_exit ?_))
      refine AT.next ?_
      refine CG.seq ?_
      refine CG.region ?_
      refine RG.op (ok_move (ht rfl)) rfl ?_
      refine RG.op (ok_assign (ht rfl)) rfl ?_
      refine RG.nil ?_
      refine AT.next ?_
      refine CG.ret ?_
      cases so h
      exact AT.retO rfl rfl
    · obtain ⟨hx1, h⟩ := h
      refine LG.unfold ?_
      refine CG.seq ?_
      refine CG.region ?_
      refine RG.op (ok_lss (ht rfl) (ht rfl)) rfl ?_
      refine RG.nil ?_
      refine AT.next ?_
      refine CG.seq ?_
      refine CG.condT (ht rfl) (dropT hx1) ?_
      refine CG.skip ?_
      refine AT.next ?_
      refine CG.seq ?_
      refine CG.block ?_
      refine CG.seq ?_
      refine CG.region ?_
      refine RG.op (ok_indexAddr Try.underlying58 ti22 rfl (ht rfl) (ht rfl) (dropI hx1)) rfl ?_
      refine RG.op (ok_load ti22 rfl rfl (ht rfl)) rfl ?_
      refine RG.op (ok_assign (ht rfl)) rfl ?_
      refine RG.nil ?_
      refine AT.next ?_
      refine CG.region ?_
      refine RG.op (ok_move (ht rfl)) rfl ?_
      refine RG.op (ok_move (ht rfl)) rfl ?_
      obtain ⟨newslice1, q_newslice1, h⟩ := bs h
      refine RG.append ti26 rfl rfl rfl rfl Try.underlying22 rfl rfl (ht rfl) (ht rfl) q_newslice1 (fun l2 c2 => ?_)
      refine RG.op (ok_assign (ht rfl)) rfl ?_
      refine RG.nil ?_
      refine AT.in_normal ?_
      refine AT.next ?_
      refine CG.region ?_
      refine RG.op (ok_incN (dropL hx1 hN1) (ht rfl) hI) rfl ?_
      refine RG.op (ok_move (ht rfl)) rfl ?_
      refine RG.nil ?_
      exact AT.round (LG.sub (ih1 (i1 + 1) newslice1 l2 c2 ⟨dropS hx1, h⟩) ⟨rfl, rfl, rfl, rfl, trivial⟩)
  · obtain ⟨hx, h⟩ := h
    refine LG.unfold ?_
    refine CG.seq ?_
    refine CG.region ?_
    refine RG.op (ok_lss (ht rfl) (ht rfl)) rfl ?_
    refine RG.nil ?_
    refine AT.next ?_
    refine CG.seq ?_
    refine CG.condT (ht rfl) (dropT hx) ?_
    refine CG.skip ?_
    refine AT.next ?_
    refine CG.seq ?_
    refine CG.block ?_
    refine CG.seq ?_
    refine CG.region ?_
    refine RG.op (ok_indexAddr Try.underlying58 ti22 rfl (ht rfl) (ht rfl) (dropI hx)) rfl ?_
    refine RG.op (ok_load ti22 rfl rfl (ht rfl)) rfl ?_
    refine RG.op (ok_assign (ht rfl)) rfl ?_
    refine RG.nil ?_
    refine AT.next ?_
    refine CG.seq ?_
    refine CG.region ?_
    refine RG.op (ok_move (ht rfl)) rfl ?_
    refine RG.op (ok_move (ht rfl)) rfl ?_
    refine RG.op (ok_lenSl Try.underlying22 (ht rfl)) rfl ?_
    refine RG.op (ok_add (ht rfl) (ht rfl)) rfl ?_
    refine RG.op (ok_assign (ht rfl)) rfl ?_
    refine RG.nil ?_
    refine AT.next ?_
    refine CG.seq ?_
    refine CG.region ?_
    refine RG.op (ok_move (ht rfl)) rfl ?_
    refine RG.op (ok_lss (ht rfl) hI) rfl ?_
    refine RG.nil ?_
    refine AT.next ?_
    refine CG.cond (ht rfl) (fun hc => ?_) (fun hc => ?_)
    · have h := ct h hc
      refine CG.region ?_
      exact (nn h).elim
    · have h := cf h hc
      refine CG.skip ?_
      refine AT.in_normal ?_
      refine AT.next ?_
      refine CG.region ?_
      refine RG.op (ok_incN (dropL hx hN) (ht rfl) hI) rfl ?_
      refine RG.op (ok_move (ht rfl)) rfl ?_
      refine RG.nil ?_
      exact AT.round (LG.sub (ih (i + 1) (IntKind.i64.wrap (size + (e.length : Int))) ⟨dropS hx, h⟩) ⟨rfl, rfl, rfl, rfl, rfl, trivial⟩)
theorem f50_ok (slices : (List (List (List DValue)))) {R : (List (List DValue))} (h : slices_Concat_api_Row_api_Row slices = some R) : Spec Try.prog 50 [tD (rSl (rSl (rSl rpDValue))) slices] (tD (rSl (rSl rpDValue)) R) := (f50_own _ h).spec

set_option maxRecDepth 100000 in
theorem f26_ok (l : (List (List (List DValue)))) {R : (List (List DValue)) × Int} (h : row_Merge l = some R) : Spec Try.prog 26 [tD (rSl (rSl (rSl rpDValue))) l] (tT [tD (rSl (rSl rpDValue)) R.1, tD (rI .i64) R.2]) := by
  refine Spec.of Try.func26 rfl rfl rfl fun w0 S0 => ?_
  refine CG.seq ?_
  refine CG.region ?_
  refine RG.op (ok_assign (show HasTy _ _ _ (tD (rSl (rSl rpDValue)) ([])) from hNil)) rfl ?_
  refine RG.op (ok_assign hI) rfl ?_
  refine RG.nil ?_
  refine AT.next ?_
  refine CG.seq ?_
  refine CG.seq ?_
  refine CG.region ?_
  refine RG.op (ok_move (ht rfl)) rfl ?_
  obtain ⟨r, q_r, h⟩ := bs h
  refine RG.op (ok_call cb47 (f47_ok _ q_r) ⟨(ht rfl), trivial⟩) rfl ?_
  refine RG.op (ok_assign (ht rfl)) rfl ?_
  refine RG.nil ?_
  refine AT.next ?_
  refine CG.seq ?_
  refine CG.region ?_
  refine RG.op (ok_move (ht rfl)) rfl ?_
  refine RG.op (ok_neqI (ht rfl) hI) rfl ?_
  refine RG.nil ?_
  refine AT.next ?_
  refine CG.cond (ht rfl) (fun hc => ?_) (fun hc => ?_)
  · have h := ct h hc
    refine CG.seq ?_
    refine CG.region ?_
    refine RG.op (ok_move (ht rfl)) rfl ?_
    refine RG.op (ok_assign (show HasTy _ _ _ (tD (rSl (rSl rpDValue)) ([])) from hNil)) rfl ?_
    refine RG.op (ok_assign (ht rfl)) rfl ?_
    refine RG.nil ?_
    refine AT.next ?_
    refine CG.ret ?_
    refine AT.then_ret ?_
    cases so h
    exact AT.ret2 rfl rfl rfl
  · have h := cf h hc
    refine CG.skip ?_
    refine AT.next ?_
    refine CG.seq ?_
    refine CG.region ?_
    refine RG.op (ok_move (ht rfl)) rfl ?_
    obtain ⟨r1, q_r1, h⟩ := bs h
    refine RG.callO cb50 (f50_own _ q_r1) ⟨(ht rfl), trivial⟩ rfl (fun l1 c => ?_)
    refine RG.freeze ?_
    refine RG.tipAt 11 rfl ?_
    obtain ⟨r2, q_r2, h⟩ := bs h
    refine RG.op (ok_call cb23 (f23_ok _ q_r2) ⟨(tO_d (ht rfl)), trivial⟩) rfl ?_
    refine RG.op (ok_extract rfl (ht rfl)) rfl ?_
    refine RG.op (ok_extract rfl (ht rfl)) rfl ?_
    refine RG.op (ok_assign (ht rfl)) rfl ?_
    refine RG.op (ok_assign (ht rfl)) rfl ?_
    refine RG.nil ?_
    refine AT.next ?_
    refine CG.ret ?_
    refine AT.drop ?_
    cases so h
    exact AT.ret2 rfl rfl rfl

set_option maxRecDepth 100000 in
theorem f28_ok (l : (List (List DValue))) {R : (List (List DValue))} (h : ref05_Sorted l = some R) : Spec Try.prog 28 [tD (rSl (rSl rpDValue)) l] (tD (rSl (rSl rpDValue)) R) := by
  refine Spec.of Try.func28 rfl rfl rfl fun w0 S0 => ?_
  refine CG.seq ?_
  refine CG.region ?_
  refine RG.op (ok_assign (show HasTy _ _ _ (tD (rSl (rSl rpDValue)) ([])) from hNil)) rfl ?_
  refine RG.nil ?_
  refine AT.next ?_
  refine CG.seq ?_
  refine CG.region ?_
  refine RG.op (ok_assign (show HasTy _ _ _ (tD (rSl (rSl rpDValue)) ([])) from hNil)) rfl ?_
  refine RG.nil ?_
  refine AT.next ?_
  refine CG.seq ?_
  refine CG.seq ?_
  refine CG.region ?_
  refine RG.op (ok_assign hI) rfl ?_
  refine RG.nil ?_
  refine AT.next ?_
  refine CG.block ?_
  refine CG.have_len (k := 0) rfl (fun hN => ?_)
  refine CG.loop ?_
  refine LG.sub (LG.list2 (Z := fun ls i out => (l.drop i = ls) ∧ ref05_Sorted_l1 ls out = some R) (Of := fun _ i out => []) (Gf := fun _ i out => [(0, tD (rSl (rSl rpDValue)) l), (3, tD (rSl (rSl rpDValue)) out), (4, tD (rI .i64) (i : Int))]) (fun i out h => ?_) (fun e tl ih i out h => ?_) l 0 ([]) ⟨rfl, h⟩) ⟨rfl, rfl, rfl, trivial⟩
  · obtain ⟨hx, h⟩ := h
    refine LG.unfold ?_
    refine CG.seq ?_
    refine CG.seq ?_
    refine CG.region ?_
    refine RG.op (ok_move (ht rfl)) rfl ?_
    refine RG.op (ok_move (ht rfl)) rfl ?_
    refine RG.op (ok_lenSl Try.underlying22 (ht rfl)) rfl ?_
    refine RG.op (ok_lss (ht rfl) (ht rfl)) rfl ?_
    refine RG.nil ?_
    refine AT.next ?_
    refine CG.condF (ht rfl) (dropF hx) ?_
    refine CG.exit ?_
    refine AT.then_exit (AT.then_exit (AT.in_exit ?_))
    refine AT.next ?_
    refine CG.seq ?_
    refine CG.region ?_
    refine RG.op (ok_move (ht rfl)) rfl ?_
    refine RG.op (ok_assign (ht rfl)) rfl ?_
    refine RG.nil ?_
    refine AT.next ?_
    refine CG.ret ?_
    cases so h
    exact AT.ret1 rfl rfl
  · obtain ⟨hx, h⟩ := h
    refine LG.unfold ?_
    refine CG.seq ?_
    refine CG.seq ?_
    refine CG.region ?_
    refine RG.op (ok_move (ht rfl)) rfl ?_
    refine RG.op (ok_move (ht rfl)) rfl ?_
    refine RG.op (ok_lenSl Try.underlying22 (ht rfl)) rfl ?_
    refine RG.op (ok_lss (ht rfl) (ht rfl)) rfl ?_
    refine RG.nil ?_
    refine AT.next ?_
    refine CG.condT (ht rfl) (dropT hx) ?_
    refine CG.skip ?_
    refine AT.next ?_
    refine CG.seq ?_
    refine CG.block ?_
    refine CG.seq ?_
    refine CG.region ?_
    refine RG.fresh false (rSl rpDValue) 26 ?_
    refine RG.op (ok_assign hVn) rfl ?_
    refine RG.nil ?_
    refine AT.next ?_
    refine CG.seq ?_
    refine CG.region ?_
    refine RG.op (ok_assign hB) rfl ?_
    refine RG.nil ?_
    refine AT.next ?_
    refine CG.seq ?_
    refine CG.seq ?_
    refine CG.region ?_
    refine RG.op (ok_assign hI) rfl ?_
    refine RG.nil ?_
    refine AT.next ?_
    refine CG.block ?_
    refine CG.have_len (k := 3) rfl (fun hN1 => ?_)
    refine CG.loop ?_
    refine LG.sub (LG.list5 (Z := fun ls1 i1 next l1 c done => (out.drop i1 = ls1) ∧ ref05_Sorted_l2 (ref05_Sorted_l1 tl) e ls1 next done = some R) (Of := fun _ i1 next l1 c done => [arr (rSl rpDValue) 26 l1 c next]) (Gf := fun _ i1 next l1 c done => [(0, tD (rSl (rSl rpDValue)) l), (3, tD (rSl (rSl rpDValue)) out), (4, tD (rI .i64) (i : Int)), (5, tV (oslV l1 c next.length)), (6, tD rB done), (7, tD (rI .i64) (i1 : Int))]) (fun i1 next l1 c done h => ?_) (fun e1 tl1 ih1 i1 next l1 c done h => ?_) out 0 ([] : List (List DValue)) none 0 false ⟨rfl, h⟩) ⟨rfl, rfl, rfl, rfl, rfl, rfl, trivial⟩
    · obtain ⟨hx1, h⟩ := h
      refine LG.unfold ?_
      refine CG.seq ?_
      refine CG.seq ?_
      refine CG.region ?_
      refine RG.op (ok_move (ht rfl)) rfl ?_
      refine RG.op (ok_move (ht rfl)) rfl ?_
      refine RG.op (ok_lenSl Try.underlying22 (ht rfl)) rfl ?_
      refine RG.op (ok_lss (ht rfl) (ht rfl)) rfl ?_
      refine RG.nil ?_
      refine AT.next ?_
      refine CG.condF (ht rfl) (dropF hx1) ?_
      refine CG.exit ?_
      refine AT.then_exit (AT.then_exit (AT.in_exit ?_))
      refine AT.next ?_
      refine CG.sjoin3 (Z := fun next1 l2 c1 => ref05_Sorted_k1 (ref05_Sorted_l1 tl) next1 = some R) (Of := fun next1 l2 c1 => [arr (rSl rpDValue) 26 l2 c1 next1]) (Gf := fun next1 l2 c1 => [(0, tD (rSl (rSl rpDValue)) l), (4, tD (rI .i64) (i : Int)), (5, tV (oslV l2 c1 next1.length))]) (fun next1 l2 c1 h => ?_) (fun K => ?_)
      · skip
        refine CG.region ?_
        refine RG.op (ok_move (ht rfl)) rfl ?_
        refine RG.op (ok_assign (ht rfl)) rfl ?_
        refine RG.nil ?_
        refine AT.in_normal ?_
        refine AT.next ?_
        refine CG.region ?_
        refine RG.op (ok_move (ht rfl)) rfl ?_
        refine RG.op (ok_incN (dropL hx hN) (ht rfl) hI) rfl ?_
        refine RG.op (ok_assign (ht rfl)) rfl ?_
        refine RG.nil ?_
        refine AT.freeze ?_
        refine AT.tipAt 5 rfl ?_
        refine AT.tipAt 57 rfl ?_
        refine AT.tipAt 3 rfl ?_
        refine AT.dataAt 3 rfl ?_
        refine AT.drop ?_
        exact AT.round (LG.sub (ih (i + 1) next1 ⟨dropS hx, h⟩) ⟨rfl, rfl, rfl, trivial⟩)
      · skip
        refine CG.seq ?_
        refine CG.region ?_
        refine RG.op (ok_move (ht rfl)) rfl ?_
        refine RG.op (ok_not (ht rfl)) rfl ?_
        refine RG.nil ?_
        refine AT.next ?_
        refine CG.cond (ht rfl) (fun hc => ?_) (fun hc => ?_)
        · have h := ct h hc
          refine CG.region ?_
          refine RG.op (ok_move (ht rfl)) rfl ?_
          refine RG.op (ok_move (ht rfl)) rfl ?_
          refine RG.op (ok_move (ht rfl)) rfl ?_
          refine RG.op (ok_indexAddr Try.underlying22 ti26 rfl (ht rfl) (ht rfl) (dropI hx)) rfl ?_
          refine RG.op (ok_load ti26 rfl rfl (ht rfl)) rfl ?_
          refine RG.op (ok_buildSlice (r := (rSl rpDValue)) (ys := [e]) (xs := [.tmp 54]) Try.underlying22 ti26 rfl rfl rfl rfl rfl ⟨(ht rfl), trivial⟩) rfl ?_
          obtain ⟨next2, q_next2, h⟩ := bs h
          refine RG.append ti26 rfl rfl rfl rfl Try.underlying22 rfl rfl (ht rfl) (ht rfl) q_next2 (fun l3 c2 => ?_)
          refine RG.op (ok_assign (ht rfl)) rfl ?_
          refine RG.nil ?_
          exact AT.sub (K next2 l3 c2 h) ⟨rfl, rfl, rfl, trivial⟩
        · have h := cf h hc
          refine CG.skip ?_
          exact AT.sub (K next l1 c h) ⟨rfl, rfl, rfl, trivial⟩
    · obtain ⟨hx1, h⟩ := h
      refine LG.unfold ?_
      refine CG.seq ?_
      refine CG.seq ?_
      refine CG.region ?_
      refine RG.op (ok_move (ht rfl)) rfl ?_
      refine RG.op (ok_move (ht rfl)) rfl ?_
      refine RG.op (ok_lenSl Try.underlying22 (ht rfl)) rfl ?_
      refine RG.op (ok_lss (ht rfl) (ht rfl)) rfl ?_
      refine RG.nil ?_
      refine AT.next ?_
      refine CG.condT (ht rfl) (dropT hx1) ?_
      refine CG.skip ?_
      refine AT.next ?_
      refine CG.seq ?_
      refine CG.block ?_
      refine CG.sjoin4 (Z := fun next3 l4 c3 done1 => ref05_Sorted_k2 (ref05_Sorted_l2 (ref05_Sorted_l1 tl) e tl1) e1 next3 done1 = some R) (Of := fun next3 l4 c3 done1 => [arr (rSl rpDValue) 26 l4 c3 next3]) (Gf := fun next3 l4 c3 done1 => [(0, tD (rSl (rSl rpDValue)) l), (3, tD (rSl (rSl rpDValue)) out), (4, tD (rI .i64) (i : Int)), (5, tV (oslV l4 c3 next3.length)), (6, tD rB done1), (7, tD (rI .i64) (i1 : Int))]) (fun next3 l4 c3 done1 h => ?_) (fun K1 => ?_)
      · skip
        refine CG.region ?_
        refine RG.op (ok_move (ht rfl)) rfl ?_
        refine RG.op (ok_move (ht rfl)) rfl ?_
        refine RG.op (ok_move (ht rfl)) rfl ?_
        refine RG.op (ok_indexAddr Try.underlying22 ti26 rfl (ht rfl) (ht rfl) (dropI hx1)) rfl ?_
        refine RG.op (ok_load ti26 rfl rfl (ht rfl)) rfl ?_
        refine RG.op (ok_buildSlice (r := (rSl rpDValue)) (ys := [e1]) (xs := [.tmp 45]) Try.underlying22 ti26 rfl rfl rfl rfl rfl ⟨(ht rfl), trivial⟩) rfl ?_
        obtain ⟨next4, q_next4, h⟩ := bs h
        refine RG.append ti26 rfl rfl rfl rfl Try.underlying22 rfl rfl (ht rfl) (ht rfl) q_next4 (fun l5 c4 => ?_)
        refine RG.op (ok_assign (ht rfl)) rfl ?_
        refine RG.nil ?_
        refine AT.in_normal ?_
        refine AT.next ?_
        refine CG.region ?_
        refine RG.op (ok_move (ht rfl)) rfl ?_
        refine RG.op (ok_incN (dropL hx1 hN1) (ht rfl) hI) rfl ?_
        refine RG.op (ok_assign (ht rfl)) rfl ?_
        refine RG.nil ?_
        exact AT.round (LG.sub (ih1 (i1 + 1) next4 l5 c4 done1 ⟨dropS hx1, h⟩) ⟨rfl, rfl, rfl, rfl, rfl, rfl, trivial⟩)
      · skip
        refine CG.seq ?_
        obtain ⟨t, q_t, h⟩ := bs h
        obtain ⟨r, h1t, h0t⟩ := og q_t
        have q_rg := fun hb => (h1t hb).1
        refine CG.draw (ts := [tD rB done, tD rB (!done), tD rB (!done), tOpt (!done) (tD (rSl (rSl rpDValue)) l), tOpt (!done) (tD (rI .i64) (i : Int)), tOpt (!done) (tPtr (rSl rpDValue) e), tOpt (!done) (tD (rSl rpDValue) e), tOpt (!done) (tD (rSl (rSl rpDValue)) out), tOpt (!done) (tD (rI .i64) (i1 : Int)), tOpt (!done) (tPtr (rSl rpDValue) e1), tOpt (!done) (tD (rSl rpDValue) e1), tOpt (!done) (tD (rI .i64) r), tOpt (!done) (tD rB (decide (r < (0 : Int)))), tD rB t]) mixed rfl rfl
          ⟨⟨[⟨6, _, none⟩], _, rfl, ⟨rfl, trivial⟩, rfl, rfl, OpG.plain rfl (ok_move (ht rfl))⟩,
          ⟨⟨[⟨20, _, some 0⟩], _, rfl, ⟨rfl, trivial⟩, rfl, rfl, OpG.plain rfl (ok_not (ht rfl))⟩,
          ⟨⟨[⟨21, _, some 1⟩], _, rfl, ⟨rfl, trivial⟩, rfl, rfl, OpG.plain rfl (ok_move (ht rfl))⟩,
          ⟨⟨[⟨0, _, none⟩, ⟨22, _, some 2⟩], _, rfl, ⟨rfl, rfl, trivial⟩, rfl, rfl, OpG.gt rfl rfl rfl rfl (fun hg => ok_move (ht rfl))⟩,
          ⟨⟨[⟨4, _, none⟩, ⟨22, _, some 2⟩], _, rfl, ⟨rfl, rfl, trivial⟩, rfl, rfl, OpG.gt rfl rfl rfl rfl (fun hg => ok_move (ht rfl))⟩,
          ⟨⟨[⟨23, _, some 3⟩, ⟨24, _, some 4⟩, ⟨22, _, some 2⟩], _, rfl, ⟨rfl, rfl, rfl, trivial⟩, rfl, rfl, OpG.gt rfl rfl rfl rfl (fun hg => ok_indexAddr Try.underlying22 ti26 rfl (htO rfl hg) (htO rfl hg) (dropI hx))⟩,
          ⟨⟨[⟨25, _, some 5⟩, ⟨22, _, some 2⟩], _, rfl, ⟨rfl, rfl, trivial⟩, rfl, rfl, OpG.gt rfl rfl rfl rfl (fun hg => ok_load ti26 rfl rfl (htO rfl hg))⟩,
          ⟨⟨[⟨3, _, none⟩, ⟨22, _, some 2⟩], _, rfl, ⟨rfl, rfl, trivial⟩, rfl, rfl, OpG.gt rfl rfl rfl rfl (fun hg => ok_move (ht rfl))⟩,
          ⟨⟨[⟨7, _, none⟩, ⟨22, _, some 2⟩], _, rfl, ⟨rfl, rfl, trivial⟩, rfl, rfl, OpG.gt rfl rfl rfl rfl (fun hg => ok_move (ht rfl))⟩,
          ⟨⟨[⟨27, _, some 7⟩, ⟨28, _, some 8⟩, ⟨22, _, some 2⟩], _, rfl, ⟨rfl, rfl, rfl, trivial⟩, rfl, rfl, OpG.gt rfl rfl rfl rfl (fun hg => ok_indexAddr Try.underlying22 ti26 rfl (htO rfl hg) (htO rfl hg) (dropI hx1))⟩,
          ⟨⟨[⟨29, _, some 9⟩, ⟨22, _, some 2⟩], _, rfl, ⟨rfl, rfl, trivial⟩, rfl, rfl, OpG.gt rfl rfl rfl rfl (fun hg => ok_load ti26 rfl rfl (htO rfl hg))⟩,
          ⟨⟨[⟨26, _, some 6⟩, ⟨30, _, some 10⟩, ⟨22, _, some 2⟩], _, rfl, ⟨rfl, rfl, rfl, trivial⟩, rfl, rfl, OpG.gt rfl rfl rfl rfl (fun hg => ok_call cb13 (f13_ok _ _ (q_rg hg)) ⟨(htO rfl hg), (htO rfl hg), trivial⟩)⟩,
          ⟨⟨[⟨31, _, some 11⟩, ⟨22, _, some 2⟩], _, rfl, ⟨rfl, rfl, trivial⟩, rfl, rfl, OpG.gt rfl rfl rfl rfl (fun hg => ok_lss (htO rfl hg) hI)⟩,
          ⟨⟨[⟨22, _, some 2⟩, ⟨32, _, some 12⟩], _, rfl, ⟨rfl, rfl, trivial⟩, rfl, rfl, OpG.plain rfl (ok_pickAndM (ht rfl) (fun hb => (htO rfl hb)) (fun hb => (h1t hb).2) h0t)⟩,
          trivial⟩⟩⟩⟩⟩⟩⟩⟩⟩⟩⟩⟩⟩⟩ ?_
        refine AT.next ?_
        refine CG.cond (ht rfl) (fun hc => ?_) (fun hc => ?_)
        · have h := ct h hc
          refine CG.seq ?_
          refine CG.region ?_
          refine RG.op (ok_move (ht rfl)) rfl ?_
          refine RG.op (ok_move (ht rfl)) rfl ?_
          refine RG.op (ok_move (ht rfl)) rfl ?_
          refine RG.op (ok_indexAddr Try.underlying22 ti26 rfl (ht rfl) (ht rfl) (dropI hx)) rfl ?_
          refine RG.op (ok_load ti26 rfl rfl (ht rfl)) rfl ?_
          refine RG.op (ok_buildSlice (r := (rSl rpDValue)) (ys := [e]) (xs := [.tmp 38]) Try.underlying22 ti26 rfl rfl rfl rfl rfl ⟨(ht rfl), trivial⟩) rfl ?_
          obtain ⟨next5, q_next5, h⟩ := bs h
          refine RG.append ti26 rfl rfl rfl rfl Try.underlying22 rfl rfl (ht rfl) (ht rfl) q_next5 (fun l6 c5 => ?_)
          refine RG.op (ok_assign (ht rfl)) rfl ?_
          refine RG.nil ?_
          refine AT.next ?_
          refine CG.region ?_
          refine RG.op (ok_assign hB) rfl ?_
          refine RG.nil ?_
          exact AT.sub (K1 next5 l6 c5 true h) ⟨rfl, rfl, rfl, rfl, rfl, rfl, trivial⟩
        · have h := cf h hc
          refine CG.skip ?_
          exact AT.sub (K1 next l1 c done h) ⟨rfl, rfl, rfl, rfl, rfl, rfl, trivial⟩

set_option maxRecDepth 100000 in
theorem f29_ok (a1 : (List (List DValue))) (b : (List (List DValue))) {R : Bool} (h : ref05_Same a1 b = some R) : Spec Try.prog 29 [tD (rSl (rSl rpDValue)) a1, tD (rSl (rSl rpDValue)) b] (tD rB R) := by
  refine Spec.of Try.func29 rfl rfl rfl fun w0 S0 => ?_
  refine CG.seq ?_
  refine CG.region ?_
  refine RG.op (ok_assign hB) rfl ?_
  refine RG.nil ?_
  refine AT.next ?_
  refine CG.seq ?_
  refine CG.seq ?_
  refine CG.region ?_
  refine RG.op (ok_move (ht rfl)) rfl ?_
  refine RG.op (ok_lenSl Try.underlying22 (ht rfl)) rfl ?_
  refine RG.op (ok_move (ht rfl)) rfl ?_
  refine RG.op (ok_lenSl Try.underlying22 (ht rfl)) rfl ?_
  refine RG.op (ok_neqI (ht rfl) (ht rfl)) rfl ?_
  refine RG.nil ?_
  refine AT.next ?_
  refine CG.cond (ht rfl) (fun hc => ?_) (fun hc => ?_)
  · have h := ct h hc
    refine CG.seq ?_
    refine CG.region ?_
    refine RG.op (ok_assign hB) rfl ?_
    refine RG.nil ?_
    refine AT.next ?_
    refine CG.ret ?_
    refine AT.then_ret ?_
    cases so h
    exact AT.ret1 rfl rfl
  · have h := cf h hc
    refine CG.skip ?_
    refine AT.next ?_
    refine CG.seq ?_
    refine CG.seq ?_
    refine CG.region ?_
    refine RG.op (ok_assign hI) rfl ?_
    refine RG.nil ?_
    refine AT.next ?_
    refine CG.block ?_
    refine CG.have_len (k := 0) rfl (fun hN => ?_)
    refine CG.loop ?_
    refine LG.sub (LG.list1 (Z := fun ls i  => (a1.drop i = ls) ∧ ref05_Same_l1 b ls i  = some R) (Of := fun _ i  => []) (Gf := fun _ i  => [(0, tD (rSl (rSl rpDValue)) a1), (1, tD (rSl (rSl rpDValue)) b), (5, tD (rI .i64) (i : Int))]) (fun i  h => ?_) (fun e tl ih i  h => ?_) a1 0  ⟨rfl, h⟩) ⟨rfl, rfl, rfl, trivial⟩
    · obtain ⟨hx, h⟩ := h
      refine LG.unfold ?_
      refine CG.seq ?_
      refine CG.seq ?_
      refine CG.region ?_
      refine RG.op (ok_move (ht rfl)) rfl ?_
      refine RG.op (ok_move (ht rfl)) rfl ?_
      refine RG.op (ok_lenSl Try.underlying22 (ht rfl)) rfl ?_
      refine RG.op (ok_lss (ht rfl) (ht rfl)) rfl ?_
      refine RG.nil ?_
      refine AT.next ?_
      refine CG.condF (ht rfl) (dropF hx) ?_
      refine CG.exit ?_
      refine AT.then_exit (AT.then_exit (AT.in_exit ?_))
      refine AT.next ?_
      refine CG.seq ?_
      refine CG.region ?_
      refine RG.op (ok_assign hB) rfl ?_
      refine RG.nil ?_
      refine AT.next ?_
      refine CG.ret ?_
      cases so h
      exact AT.ret1 rfl rfl
    · obtain ⟨hx, h⟩ := h
      refine LG.unfold ?_
      refine CG.seq ?_
      refine CG.seq ?_
      refine CG.region ?_
      refine RG.op (ok_move (ht rfl)) rfl ?_
      refine RG.op (ok_move (ht rfl)) rfl ?_
      refine RG.op (ok_lenSl Try.underlying22 (ht rfl)) rfl ?_
      refine RG.op (ok_lss (ht rfl) (ht rfl)) rfl ?_
      refine RG.nil ?_
      refine AT.next ?_
      refine CG.condT (ht rfl) (dropT hx) ?_
      refine CG.skip ?_
      refine AT.next ?_
      refine CG.seq ?_
      refine CG.block ?_
      refine CG.seq ?_
      obtain ⟨e1, q_e1, h⟩ := bs h
      obtain ⟨r, q_r, h⟩ := bs h
      refine CG.draw (ts := [tD (rSl (rSl rpDValue)) a1, tD (rI .i64) (i : Int), tPtr (rSl rpDValue) e, tD (rSl rpDValue) e, tD (rSl (rSl rpDValue)) b, tD (rI .i64) (i : Int), tPtr (rSl rpDValue) e1, tD (rSl rpDValue) e1, tD (rI .i64) r, tD rB (r != (0 : Int))]) mixed rfl rfl
        ⟨⟨[⟨0, _, none⟩], _, rfl, ⟨rfl, trivial⟩, rfl, rfl, OpG.plain rfl (ok_move (ht rfl))⟩,
        ⟨⟨[⟨5, _, none⟩], _, rfl, ⟨rfl, trivial⟩, rfl, rfl, OpG.plain rfl (ok_move (ht rfl))⟩,
        ⟨⟨[⟨17, _, some 0⟩, ⟨18, _, some 1⟩], _, rfl, ⟨rfl, rfl, trivial⟩, rfl, rfl, OpG.plain rfl (ok_indexAddr Try.underlying22 ti26 rfl (ht rfl) (ht rfl) (dropI hx))⟩,
        ⟨⟨[⟨19, _, some 2⟩], _, rfl, ⟨rfl, trivial⟩, rfl, rfl, OpG.plain rfl (ok_load ti26 rfl rfl (ht rfl))⟩,
        ⟨⟨[⟨1, _, none⟩], _, rfl, ⟨rfl, trivial⟩, rfl, rfl, OpG.plain rfl (ok_move (ht rfl))⟩,
        ⟨⟨[⟨5, _, none⟩], _, rfl, ⟨rfl, trivial⟩, rfl, rfl, OpG.plain rfl (ok_move (ht rfl))⟩,
        ⟨⟨[⟨21, _, some 4⟩, ⟨22, _, some 5⟩], _, rfl, ⟨rfl, rfl, trivial⟩, rfl, rfl, OpG.plain rfl (ok_indexAddr Try.underlying22 ti26 rfl (ht rfl) (ht rfl) q_e1)⟩,
        ⟨⟨[⟨23, _, some 6⟩], _, rfl, ⟨rfl, trivial⟩, rfl, rfl, OpG.plain rfl (ok_load ti26 rfl rfl (ht rfl))⟩,
        ⟨⟨[⟨20, _, some 3⟩, ⟨24, _, some 7⟩], _, rfl, ⟨rfl, rfl, trivial⟩, rfl, rfl, OpG.plain rfl (ok_call cb13 (f13_ok _ _ q_r) ⟨(ht rfl), (ht rfl), trivial⟩)⟩,
        ⟨⟨[⟨25, _, some 8⟩], _, rfl, ⟨rfl, trivial⟩, rfl, rfl, OpG.plain rfl (ok_neqI (ht rfl) hI)⟩,
        trivial⟩⟩⟩⟩⟩⟩⟩⟩⟩⟩ ?_
      refine AT.next ?_
      refine CG.cond (ht rfl) (fun hc => ?_) (fun hc => ?_)
      · have h := ct h hc
        refine CG.seq ?_
        refine CG.region ?_
        refine RG.op (ok_assign hB) rfl ?_
        refine RG.nil ?_
        refine AT.next ?_
        refine CG.ret ?_
        refine AT.in_ret (AT.then_ret (AT.then_ret (AT.in_ret (AT.then_ret ?_))))
        cases so h
        exact AT.ret1 rfl rfl
      · have h := cf h hc
        refine CG.skip ?_
        refine AT.in_normal ?_
        refine AT.next ?_
        refine CG.region ?_
        refine RG.op (ok_move (ht rfl)) rfl ?_
        refine RG.op (ok_incN (dropL hx hN) (ht rfl) hI) rfl ?_
        refine RG.op (ok_assign (ht rfl)) rfl ?_
        refine RG.nil ?_
        exact AT.round (LG.sub (ih (i + 1)  ⟨dropS hx, h⟩) ⟨rfl, rfl, rfl, trivial⟩)

set_option maxRecDepth 100000 in
theorem f30_own (l : (List (List DValue))) {R : (List (List DValue))} (h : ref05_Distinct l = some R) : SpecO Try.prog 30 [tD (rSl (rSl rpDValue)) l] false (rSl rpDValue) 26 R := by
  refine SpecO.of Try.func30 rfl rfl rfl fun w0 S0 => ?_
  refine CG.seq ?_
  refine CG.region ?_
  refine RG.fresh false (rSl rpDValue) 26 ?_
  refine RG.op (ok_assign hVn) rfl ?_
  refine RG.nil ?_
  refine AT.next ?_
  refine CG.seq ?_
  refine CG.region ?_
  refine RG.fresh false (rSl rpDValue) 26 ?_
  refine RG.op (ok_assign hVn) rfl ?_
  refine RG.nil ?_
  refine AT.next ?_
  refine CG.seq ?_
  refine CG.region ?_
  refine RG.op (ok_move (ht rfl)) rfl ?_
  obtain ⟨r, q_r, h⟩ := bs h
  refine RG.op (ok_call cb28 (f28_ok _ q_r) ⟨(ht rfl), trivial⟩) rfl ?_
  refine RG.op (ok_assign (ht rfl)) rfl ?_
  refine RG.nil ?_
  refine AT.next ?_
  refine CG.seq ?_
  refine CG.seq ?_
  refine CG.region ?_
  refine RG.op (ok_assign hI) rfl ?_
  refine RG.nil ?_
  refine AT.next ?_
  refine CG.block ?_
  refine CG.have_len (k := 4) rfl (fun hN => ?_)
  refine CG.loop ?_
  refine LG.front1 ?_
  refine LG.drop ?_
  refine LG.sub (LG.list4 (Z := fun ls i out l1 c => (r.drop i = ls) ∧ ref05_Distinct_l1 r ls i out = some R) (Of := fun _ i out l1 c => [arr (rSl rpDValue) 26 l1 c out]) (Gf := fun _ i out l1 c => [(3, tV (oslV l1 c out.length)), (4, tD (rSl (rSl rpDValue)) r), (5, tD (rI .i64) (i : Int))]) (fun i out l1 c h => ?_) (fun e tl ih i out l1 c h => ?_) r 0 ([] : List (List DValue)) none 0 ⟨rfl, h⟩) ⟨rfl, rfl, rfl, trivial⟩
  · obtain ⟨hx, h⟩ := h
    refine LG.unfold ?_
    refine CG.seq ?_
    refine CG.seq ?_
    refine CG.region ?_
    refine RG.op (ok_move (ht rfl)) rfl ?_
    refine RG.op (ok_move (ht rfl)) rfl ?_
    refine RG.op (ok_lenSl Try.underlying22 (ht rfl)) rfl ?_
    refine RG.op (ok_lss (ht rfl) (ht rfl)) rfl ?_
    refine RG.nil ?_
    refine AT.next ?_
    refine CG.condF (ht rfl) (dropF hx) ?_
    refine CG.exit ?_
    refine AT.then_exit (AT.then_exit (AT.in_exit ?_))
    refine AT.next ?_
    refine CG.seq ?_
    refine CG.region ?_
    refine RG.op (ok_move (ht rfl)) rfl ?_
    refine RG.op (ok_assign (ht rfl)) rfl ?_
    refine RG.nil ?_
    refine AT.next ?_
    refine CG.ret ?_
    cases so h
    exact AT.retO rfl rfl
  · obtain ⟨hx, h⟩ := h
    refine LG.unfold ?_
    refine CG.seq ?_
    refine CG.seq ?_
    refine CG.region ?_
    refine RG.op (ok_move (ht rfl)) rfl ?_
    refine RG.op (ok_move (ht rfl)) rfl ?_
    refine RG.op (ok_lenSl Try.underlying22 (ht rfl)) rfl ?_
    refine RG.op (ok_lss (ht rfl) (ht rfl)) rfl ?_
    refine RG.nil ?_
    refine AT.next ?_
    refine CG.condT (ht rfl) (dropT hx) ?_
    refine CG.skip ?_
    refine AT.next ?_
    refine CG.seq ?_
    refine CG.block ?_
    refine CG.seq ?_
    obtain ⟨t, q_t, h⟩ := bs h
    obtain ⟨e1, h1t, h0t⟩ := og q_t
    have q_e1g := fun hb => (h1t hb).1
    obtain ⟨r1, h1t⟩ := og2 (fun hb => (h1t hb).2)
    have q_r1g := fun hb => (h1t hb).1
    refine CG.draw (ts := [tD (rI .i64) (i : Int), tD rB ((i : Int) == (0 : Int)), tD rB ((i : Int) == (0 : Int)), tOpt (!((i : Int) == (0 : Int))) (tD (rSl (rSl rpDValue)) r), tOpt (!((i : Int) == (0 : Int))) (tD (rI .i64) (i : Int)), tOpt (!((i : Int) == (0 : Int))) (tD (rI .i64) (IntKind.i64.wrap ((i : Int) - (1 : Int)))), tOpt (!((i : Int) == (0 : Int))) (tPtr (rSl rpDValue) e1), tOpt (!((i : Int) == (0 : Int))) (tD (rSl rpDValue) e1), tOpt (!((i : Int) == (0 : Int))) (tD (rSl (rSl rpDValue)) r), tOpt (!((i : Int) == (0 : Int))) (tD (rI .i64) (i : Int)), tOpt (!((i : Int) == (0 : Int))) (tPtr (rSl rpDValue) e), tOpt (!((i : Int) == (0 : Int))) (tD (rSl rpDValue) e), tOpt (!((i : Int) == (0 : Int))) (tD (rI .i64) r1), tOpt (!((i : Int) == (0 : Int))) (tD rB (r1 != (0 : Int))), tD rB t]) mixed rfl rfl
      ⟨⟨[⟨5, _, none⟩], _, rfl, ⟨rfl, trivial⟩, rfl, rfl, OpG.plain rfl (ok_move (ht rfl))⟩,
      ⟨⟨[⟨14, _, some 0⟩], _, rfl, ⟨rfl, trivial⟩, rfl, rfl, OpG.plain rfl (ok_eqlI (ht rfl) hI)⟩,
      ⟨⟨[⟨15, _, some 1⟩], _, rfl, ⟨rfl, trivial⟩, rfl, rfl, OpG.plain rfl (ok_move (ht rfl))⟩,
      ⟨⟨[⟨4, _, none⟩, ⟨16, _, some 2⟩], _, rfl, ⟨rfl, rfl, trivial⟩, rfl, rfl, OpG.gf rfl rfl rfl rfl (fun hg => ok_move (ht rfl))⟩,
      ⟨⟨[⟨5, _, none⟩, ⟨16, _, some 2⟩], _, rfl, ⟨rfl, rfl, trivial⟩, rfl, rfl, OpG.gf rfl rfl rfl rfl (fun hg => ok_move (ht rfl))⟩,
      ⟨⟨[⟨18, _, some 4⟩, ⟨16, _, some 2⟩], _, rfl, ⟨rfl, rfl, trivial⟩, rfl, rfl, OpG.gf rfl rfl rfl rfl (fun hg => ok_sub (htO rfl hg) hI)⟩,
      ⟨⟨[⟨17, _, some 3⟩, ⟨19, _, some 5⟩, ⟨16, _, some 2⟩], _, rfl, ⟨rfl, rfl, rfl, trivial⟩, rfl, rfl, OpG.gf rfl rfl rfl rfl (fun hg => ok_indexAddr Try.underlying22 ti26 rfl (htO rfl hg) (htO rfl hg) (q_e1g hg))⟩,
      ⟨⟨[⟨20, _, some 6⟩, ⟨16, _, some 2⟩], _, rfl, ⟨rfl, rfl, trivial⟩, rfl, rfl, OpG.gf rfl rfl rfl rfl (fun hg => ok_load ti26 rfl rfl (htO rfl hg))⟩,
      ⟨⟨[⟨4, _, none⟩, ⟨16, _, some 2⟩], _, rfl, ⟨rfl, rfl, trivial⟩, rfl, rfl, OpG.gf rfl rfl rfl rfl (fun hg => ok_move (ht rfl))⟩,
      ⟨⟨[⟨5, _, none⟩, ⟨16, _, some 2⟩], _, rfl, ⟨rfl, rfl, trivial⟩, rfl, rfl, OpG.gf rfl rfl rfl rfl (fun hg => ok_move (ht rfl))⟩,
      ⟨⟨[⟨22, _, some 8⟩, ⟨23, _, some 9⟩, ⟨16, _, some 2⟩], _, rfl, ⟨rfl, rfl, rfl, trivial⟩, rfl, rfl, OpG.gf rfl rfl rfl rfl (fun hg => ok_indexAddr Try.underlying22 ti26 rfl (htO rfl hg) (htO rfl hg) (dropI hx))⟩,
      ⟨⟨[⟨24, _, some 10⟩, ⟨16, _, some 2⟩], _, rfl, ⟨rfl, rfl, trivial⟩, rfl, rfl, OpG.gf rfl rfl rfl rfl (fun hg => ok_load ti26 rfl rfl (htO rfl hg))⟩,
      ⟨⟨[⟨21, _, some 7⟩, ⟨25, _, some 11⟩, ⟨16, _, some 2⟩], _, rfl, ⟨rfl, rfl, rfl, trivial⟩, rfl, rfl, OpG.gf rfl rfl rfl rfl (fun hg => ok_call cb13 (f13_ok _ _ (q_r1g hg)) ⟨(htO rfl hg), (htO rfl hg), trivial⟩)⟩,
      ⟨⟨[⟨26, _, some 12⟩, ⟨16, _, some 2⟩], _, rfl, ⟨rfl, rfl, trivial⟩, rfl, rfl, OpG.gf rfl rfl rfl rfl (fun hg => ok_neqI (htO rfl hg) hI)⟩,
      ⟨⟨[⟨16, _, some 2⟩, ⟨27, _, some 13⟩], _, rfl, ⟨rfl, rfl, trivial⟩, rfl, rfl, OpG.plain rfl (ok_pickOrM (ht rfl) (fun hb => (htO rfl (noti hb))) (fun hb => (h1t hb).2) h0t)⟩,
      trivial⟩⟩⟩⟩⟩⟩⟩⟩⟩⟩⟩⟩⟩⟩⟩ ?_
    refine AT.next ?_
    refine CG.cond (ht rfl) (fun hc => ?_) (fun hc => ?_)
    · have h := ct h hc
      refine CG.region ?_
      refine RG.op (ok_move (ht rfl)) rfl ?_
      refine RG.op (ok_move (ht rfl)) rfl ?_
      refine RG.op (ok_move (ht rfl)) rfl ?_
      refine RG.op (ok_indexAddr Try.underlying22 ti26 rfl (ht rfl) (ht rfl) (dropI hx)) rfl ?_
      refine RG.op (ok_load ti26 rfl rfl (ht rfl)) rfl ?_
      refine RG.op (ok_buildSlice (r := (rSl rpDValue)) (ys := [e]) (xs := [.tmp 33]) Try.underlying22 ti26 rfl rfl rfl rfl rfl ⟨(ht rfl), trivial⟩) rfl ?_
      obtain ⟨out1, q_out1, h⟩ := bs h
      refine RG.append ti26 rfl rfl rfl rfl Try.underlying22 rfl rfl (ht rfl) (ht rfl) q_out1 (fun l2 c1 => ?_)
      refine RG.op (ok_assign (ht rfl)) rfl ?_
      refine RG.nil ?_
      refine AT.in_normal ?_
      refine AT.next ?_
      refine CG.region ?_
      refine RG.op (ok_move (ht rfl)) rfl ?_
      refine RG.op (ok_incN (dropL hx hN) (ht rfl) hI) rfl ?_
      refine RG.op (ok_assign (ht rfl)) rfl ?_
      refine RG.nil ?_
      exact AT.round (LG.sub (ih (i + 1) out1 l2 c1 ⟨dropS hx, h⟩) ⟨rfl, rfl, rfl, trivial⟩)
    · have h := cf h hc
      refine CG.skip ?_
      refine AT.in_normal ?_
      refine AT.next ?_
      refine CG.region ?_
      refine RG.op (ok_move (ht rfl)) rfl ?_
      refine RG.op (ok_incN (dropL hx hN) (ht rfl) hI) rfl ?_
      refine RG.op (ok_assign (ht rfl)) rfl ?_
      refine RG.nil ?_
      exact AT.round (LG.sub (ih (i + 1) out l1 c ⟨dropS hx, h⟩) ⟨rfl, rfl, rfl, trivial⟩)
theorem f30_ok (l : (List (List DValue))) {R : (List (List DValue))} (h : ref05_Distinct l = some R) : Spec Try.prog 30 [tD (rSl (rSl rpDValue)) l] (tD (rSl (rSl rpDValue)) R) := (f30_own _ h).spec

set_option maxRecDepth 100000 in
theorem f7_ok (p : (List (List DValue))) (p1 : (List (List DValue))) {R : Bool} (h : law05_RowSorts p p1 = some R) : Spec Try.prog 7 [tD (rSl (rSl rpDValue)) p, tD (rSl (rSl rpDValue)) p1] (tD rB R) := by
  refine Spec.of Try.func7 rfl rfl rfl fun w0 S0 => ?_
  refine CG.seq ?_
  refine CG.region ?_
  refine RG.op (ok_assign hB) rfl ?_
  refine RG.nil ?_
  refine AT.next ?_
  refine CG.seq ?_
  refine CG.seq ?_
  refine CG.region ?_
  obtain ⟨r, q_r, h⟩ := bs h
  refine RG.op (ok_call cb9 (f9_ok  q_r) trivial) rfl ?_
  refine RG.op (ok_not (ht rfl)) rfl ?_
  refine RG.nil ?_
  refine AT.next ?_
  refine CG.cond (ht rfl) (fun hc => ?_) (fun hc => ?_)
  · have h := ct h hc
    refine CG.seq ?_
    refine CG.region ?_
    refine RG.op (ok_assign hB) rfl ?_
    refine RG.nil ?_
    refine AT.next ?_
    refine CG.ret ?_
    refine AT.then_ret ?_
    cases so h
    exact AT.ret1 rfl rfl
  · have h := cf h hc
    refine CG.skip ?_
    refine AT.next ?_
    refine CG.seq ?_
    refine CG.seq ?_
    refine CG.region ?_
    refine RG.op (ok_move (ht rfl)) rfl ?_
    obtain ⟨r1, q_r1, h⟩ := bs h
    refine RG.op (ok_call cb10 (f10_ok _ q_r1) ⟨(ht rfl), trivial⟩) rfl ?_
    refine RG.op (ok_move (ht rfl)) rfl ?_
    obtain ⟨t, q_t, h⟩ := bs h
    refine RG.opGf rfl rfl rfl rfl (fun hg => ok_move (ht rfl)) ?_
    obtain ⟨r2, h1t, h0t⟩ := og q_t
    have q_r2g := fun hb => (h1t hb).1
    refine RG.opGf rfl rfl rfl rfl (fun hg => ok_call cb10 (f10_ok _ (q_r2g hg)) ⟨(htO rfl hg), trivial⟩) ?_
    refine RG.op (ok_pickOrM (ht rfl) (fun hb => (htO rfl (noti hb))) (fun hb => (h1t hb).2) h0t) rfl ?_
    refine RG.nil ?_
    refine AT.next ?_
    refine CG.cond (ht rfl) (fun hc => ?_) (fun hc => ?_)
    · have h := ct h hc
      refine CG.seq ?_
      refine CG.region ?_
      refine RG.op (ok_assign hB) rfl ?_
      refine RG.nil ?_
      refine AT.next ?_
      refine CG.ret ?_
      refine AT.then_ret ?_
      cases so h
      exact AT.ret1 rfl rfl
    · have h := cf h hc
      refine CG.skip ?_
      refine AT.next ?_
      refine CG.seq ?_
      refine CG.region ?_
      refine RG.op (ok_move (ht rfl)) rfl ?_
      obtain ⟨r3, q_r3, h⟩ := bs h
      refine RG.callO cb16 (f16_own _ q_r3) ⟨(ht rfl), trivial⟩ rfl (fun l c => ?_)
      refine RG.op (ok_assign (ht rfl)) rfl ?_
      refine RG.nil ?_
      refine AT.next ?_
      refine CG.seq ?_
      refine CG.region ?_
      refine RG.op (ok_move (ht rfl)) rfl ?_
      refine RG.freeze ?_
      refine RG.tipAt 26 rfl ?_
      refine RG.tipAt 5 rfl ?_
      refine RG.tipAt 28 rfl ?_
      obtain ⟨r4, q_r4, h⟩ := bs h
      refine RG.op (ok_call cb23 (f23_ok _ q_r4) ⟨(tO_d (ht rfl)), trivial⟩) rfl ?_
      refine RG.op (ok_move (ht rfl)) rfl ?_
      refine RG.op (ok_extract rfl (ht rfl)) rfl ?_
      refine RG.op (ok_extract rfl (ht rfl)) rfl ?_
      refine RG.op (ok_assign (ht rfl)) rfl ?_
      refine RG.op (ok_assign (ht rfl)) rfl ?_
      refine RG.nil ?_
      refine AT.next ?_
      refine CG.seq ?_
      refine CG.region ?_
      refine RG.op (ok_move (ht rfl)) rfl ?_
      obtain ⟨r5, q_r5, h⟩ := bs h
      refine RG.op (ok_call cb25 (f25_ok _ q_r5) ⟨(tO_d (ht rfl)), trivial⟩) rfl ?_
      refine RG.op (ok_move (ht rfl)) rfl ?_
      refine RG.op (ok_extract rfl (ht rfl)) rfl ?_
      refine RG.op (ok_extract rfl (ht rfl)) rfl ?_
      refine RG.op (ok_assign (ht rfl)) rfl ?_
      refine RG.op (ok_assign (ht rfl)) rfl ?_
      refine RG.nil ?_
      refine AT.next ?_
      refine CG.seq ?_
      refine CG.region ?_
      refine RG.op (ok_move (ht rfl)) rfl ?_
      refine RG.op (ok_move (ht rfl)) rfl ?_
      obtain ⟨r6, q_r6, h⟩ := bs h
      refine RG.op (ok_call cb24 (f24_ok _ _ q_r6) ⟨(tO_d (ht rfl)), (ht rfl), trivial⟩) rfl ?_
      refine RG.op (ok_move (ht rfl)) rfl ?_
      refine RG.op (ok_extract rfl (ht rfl)) rfl ?_
      refine RG.op (ok_extract rfl (ht rfl)) rfl ?_
      refine RG.op (ok_assign (ht rfl)) rfl ?_
      refine RG.op (ok_assign (ht rfl)) rfl ?_
      refine RG.nil ?_
      refine AT.next ?_
      refine CG.seq ?_
      refine CG.region ?_
      refine RG.op (ok_move (ht rfl)) rfl ?_
      refine RG.op (ok_move (ht rfl)) rfl ?_
      refine RG.op (ok_buildSlice (r := (rSl (rSl rpDValue))) (ys := [r3, p1]) (xs := [.tmp 44, .tmp 45]) Try.underlying58 ti22 rfl rfl rfl rfl rfl ⟨(tO_d (ht rfl)), (ht rfl), trivial⟩) rfl ?_
      obtain ⟨r7, q_r7, h⟩ := bs h
      refine RG.op (ok_call cb26 (f26_ok _ q_r7) ⟨(ht rfl), trivial⟩) rfl ?_
      refine RG.op (ok_move (ht rfl)) rfl ?_
      refine RG.op (ok_extract rfl (ht rfl)) rfl ?_
      refine RG.op (ok_extract rfl (ht rfl)) rfl ?_
      refine RG.op (ok_assign (ht rfl)) rfl ?_
      refine RG.op (ok_assign (ht rfl)) rfl ?_
      refine RG.nil ?_
      refine AT.next ?_
      refine CG.seq ?_
      refine CG.seq ?_
      refine CG.region ?_
      refine RG.op (ok_move (ht rfl)) rfl ?_
      refine RG.op (ok_move (ht rfl)) rfl ?_
      obtain ⟨r8, q_r8, h⟩ := bs h
      refine RG.op (ok_call cb15 (f15_ok _ _ q_r8) ⟨(tO_d (ht rfl)), (ht rfl), trivial⟩) rfl ?_
      refine RG.op (ok_not (ht rfl)) rfl ?_
      refine RG.nil ?_
      refine AT.next ?_
      refine CG.cond (ht rfl) (fun hc => ?_) (fun hc => ?_)
      · have h := ct h hc
        refine CG.seq ?_
        refine CG.region ?_
        refine RG.op (ok_assign hB) rfl ?_
        refine RG.nil ?_
        refine AT.next ?_
        refine CG.ret ?_
        refine AT.then_ret ?_
        refine AT.drop ?_
        cases so h
        exact AT.ret1 rfl rfl
      · have h := cf h hc
        refine CG.skip ?_
        refine AT.next ?_
        refine CG.seq ?_
        refine CG.seq ?_
        refine CG.region ?_
        refine RG.op (ok_move (ht rfl)) rfl ?_
        obtain ⟨r9, q_r9, h⟩ := bs h
        refine RG.op (ok_call cb27 (f27_ok _ q_r9) ⟨(ht rfl), trivial⟩) rfl ?_
        refine RG.op (ok_assign (ht rfl)) rfl ?_
        refine RG.nil ?_
        refine AT.next ?_
        refine CG.seq ?_
        refine CG.region ?_
        refine RG.op (ok_move (ht rfl)) rfl ?_
        refine RG.op (ok_neqI (ht rfl) hI) rfl ?_
        refine RG.nil ?_
        refine AT.next ?_
        refine CG.cond (ht rfl) (fun hc => ?_) (fun hc => ?_)
        · have h := ct h hc
          refine CG.seq ?_
          refine CG.region ?_
          refine RG.op (ok_move (ht rfl)) rfl ?_
          refine RG.op (ok_lenSl Try.underlying22 (ht rfl)) rfl ?_
          refine RG.op (ok_eqlI (ht rfl) hI) rfl ?_
          refine RG.op (ok_move (ht rfl)) rfl ?_
          refine RG.opGt rfl rfl rfl rfl (fun hg => ok_move (ht rfl)) ?_
          refine RG.opGt rfl rfl rfl rfl (fun hg => ok_move (ht rfl)) ?_
          refine RG.opGt rfl rfl rfl rfl (fun hg => ok_eqlI (htO rfl hg) (htO rfl hg)) ?_
          refine RG.op (ok_pickAnd (ht rfl) (fun hb => (htO rfl hb))) rfl ?_
          refine RG.op (ok_move (ht rfl)) rfl ?_
          refine RG.opGt rfl rfl rfl rfl (fun hg => ok_move (ht rfl)) ?_
          refine RG.opGt rfl rfl rfl rfl (fun hg => ok_lenSl Try.underlying22 (htO rfl hg)) ?_
          refine RG.opGt rfl rfl rfl rfl (fun hg => ok_eqlI (htO rfl hg) hI) ?_
          refine RG.op (ok_pickAnd (ht rfl) (fun hb => (htO rfl hb))) rfl ?_
          refine RG.op (ok_move (ht rfl)) rfl ?_
          refine RG.opGt rfl rfl rfl rfl (fun hg => ok_move (ht rfl)) ?_
          refine RG.opGt rfl rfl rfl rfl (fun hg => ok_move (ht rfl)) ?_
          refine RG.opGt rfl rfl rfl rfl (fun hg => ok_eqlI (htO rfl hg) (htO rfl hg)) ?_
          refine RG.op (ok_pickAnd (ht rfl) (fun hb => (htO rfl hb))) rfl ?_
          refine RG.op (ok_move (ht rfl)) rfl ?_
          refine RG.opGt rfl rfl rfl rfl (fun hg => ok_move (ht rfl)) ?_
          refine RG.opGt rfl rfl rfl rfl (fun hg => ok_not (htO rfl hg)) ?_
          refine RG.op (ok_pickAnd (ht rfl) (fun hb => (htO rfl hb))) rfl ?_
          refine RG.op (ok_move (ht rfl)) rfl ?_
          refine RG.opGt rfl rfl rfl rfl (fun hg => ok_move (ht rfl)) ?_
          refine RG.opGt rfl rfl rfl rfl (fun hg => ok_neqI (htO rfl hg) hI) ?_
          refine RG.op (ok_pickAnd (ht rfl) (fun hb => (htO rfl hb))) rfl ?_
          refine RG.op (ok_move (ht rfl)) rfl ?_
          refine RG.opGt rfl rfl rfl rfl (fun hg => ok_move (ht rfl)) ?_
          refine RG.opGt rfl rfl rfl rfl (fun hg => ok_lenSl Try.underlying22 (htO rfl hg)) ?_
          refine RG.opGt rfl rfl rfl rfl (fun hg => ok_eqlI (htO rfl hg) hI) ?_
          refine RG.op (ok_pickAnd (ht rfl) (fun hb => (htO rfl hb))) rfl ?_
          refine RG.op (ok_move (ht rfl)) rfl ?_
          refine RG.opGt rfl rfl rfl rfl (fun hg => ok_move (ht rfl)) ?_
          refine RG.opGt rfl rfl rfl rfl (fun hg => ok_neqI (htO rfl hg) hI) ?_
          refine RG.op (ok_pickAnd (ht rfl) (fun hb => (htO rfl hb))) rfl ?_
          refine RG.op (ok_assign (ht rfl)) rfl ?_
          refine RG.nil ?_
          refine AT.next ?_
          refine CG.ret ?_
          refine AT.then_ret ?_
          refine AT.drop ?_
          cases so h
          exact AT.ret1 rfl rfl
        · have h := cf h hc
          refine CG.skip ?_
          refine AT.next ?_
          refine CG.seq ?_
          refine CG.region ?_
          refine RG.op (ok_move (ht rfl)) rfl ?_
          obtain ⟨r10, q_r10, h⟩ := bs h
          refine RG.op (ok_call cb28 (f28_ok _ q_r10) ⟨(ht rfl), trivial⟩) rfl ?_
          refine RG.op (ok_assign (ht rfl)) rfl ?_
          refine RG.nil ?_
          refine AT.next ?_
          refine CG.seq ?_
          refine CG.seq ?_
          refine CG.region ?_
          refine RG.op (ok_move (ht rfl)) rfl ?_
          refine RG.op (ok_neqI (ht rfl) hI) rfl ?_
          refine RG.op (ok_move (ht rfl)) rfl ?_
          refine RG.opGf rfl rfl rfl rfl (fun hg => ok_move (ht rfl)) ?_
          refine RG.opGf rfl rfl rfl rfl (fun hg => ok_neqI (htO rfl hg) hI) ?_
          refine RG.op (ok_pickOr (ht rfl) (fun hb => (htO rfl (noti hb)))) rfl ?_
          refine RG.op (ok_move (ht rfl)) rfl ?_
          obtain ⟨t1, q_t1, h⟩ := bs h
          refine RG.opGf rfl rfl rfl rfl (fun hg => ok_move (ht rfl)) ?_
          refine RG.opGf rfl rfl rfl rfl (fun hg => ok_move (ht rfl)) ?_
          obtain ⟨r11, h1t1, h0t1⟩ := og q_t1
          have q_r11g := fun hb => (h1t1 hb).1
          refine RG.opGf rfl rfl rfl rfl (fun hg => ok_call cb29 (f29_ok _ _ (q_r11g hg)) ⟨(htO rfl hg), (htO rfl hg), trivial⟩) ?_
          refine RG.opGf rfl rfl rfl rfl (fun hg => ok_not (htO rfl hg)) ?_
          refine RG.op (ok_pickOrM (ht rfl) (fun hb => (htO rfl (noti hb))) (fun hb => (h1t1 hb).2) h0t1) rfl ?_
          refine RG.op (ok_move (ht rfl)) rfl ?_
          obtain ⟨t2, q_t2, h⟩ := bs h
          refine RG.opGf rfl rfl rfl rfl (fun hg => ok_move (ht rfl)) ?_
          refine RG.opGf rfl rfl rfl rfl (fun hg => ok_move (ht rfl)) ?_
          obtain ⟨r12, h1t2, h0t2⟩ := og q_t2
          have q_r12g := fun hb => (h1t2 hb).1
          refine RG.opGf rfl rfl rfl rfl (fun hg => ok_call cb30 (f30_ok _ (q_r12g hg)) ⟨(htO rfl hg), trivial⟩) ?_
          obtain ⟨r13, h1t2⟩ := og2 (fun hb => (h1t2 hb).2)
          have q_r13g := fun hb => (h1t2 hb).1
          refine RG.opGf rfl rfl rfl rfl (fun hg => ok_call cb29 (f29_ok _ _ (q_r13g hg)) ⟨(htO rfl hg), (htO rfl hg), trivial⟩) ?_
          refine RG.opGf rfl rfl rfl rfl (fun hg => ok_not (htO rfl hg)) ?_
          refine RG.op (ok_pickOrM (ht rfl) (fun hb => (htO rfl (noti hb))) (fun hb => (h1t2 hb).2) h0t2) rfl ?_
          refine RG.nil ?_
          refine AT.next ?_
          refine CG.cond (ht rfl) (fun hc => ?_) (fun hc => ?_)
          · have h := ct h hc
            refine CG.seq ?_
            refine CG.region ?_
            refine RG.op (ok_assign hB) rfl ?_
            refine RG.nil ?_
            refine AT.next ?_
            refine CG.ret ?_
            refine AT.then_ret ?_
            refine AT.drop ?_
            cases so h
            exact AT.ret1 rfl rfl
          · have h := cf h hc
            refine CG.skip ?_
            refine AT.next ?_
            refine CG.seq ?_
            refine CG.seq ?_
            refine CG.region ?_
            refine RG.op (ok_move (ht rfl)) rfl ?_
            obtain ⟨r14, q_r14, h⟩ := bs h
            refine RG.op (ok_call cb27 (f27_ok _ q_r14) ⟨(ht rfl), trivial⟩) rfl ?_
            refine RG.op (ok_assign (ht rfl)) rfl ?_
            refine RG.nil ?_
            refine AT.next ?_
            refine CG.seq ?_
            refine CG.region ?_
            refine RG.op (ok_move (ht rfl)) rfl ?_
            refine RG.op (ok_neqI (ht rfl) hI) rfl ?_
            refine RG.nil ?_
            refine AT.next ?_
            refine CG.cond (ht rfl) (fun hc => ?_) (fun hc => ?_)
            · have h := ct h hc
              refine CG.seq ?_
              refine CG.region ?_
              refine RG.op (ok_move (ht rfl)) rfl ?_
              refine RG.op (ok_not (ht rfl)) rfl ?_
              refine RG.op (ok_move (ht rfl)) rfl ?_
              refine RG.opGt rfl rfl rfl rfl (fun hg => ok_move (ht rfl)) ?_
              refine RG.opGt rfl rfl rfl rfl (fun hg => ok_move (ht rfl)) ?_
              refine RG.opGt rfl rfl rfl rfl (fun hg => ok_eqlI (htO rfl hg) (htO rfl hg)) ?_
              refine RG.op (ok_pickAnd (ht rfl) (fun hb => (htO rfl hb))) rfl ?_
              refine RG.op (ok_move (ht rfl)) rfl ?_
              refine RG.opGt rfl rfl rfl rfl (fun hg => ok_move (ht rfl)) ?_
              refine RG.opGt rfl rfl rfl rfl (fun hg => ok_lenSl Try.underlying22 (htO rfl hg)) ?_
              refine RG.opGt rfl rfl rfl rfl (fun hg => ok_eqlI (htO rfl hg) hI) ?_
              refine RG.op (ok_pickAnd (ht rfl) (fun hb => (htO rfl hb))) rfl ?_
              refine RG.op (ok_move (ht rfl)) rfl ?_
              refine RG.opGt rfl rfl rfl rfl (fun hg => ok_move (ht rfl)) ?_
              refine RG.opGt rfl rfl rfl rfl (fun hg => ok_move (ht rfl)) ?_
              refine RG.opGt rfl rfl rfl rfl (fun hg => ok_eqlI (htO rfl hg) (htO rfl hg)) ?_
              refine RG.op (ok_pickAnd (ht rfl) (fun hb => (htO rfl hb))) rfl ?_
              refine RG.op (ok_assign (ht rfl)) rfl ?_
              refine RG.nil ?_
              refine AT.next ?_
              refine CG.ret ?_
              refine AT.then_ret ?_
              refine AT.drop ?_
              cases so h
              exact AT.ret1 rfl rfl
            · have h := cf h hc
              refine CG.skip ?_
              refine AT.next ?_
              refine CG.seq ?_
              refine CG.region ?_
              refine RG.op (ok_move (ht rfl)) rfl ?_
              refine RG.op (ok_eqlI (ht rfl) hI) rfl ?_
              refine RG.op (ok_move (ht rfl)) rfl ?_
              obtain ⟨t3, q_t3, h⟩ := bs h
              refine RG.opGt rfl rfl rfl rfl (fun hg => ok_move (ht rfl)) ?_
              refine RG.opGt rfl rfl rfl rfl (fun hg => ok_move (ht rfl)) ?_
              refine RG.opGt rfl rfl rfl rfl (fun hg => ok_move (ht rfl)) ?_
              obtain ⟨r15, h1t3, h0t3⟩ := og q_t3
              have q_r15g := fun hb => (h1t3 hb).1
              refine RG.opGt rfl rfl rfl rfl (fun hg => ok_call cb28 (f28_ok _ (q_r15g hg)) ⟨(htO rfl hg), trivial⟩) ?_
              obtain ⟨r16, h1t3⟩ := og2 (fun hb => (h1t3 hb).2)
              have q_r16g := fun hb => (h1t3 hb).1
              refine RG.opGt rfl rfl rfl rfl (fun hg => ok_call cb29 (f29_ok _ _ (q_r16g hg)) ⟨(htO rfl hg), (htO rfl hg), trivial⟩) ?_
              refine RG.opGt rfl rfl rfl rfl (fun hg => ok_eqlB Try.underlying4 (htO rfl hg) (htO rfl hg)) ?_
              refine RG.op (ok_pickAndM (ht rfl) (fun hb => (htO rfl hb)) (fun hb => (h1t3 hb).2) h0t3) rfl ?_
              refine RG.op (ok_move (ht rfl)) rfl ?_
              refine RG.opGt rfl rfl rfl rfl (fun hg => ok_move (ht rfl)) ?_
              refine RG.opGt rfl rfl rfl rfl (fun hg => ok_eqlI (htO rfl hg) hI) ?_
              refine RG.op (ok_pickAnd (ht rfl) (fun hb => (htO rfl hb))) rfl ?_
              refine RG.op (ok_move (ht rfl)) rfl ?_
              obtain ⟨t4, q_t4, h⟩ := bs h
              refine RG.opGt rfl rfl rfl rfl (fun hg => ok_move (ht rfl)) ?_
              refine RG.opGt rfl rfl rfl rfl (fun hg => ok_move (ht rfl)) ?_
              obtain ⟨r17, h1t4, h0t4⟩ := og q_t4
              have q_r17g := fun hb => (h1t4 hb).1
              refine RG.effG (EffG.gnew rfl rfl rfl (guard_plain rfl) gt_eq (fun hg => eff_callT (xs := [.tmp 151]) (ts := [tD (rSl (rSl rpDValue)) p]) cb16 (f16_own _ (q_r17g hg)) ⟨(htO rfl hg), trivial⟩)) rfl (fun l1 c1 => ?_)
              refine RG.opGt rfl rfl rfl rfl (fun hg => ok_move (ht rfl)) ?_
              obtain ⟨l2, h1t4⟩ := og2 (fun hb => (h1t4 hb).2)
              have q_l2g := fun hb => (h1t4 hb).1
              refine RG.effG (EffG.gturn rfl rfl rfl (guard_plain rfl) gt_eq (fun hg => eff_appendT ti26 rfl rfl rfl rfl Try.underlying22 rfl (htO rfl hg) (htO rfl hg) (q_l2g hg))) rfl (fun l3 c2 => ?_)
              obtain ⟨r18, h1t4⟩ := og2 (fun hb => (h1t4 hb).2)
              have q_r18g := fun hb => (h1t4 hb).1
              refine RG.opGt rfl rfl rfl rfl (fun hg => ok_call cb28 (f28_ok _ (q_r18g hg)) ⟨(tO_d (htO rfl hg)), trivial⟩) ?_
              obtain ⟨r19, h1t4⟩ := og2 (fun hb => (h1t4 hb).2)
              have q_r19g := fun hb => (h1t4 hb).1
              refine RG.opGt rfl rfl rfl rfl (fun hg => ok_call cb29 (f29_ok _ _ (q_r19g hg)) ⟨(htO rfl hg), (htO rfl hg), trivial⟩) ?_
              refine RG.op (ok_pickAndM (ht rfl) (fun hb => (htO rfl hb)) (fun hb => (h1t4 hb).2) h0t4) rfl ?_
              refine RG.drop ?_
              refine RG.op (ok_assign (ht rfl)) rfl ?_
              refine RG.nil ?_
              refine AT.next ?_
              refine CG.ret ?_
              refine AT.drop ?_
              cases so h
              exact AT.ret1 rfl rfl

set_option maxRecDepth 100000 in
theorem f32_ok (p : (List (List DValue))) (p1 : (List Int)) (p2 : Int) {R : (List (List (List DValue))) × Int} (h : row_Part p p1 p2 = some R) : Spec Try.prog 32 [tD (rSl (rSl rpDValue)) p, tD (rSl (rI .i64)) p1, tD (rI .i64) p2] (tT [tD (rSl (rSl (rSl rpDValue))) R.1, tD (rI .i64) R.2]) := by
  refine Spec.of Try.func32 rfl rfl rfl fun w0 S0 => ?_
  refine CG.seq ?_
  refine CG.region ?_
  refine RG.op (ok_assign (show HasTy _ _ _ (tD (rSl (rSl (rSl rpDValue))) ([])) from hNil)) rfl ?_
  refine RG.op (ok_assign hI) rfl ?_
  refine RG.nil ?_
  refine AT.next ?_
  refine CG.seq ?_
  refine CG.seq ?_
  refine CG.region ?_
  refine RG.op (ok_move (ht rfl)) rfl ?_
  refine RG.op (ok_move (ht rfl)) rfl ?_
  obtain ⟨r, q_r, h⟩ := bs h
  refine RG.op (ok_call cb41 (f41_ok _ _ q_r) ⟨(ht rfl), (ht rfl), trivial⟩) rfl ?_
  refine RG.op (ok_assign (ht rfl)) rfl ?_
  refine RG.nil ?_
  refine AT.next ?_
  refine CG.seq ?_
  refine CG.region ?_
  refine RG.op (ok_move (ht rfl)) rfl ?_
  refine RG.op (ok_neqI (ht rfl) hI) rfl ?_
  refine RG.nil ?_
  refine AT.next ?_
  refine CG.cond (ht rfl) (fun hc => ?_) (fun hc => ?_)
  · have h := ct h hc
    refine CG.seq ?_
    refine CG.region ?_
    refine RG.op (ok_move (ht rfl)) rfl ?_
    refine RG.op (ok_assign (show HasTy _ _ _ (tD (rSl (rSl (rSl rpDValue))) ([])) from hNil)) rfl ?_
    refine RG.op (ok_assign (ht rfl)) rfl ?_
    refine RG.nil ?_
    refine AT.next ?_
    refine CG.ret ?_
    refine AT.then_ret ?_
    cases so h
    exact AT.ret2 rfl rfl rfl
  · have h := cf h hc
    refine CG.skip ?_
    refine AT.next ?_
    refine CG.seq ?_
    refine CG.seq ?_
    refine CG.region ?_
    refine RG.op (ok_move (ht rfl)) rfl ?_
    refine RG.op (ok_lss (ht rfl) hI) rfl ?_
    refine RG.op (ok_move (ht rfl)) rfl ?_
    refine RG.opGf rfl rfl rfl rfl (fun hg => ok_move (ht rfl)) ?_
    refine RG.opGf rfl rfl rfl rfl (fun hg => ok_gtr (htO rfl hg) hI) ?_
    refine RG.op (ok_pickOr (ht rfl) (fun hb => (htO rfl (noti hb)))) rfl ?_
    refine RG.nil ?_
    refine AT.next ?_
    refine CG.cond (ht rfl) (fun hc => ?_) (fun hc => ?_)
    · have h := ct h hc
      refine CG.seq ?_
      refine CG.region ?_
      refine RG.op (ok_assign (show HasTy _ _ _ (tD (rSl (rSl (rSl rpDValue))) ([])) from hNil)) rfl ?_
      refine RG.op (ok_assign hI) rfl ?_
      refine RG.nil ?_
      refine AT.next ?_
      refine CG.ret ?_
      refine AT.then_ret ?_
      cases so h
      exact AT.ret2 rfl rfl rfl
    · have h := cf h hc
      refine CG.skip ?_
      refine AT.next ?_
      refine CG.seq ?_
      refine CG.region ?_
      refine RG.makeMap (mvT (rSl rpDValue) 26) (kvI .i64) rfl (fun b => ?_)
      refine RG.op (ok_assign (ht rfl)) rfl ?_
      refine RG.nil ?_
      refine AT.next ?_
      refine CG.seq ?_
      refine CG.seq ?_
      refine CG.region ?_
      refine RG.op (ok_move (ht rfl)) rfl ?_
      obtain ⟨r1, q_r1, h⟩ := bs h
      refine RG.callO cb51 (f51_own _ q_r1) ⟨(ht rfl), trivial⟩ rfl (fun l c => ?_)
      refine RG.op (ok_lenO Try.underlying22 (.head _) (ht rfl)) rfl ?_
      refine RG.op (ok_move hI) rfl ?_
      refine RG.nil ?_
      refine AT.next ?_
      refine CG.block ?_
      refine CG.have_lenA (.head _) (fun hN => ?_)
      refine CG.loop ?_
      refine LG.sub (LG.list3 (Z := fun ls i x os => (r1.drop i = ls) ∧ row_Part_l1 p1 p2 ls x = some R) (Of := fun _ i x os => [arr (rSl rpDValue) 26 l c r1, mapO (mvT (rSl rpDValue) 26) (kvI .i64) b none os x]) (Gf := fun _ i x os => [(1, tD (rSl (rI .i64)) p1), (2, tD (rI .i64) p2), (9, tV (mapV b)), (29, tV (oslV l c r1.length)), (30, tD (rI .i64) (r1.length : Int)), (31, tD (rI .i64) (i : Int))]) (fun i x os h => ?_) (fun e tl ih i x os h => ?_) r1 0 ([] : List (Int × (List (List DValue)))) [] ⟨rfl, h⟩) ⟨rfl, rfl, rfl, rfl, rfl, rfl, trivial⟩
      · obtain ⟨hx, h⟩ := h
        refine LG.unfold ?_
        refine CG.seq ?_
        refine CG.region ?_
        refine RG.op (ok_lss (ht rfl) (ht rfl)) rfl ?_
        refine RG.nil ?_
        refine AT.next ?_
        refine CG.seq ?_
        refine CG.condF (ht rfl) (dropF hx) ?_
        refine CG.exit ?_
        refine AT.then_exit (AT.then_exit (AT.in_exit ?_))
        refine AT.next ?_
        refine CG.seq ?_
        refine CG.region ?_
        refine RG.op (ok_move (ht rfl)) rfl ?_
        obtain ⟨mk, q_mk, h⟩ := bs h
        refine RG.eff (eff_make (r := (rSl (rSl rpDValue))) (x := []) ti22 rfl rfl rfl Try.underlying58 (fun _ => ⟨none, 0, rfl, Nat.le_refl _, Nat.zero_le _, .inl rfl⟩) (ht rfl) (ht rfl) q_mk) rfl (fun l1 c1 => ?_)
        refine RG.op (ok_assign (ht rfl)) rfl ?_
        refine RG.nil ?_
        refine AT.next ?_
        refine CG.seq ?_
        refine CG.seq ?_
        refine CG.region ?_
        refine RG.op (ok_move (ht rfl)) rfl ?_
        refine RG.op (ok_lenO Try.underlying58 (.head _) (ht rfl)) rfl ?_
        refine RG.op (ok_move hI) rfl ?_
        refine RG.nil ?_
        refine AT.next ?_
        refine CG.block ?_
        refine CG.have_lenA (.head _) (fun hN1 => ?_)
        refine CG.loop ?_
        refine LG.front1 ?_
        refine LG.drop ?_
        refine LG.sub (LG.nat2 (Z := fun k i1 x1 => (mk.length - i1 = k) ∧ row_Part_l2 x k i1 x1 = some R) (Of := fun _ i1 x1 => [arr (rSl (rSl rpDValue)) 22 l1 c1 x1, mapO (mvT (rSl rpDValue) 26) (kvI .i64) b none os x]) (Gf := fun _ i1 x1 => [(9, tV (mapV b)), (13, tV (oslV l1 c1 x1.length)), (55, tD (rI .i64) (mk.length : Int)), (56, tD (rI .i64) (i1 : Int))]) (fun i1 x1 h => ?_) (fun k1 ih1 i1 x1 h => ?_) mk.length 0 mk ⟨rfl, h⟩) ⟨rfl, rfl, rfl, rfl, trivial⟩
        · obtain ⟨hx1, h⟩ := h
          refine LG.unfold ?_
          refine CG.seq ?_
          refine CG.region ?_
          refine RG.op (ok_lss (ht rfl) (ht rfl)) rfl ?_
          refine RG.nil ?_
          refine AT.next ?_
          refine CG.seq ?_
          refine CG.condF (ht rfl) (natF hx1) ?_
          refine CG.exit ?_
          refine AT.then_exit (AT.then_exit (AT.in_exit ?_))
          refine AT.next ?_
          refine CG.seq ?_
          refine CG.region ?_
          refine RG.op (ok_move (ht rfl)) rfl ?_
          refine RG.op (ok_assign (ht rfl)) rfl ?_
          refine RG.op (ok_assign hI) rfl ?_
          refine RG.nil ?_
          refine AT.next ?_
          refine CG.ret ?_
          refine AT.freeze ?_
          refine AT.tipAt 13 rfl ?_
          refine AT.tipAt 66 rfl ?_
          refine AT.tipAt 6 rfl ?_
          refine AT.dataAt 6 rfl ?_
          refine AT.drop ?_
          refine AT.drop ?_
          cases so h
          exact AT.ret2 rfl rfl rfl
        · obtain ⟨hx1, h⟩ := h
          refine LG.unfold ?_
          refine CG.seq ?_
          refine CG.region ?_
          refine RG.op (ok_lss (ht rfl) (ht rfl)) rfl ?_
          refine RG.nil ?_
          refine AT.next ?_
          refine CG.seq ?_
          refine CG.condT (ht rfl) (natT hx1) ?_
          refine CG.skip ?_
          refine AT.next ?_
          refine CG.seq ?_
          refine CG.block ?_
          refine CG.seq ?_
          refine CG.region ?_
          refine RG.op (ok_move (ht rfl)) rfl ?_
          refine RG.op (ok_assign (ht rfl)) rfl ?_
          refine RG.nil ?_
          refine AT.next ?_
          refine CG.region ?_
          refine RG.op (ok_move (ht rfl)) rfl ?_
          refine RG.op (ok_move (ht rfl)) rfl ?_
          refine RG.op (ok_move (ht rfl)) rfl ?_
          refine RG.op (ok_move (ht rfl)) rfl ?_
          refine RG.op (ok_lookupT Try.underlying81 (key_int Try.underlying3) zv22 (.tail _ (.head _)) (ht rfl) (keyI (ht rfl))) rfl ?_
          obtain ⟨e2, q_e2, h⟩ := bs h
          refine RG.op (ok_indexAddrO Try.underlying58 ti22 (.head _) (ht rfl) (ht rfl) q_e2) rfl ?_
          obtain ⟨st, q_st, h⟩ := bs h
          refine RG.storeE ti22 rfl sfld_whole rfl q_e2 (so q_st) (ht rfl) (ht rfl) ?_
          refine RG.relen2 (set_len (so q_st)) 13 rfl ?_
          refine RG.relen2 (set_len (so q_st)) 59 rfl ?_
          refine RG.nil ?_
          refine AT.in_normal ?_
          refine AT.next ?_
          refine CG.region ?_
          refine RG.op (ok_incN (natL hx1 (maxN hN1)) (ht rfl) hI) rfl ?_
          refine RG.op (ok_move (ht rfl)) rfl ?_
          refine RG.nil ?_
          exact AT.round (LG.sub (ih1 (i1 + 1) st ⟨natS hx1, h⟩) ⟨rfl, rfl, rfl, rfl, trivial⟩)
      · obtain ⟨hx, h⟩ := h
        refine LG.unfold ?_
        refine CG.seq ?_
        refine CG.region ?_
        refine RG.op (ok_lss (ht rfl) (ht rfl)) rfl ?_
        refine RG.nil ?_
        refine AT.next ?_
        refine CG.seq ?_
        refine CG.condT (ht rfl) (dropT hx) ?_
        refine CG.skip ?_
        refine AT.next ?_
        refine CG.seq ?_
        refine CG.block ?_
        refine CG.seq ?_
        refine CG.region ?_
        refine RG.op (ok_indexAddrO Try.underlying22 ti26 (.head _) (ht rfl) (ht rfl) (dropI hx)) rfl ?_
        refine RG.op (ok_loadE ti26 rfl rfl fld_whole rfl (.head _) (dropI hx) (ht rfl)) rfl ?_
        refine RG.op (ok_assign (ht rfl)) rfl ?_
        refine RG.nil ?_
        refine AT.next ?_
        refine CG.seq ?_
        refine CG.region ?_
        refine RG.op (ok_move (ht rfl)) rfl ?_
        refine RG.op (ok_move (ht rfl)) rfl ?_
        obtain ⟨r2, q_r2, h⟩ := bs h
        refine RG.callO cb42 (f42_own _ _ q_r2) ⟨(ht rfl), (ht rfl), trivial⟩ rfl (fun l2 c2 => ?_)
        refine RG.freeze ?_
        refine RG.tipAt 37 rfl ?_
        obtain ⟨r3, q_r3, h⟩ := bs h
        refine RG.op (ok_call cb43 (f43_ok _ q_r3) ⟨(tO_d (ht rfl)), trivial⟩) rfl ?_
        refine RG.op (ok_move (ht rfl)) rfl ?_
        refine RG.op (ok_conv Try.underlying3 Try.underlying40 (ht rfl)) rfl ?_
        obtain ⟨u, q_u, h⟩ := bs h
        refine RG.op (ok_rem (ht rfl) (ht rfl) (nz_some q_u)) rfl ?_
        refine RG.op (ok_conv Try.underlying40 Try.underlying3 (ht rfl)) rfl ?_
        refine RG.op (ok_assign (ht rfl)) rfl ?_
        refine RG.nil ?_
        refine AT.next ?_
        refine CG.region ?_
        refine RG.op (ok_move (ht rfl)) rfl ?_
        refine RG.op (ok_move (ht rfl)) rfl ?_
        refine RG.op (ok_move (ht rfl)) rfl ?_
        refine RG.op (ok_move (ht rfl)) rfl ?_
        refine RG.front2 ?_
        refine RG.takeT Try.underlying81 (key_int Try.underlying3) zv22 (ht rfl) (keyI (ht rfl)) rfl (fun l3 c3 os1 => ?_)
        refine RG.op (ok_move (ht rfl)) rfl ?_
        refine RG.op (ok_buildSlice (r := (rSl rpDValue)) (ys := [e]) (xs := [.tmp 48]) Try.underlying22 ti26 rfl rfl rfl rfl rfl ⟨(ht rfl), trivial⟩) rfl ?_
        obtain ⟨l4, q_l4, h⟩ := bs h
        refine RG.appendT ti26 rfl rfl rfl rfl Try.underlying22 rfl rfl (ht rfl) (ht rfl) q_l4 (fun l5 c4 => ?_)
        refine RG.front1 ?_
        refine RG.front1 ?_
        refine RG.putT Try.underlying81 (key_int Try.underlying3) (ht rfl) (keyI (ht rfl)) (ht rfl) (fun os2 => ?_)
        refine RG.nil ?_
        refine AT.in_normal ?_
        refine AT.next ?_
        refine CG.region ?_
        refine RG.op (ok_incN (dropL hx hN) (ht rfl) hI) rfl ?_
        refine RG.op (ok_move (ht rfl)) rfl ?_
        refine RG.nil ?_
        refine AT.front1 ?_
        refine AT.drop ?_
        refine AT.front1 ?_
        exact AT.round (LG.sub (ih (i + 1) (mset x (IntKind.i64.wrap ((r3).tmod (IntKind.u32.wrap p2))) l4) os2 ⟨dropS hx, h⟩) ⟨rfl, rfl, rfl, rfl, rfl, rfl, trivial⟩)

end Go.Proofs.Ytchjhcgkfglgiaa
