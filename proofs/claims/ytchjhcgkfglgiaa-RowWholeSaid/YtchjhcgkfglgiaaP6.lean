/- The walks, part 6. -/
import Derived.Test.YtchjhcgkfglgiaaT
import Derived.Test.YtchjhcgkfglgiaaP5
namespace Go.Proofs.Ytchjhcgkfglgiaa
open Go

set_option maxRecDepth 100000 in
theorem f8_ok (p : (List (List DValue))) (p1 : (List Int)) (p2 : Int) {R : Bool} (h : law05_RowWhole p p1 p2 = some R) : Spec Try.prog 8 [tD (rSl (rSl rpDValue)) p, tD (rSl (rI .i64)) p1, tD (rI .i64) p2] (tD rB R) := by
  refine Spec.of Try.func8 rfl rfl rfl fun w0 S0 => ?_
  refine CG.seq ?_
  refine CG.region ?_
  refine RG.op (ok_assign hB) rfl ?_
  refine RG.nil ?_
  refine AT.next ?_
  refine CG.seq ?_
  refine CG.seq ?_
  refine CG.region ?_
  obtain ⟨r, q_r, h⟩ := bs h
  refine RG.op (ok_call cb9 (f9_ok  q_r) trivial) rfl ?_
  refine RG.op (ok_not (ht rfl)) rfl ?_
  refine RG.nil ?_
  refine AT.next ?_
  refine CG.cond (ht rfl) (fun hc => ?_) (fun hc => ?_)
  · have h := ct h hc
    refine CG.seq ?_
    refine CG.region ?_
    refine RG.op (ok_assign hB) rfl ?_
    refine RG.nil ?_
    refine AT.next ?_
    refine CG.ret ?_
    refine AT.then_ret ?_
    cases so h
    exact AT.ret1 rfl rfl
  · have h := cf h hc
    refine CG.skip ?_
    refine AT.next ?_
    refine CG.seq ?_
    refine CG.seq ?_
    refine CG.region ?_
    refine RG.op (ok_move (ht rfl)) rfl ?_
    obtain ⟨r1, q_r1, h⟩ := bs h
    refine RG.op (ok_call cb10 (f10_ok _ q_r1) ⟨(ht rfl), trivial⟩) rfl ?_
    refine RG.op (ok_move (ht rfl)) rfl ?_
    refine RG.opGf rfl rfl rfl rfl (fun hg => ok_move (ht rfl)) ?_
    refine RG.opGf rfl rfl rfl rfl (fun hg => ok_lenSl Try.underlying37 (htO rfl hg)) ?_
    refine RG.opGf rfl rfl rfl rfl (fun hg => ok_gtr (htO rfl hg) hI) ?_
    refine RG.op (ok_pickOr (ht rfl) (fun hb => (htO rfl (noti hb)))) rfl ?_
    refine RG.nil ?_
    refine AT.next ?_
    refine CG.cond (ht rfl) (fun hc => ?_) (fun hc => ?_)
    · have h := ct h hc
      refine CG.seq ?_
      refine CG.region ?_
      refine RG.op (ok_assign hB) rfl ?_
      refine RG.nil ?_
      refine AT.next ?_
      refine CG.ret ?_
      refine AT.then_ret ?_
      cases so h
      exact AT.ret1 rfl rfl
    · have h := cf h hc
      refine CG.skip ?_
      refine AT.next ?_
      refine CG.seq ?_
      refine CG.region ?_
      refine RG.op (ok_move (ht rfl)) rfl ?_
      refine RG.op (ok_move (ht rfl)) rfl ?_
      obtain ⟨r2, q_r2, h⟩ := bs h
      refine RG.op (ok_call cb31 (f31_ok _ _ q_r2) ⟨(ht rfl), (ht rfl), trivial⟩) rfl ?_
      refine RG.op (ok_move (ht rfl)) rfl ?_
      refine RG.op (ok_extract rfl (ht rfl)) rfl ?_
      refine RG.op (ok_extract rfl (ht rfl)) rfl ?_
      refine RG.op (ok_assign (ht rfl)) rfl ?_
      refine RG.op (ok_assign (ht rfl)) rfl ?_
      refine RG.nil ?_
      refine AT.next ?_
      refine CG.seq ?_
      refine CG.seq ?_
      refine CG.region ?_
      refine RG.op (ok_move (ht rfl)) rfl ?_
      refine RG.op (ok_neqI (ht rfl) hI) rfl ?_
      refine RG.nil ?_
      refine AT.next ?_
      refine CG.cond (ht rfl) (fun hc => ?_) (fun hc => ?_)
      · have h := ct h hc
        refine CG.seq ?_
        refine CG.region ?_
        refine RG.op (ok_move (ht rfl)) rfl ?_
        refine RG.op (ok_lenSl Try.underlying53 (ht rfl)) rfl ?_
        refine RG.op (ok_eqlI (ht rfl) hI) rfl ?_
        refine RG.op (ok_assign (ht rfl)) rfl ?_
        refine RG.nil ?_
        refine AT.next ?_
        refine CG.ret ?_
        refine AT.then_ret ?_
        cases so h
        exact AT.ret1 rfl rfl
      · have h := cf h hc
        refine CG.skip ?_
        refine AT.next ?_
        refine CG.seq ?_
        refine CG.region ?_
        refine RG.fresh false (rSl rpDValue) 26 ?_
        refine RG.op (ok_assign hVn) rfl ?_
        refine RG.nil ?_
        refine AT.next ?_
        refine CG.seq ?_
        refine CG.seq ?_
        refine CG.region ?_
        refine RG.op (ok_move (ht rfl)) rfl ?_
        refine RG.op (ok_lenSl Try.underlying53 (ht rfl)) rfl ?_
        refine RG.op (ok_move hI) rfl ?_
        refine RG.nil ?_
        refine AT.next ?_
        refine CG.block ?_
        refine CG.have_len (k := 48) rfl (fun hN => ?_)
        refine CG.loop ?_
        refine LG.sub (LG.list4 (Z := fun ls i x l c => (r2.1.drop i = ls) ∧ law05_RowWhole_l1 p p1 p2 r2 ls i x = some R) (Of := fun _ i x l c => [arr (rSl rpDValue) 26 l c x]) (Gf := fun _ i x l c => [(0, tD (rSl (rSl rpDValue)) p), (1, tD (rSl (rI .i64)) p1), (2, tD (rI .i64) p2), (7, tD (rSl rpDGroup) r2.1), (9, tV (oslV l c x.length)), (48, tD (rSl rpDGroup) r2.1), (49, tD (rI .i64) (r2.1.length : Int)), (50, tD (rI .i64) (i : Int))]) (fun i x l c h => ?_) (fun e tl ih i x l c h => ?_) r2.1 0 ([] : List (List DValue)) none 0 ⟨rfl, h⟩) ⟨rfl, rfl, rfl, rfl, rfl, rfl, rfl, rfl, trivial⟩
        · obtain ⟨hx, h⟩ := h
          refine LG.unfold ?_
          refine CG.seq ?_
          refine CG.region ?_
          refine RG.op (ok_lss (ht rfl) (ht rfl)) rfl ?_
          refine RG.nil ?_
          refine AT.next ?_
          refine CG.seq ?_
          refine CG.condF (ht rfl) (dropF hx) ?_
          refine CG.exit ?_
          refine AT.then_exit (AT.then_exit (AT.in_exit ?_))
          refine AT.next ?_
          refine CG.seq ?_
          refine CG.seq ?_
          refine CG.region ?_
          refine RG.op (ok_move (ht rfl)) rfl ?_
          refine RG.op (ok_move (ht rfl)) rfl ?_
          refine RG.freeze ?_
          refine RG.tipAt 9 rfl ?_
          refine RG.tipAt 104 rfl ?_
          obtain ⟨r3, q_r3, h⟩ := bs h
          refine RG.op (ok_call cb24 (f24_ok _ _ q_r3) ⟨(tO_d (ht rfl)), (ht rfl), trivial⟩) rfl ?_
          refine RG.op (ok_move (ht rfl)) rfl ?_
          refine RG.op (ok_extract rfl (ht rfl)) rfl ?_
          refine RG.op (ok_extract rfl (ht rfl)) rfl ?_
          refine RG.op (ok_assign (ht rfl)) rfl ?_
          refine RG.op (ok_assign (ht rfl)) rfl ?_
          refine RG.nil ?_
          refine AT.next ?_
          refine CG.seq ?_
          refine CG.region ?_
          refine RG.op (ok_move (ht rfl)) rfl ?_
          refine RG.op (ok_neqI (ht rfl) hI) rfl ?_
          refine RG.op (ok_move (ht rfl)) rfl ?_
          refine RG.opGf rfl rfl rfl rfl (fun hg => ok_move (ht rfl)) ?_
          refine RG.opGf rfl rfl rfl rfl (fun hg => ok_not (htO rfl hg)) ?_
          refine RG.op (ok_pickOr (ht rfl) (fun hb => (htO rfl (noti hb)))) rfl ?_
          refine RG.nil ?_
          refine AT.next ?_
          refine CG.cond (ht rfl) (fun hc => ?_) (fun hc => ?_)
          · have h := ct h hc
            refine CG.seq ?_
            refine CG.region ?_
            refine RG.op (ok_assign hB) rfl ?_
            refine RG.nil ?_
            refine AT.next ?_
            refine CG.ret ?_
            refine AT.then_ret ?_
            refine AT.drop ?_
            cases so h
            exact AT.ret1 rfl rfl
          · have h := cf h hc
            refine CG.skip ?_
            refine AT.next ?_
            refine CG.seq ?_
            refine CG.region ?_
            refine RG.op (ok_move (ht rfl)) rfl ?_
            refine RG.op (ok_max2 (ht rfl) hI) rfl ?_
            refine RG.op (ok_rem (ht rfl) hI (by decide)) rfl ?_
            refine RG.op (ok_add (ht rfl) hI) rfl ?_
            refine RG.op (ok_assign (ht rfl)) rfl ?_
            refine RG.nil ?_
            refine AT.next ?_
            refine CG.seq ?_
            refine CG.region ?_
            refine RG.op (ok_move (ht rfl)) rfl ?_
            refine RG.op (ok_move (ht rfl)) rfl ?_
            refine RG.op (ok_move (ht rfl)) rfl ?_
            obtain ⟨r4, q_r4, h⟩ := bs h
            refine RG.op (ok_call cb32 (f32_ok _ _ _ q_r4) ⟨(ht rfl), (ht rfl), (ht rfl), trivial⟩) rfl ?_
            refine RG.op (ok_move (ht rfl)) rfl ?_
            refine RG.op (ok_extract rfl (ht rfl)) rfl ?_
            refine RG.op (ok_extract rfl (ht rfl)) rfl ?_
            refine RG.op (ok_assign (ht rfl)) rfl ?_
            refine RG.op (ok_assign (ht rfl)) rfl ?_
            refine RG.nil ?_
            refine AT.next ?_
            refine CG.seq ?_
            refine CG.seq ?_
            refine CG.region ?_
            refine RG.op (ok_move (ht rfl)) rfl ?_
            refine RG.op (ok_neqI (ht rfl) hI) rfl ?_
            refine RG.op (ok_move (ht rfl)) rfl ?_
            refine RG.opGf rfl rfl rfl rfl (fun hg => ok_move (ht rfl)) ?_
            refine RG.opGf rfl rfl rfl rfl (fun hg => ok_lenSl Try.underlying58 (htO rfl hg)) ?_
            refine RG.opGf rfl rfl rfl rfl (fun hg => ok_move (ht rfl)) ?_
            refine RG.opGf rfl rfl rfl rfl (fun hg => ok_neqI (htO rfl hg) (htO rfl hg)) ?_
            refine RG.op (ok_pickOr (ht rfl) (fun hb => (htO rfl (noti hb)))) rfl ?_
            refine RG.nil ?_
            refine AT.next ?_
            refine CG.cond (ht rfl) (fun hc => ?_) (fun hc => ?_)
            · have h := ct h hc
              refine CG.seq ?_
              refine CG.region ?_
              refine RG.op (ok_assign hB) rfl ?_
              refine RG.nil ?_
              refine AT.next ?_
              refine CG.ret ?_
              refine AT.then_ret ?_
              refine AT.drop ?_
              cases so h
              exact AT.ret1 rfl rfl
            · have h := cf h hc
              refine CG.skip ?_
              refine AT.next ?_
              refine CG.seq ?_
              refine CG.seq ?_
              refine CG.region ?_
              refine RG.op (ok_move (ht rfl)) rfl ?_
              refine RG.op (ok_lenSl Try.underlying58 (ht rfl)) rfl ?_
              refine RG.op (ok_move hI) rfl ?_
              refine RG.nil ?_
              refine AT.next ?_
              refine CG.block ?_
              refine CG.have_len (k := 134) rfl (fun hN1 => ?_)
              refine CG.loop ?_
              refine LG.drop ?_
              refine LG.sub (LG.list1 (Z := fun ls1 i1  => (r4.1.drop i1 = ls1) ∧ law05_RowWhole_l2 p p1 p2 r4 ls1 i1  = some R) (Of := fun _ i1  => []) (Gf := fun _ i1  => [(0, tD (rSl (rSl rpDValue)) p), (1, tD (rSl (rI .i64)) p1), (2, tD (rI .i64) (IntKind.i64.wrap ((((max p2 (0 : Int))).tmod (64 : Int)) + (1 : Int)))), (18, tD (rSl (rSl (rSl rpDValue))) r4.1), (134, tD (rSl (rSl (rSl rpDValue))) r4.1), (135, tD (rI .i64) (r4.1.length : Int)), (136, tD (rI .i64) (i1 : Int))]) (fun i1  h => ?_) (fun e1 tl1 ih1 i1  h => ?_) r4.1 0  ⟨rfl, h⟩) ⟨rfl, rfl, rfl, rfl, rfl, rfl, rfl, trivial⟩
              · obtain ⟨hx1, h⟩ := h
                refine LG.unfold ?_
                refine CG.seq ?_
                refine CG.region ?_
                refine RG.op (ok_lss (ht rfl) (ht rfl)) rfl ?_
                refine RG.nil ?_
                refine AT.next ?_
                refine CG.seq ?_
                refine CG.condF (ht rfl) (dropF hx1) ?_
                refine CG.exit ?_
                refine AT.then_exit (AT.then_exit (AT.in_exit ?_))
                refine AT.next ?_
                refine CG.seq ?_
                refine CG.region ?_
                refine RG.op (ok_move (ht rfl)) rfl ?_
                obtain ⟨r5, q_r5, h⟩ := bs h
                refine RG.op (ok_call cb26 (f26_ok _ q_r5) ⟨(ht rfl), trivial⟩) rfl ?_
                refine RG.op (ok_move (ht rfl)) rfl ?_
                refine RG.op (ok_extract rfl (ht rfl)) rfl ?_
                refine RG.op (ok_extract rfl (ht rfl)) rfl ?_
                refine RG.op (ok_assign (ht rfl)) rfl ?_
                refine RG.op (ok_assign (ht rfl)) rfl ?_
                refine RG.nil ?_
                refine AT.next ?_
                refine CG.seq ?_
                refine CG.region ?_
                refine RG.op (ok_move (ht rfl)) rfl ?_
                obtain ⟨r6, q_r6, h⟩ := bs h
                refine RG.op (ok_call cb23 (f23_ok _ q_r6) ⟨(ht rfl), trivial⟩) rfl ?_
                refine RG.op (ok_move (ht rfl)) rfl ?_
                refine RG.op (ok_extract rfl (ht rfl)) rfl ?_
                refine RG.op (ok_extract rfl (ht rfl)) rfl ?_
                refine RG.op (ok_assign (ht rfl)) rfl ?_
                refine RG.op (ok_assign (ht rfl)) rfl ?_
                refine RG.nil ?_
                refine AT.next ?_
                refine CG.seq ?_
                refine CG.region ?_
                refine RG.op (ok_move (ht rfl)) rfl ?_
                refine RG.op (ok_eqlI (ht rfl) hI) rfl ?_
                refine RG.op (ok_move (ht rfl)) rfl ?_
                refine RG.opGt rfl rfl rfl rfl (fun hg => ok_move (ht rfl)) ?_
                refine RG.opGt rfl rfl rfl rfl (fun hg => ok_eqlI (htO rfl hg) hI) ?_
                refine RG.op (ok_pickAnd (ht rfl) (fun hb => (htO rfl hb))) rfl ?_
                refine RG.op (ok_move (ht rfl)) rfl ?_
                obtain ⟨t, q_t, h⟩ := bs h
                refine RG.opGt rfl rfl rfl rfl (fun hg => ok_move (ht rfl)) ?_
                refine RG.opGt rfl rfl rfl rfl (fun hg => ok_move (ht rfl)) ?_
                obtain ⟨r7, h1t, h0t⟩ := og q_t
                have q_r7g := fun hb => (h1t hb).1
                refine RG.opGt rfl rfl rfl rfl (fun hg => ok_call cb15 (f15_ok _ _ (q_r7g hg)) ⟨(htO rfl hg), (htO rfl hg), trivial⟩) ?_
                refine RG.op (ok_pickAndM (ht rfl) (fun hb => (htO rfl hb)) (fun hb => (h1t hb).2) h0t) rfl ?_
                refine RG.op (ok_assign (ht rfl)) rfl ?_
                refine RG.nil ?_
                refine AT.next ?_
                refine CG.ret ?_
                cases so h
                exact AT.ret1 rfl rfl
              · obtain ⟨hx1, h⟩ := h
                refine LG.unfold ?_
                refine CG.seq ?_
                refine CG.region ?_
                refine RG.op (ok_lss (ht rfl) (ht rfl)) rfl ?_
                refine RG.nil ?_
                refine AT.next ?_
                refine CG.seq ?_
                refine CG.condT (ht rfl) (dropT hx1) ?_
                refine CG.skip ?_
                refine AT.next ?_
                refine CG.seq ?_
                refine CG.block ?_
                refine CG.seq ?_
                refine CG.region ?_
                refine RG.op (ok_move (ht rfl)) rfl ?_
                refine RG.op (ok_indexAddr Try.underlying58 ti22 rfl (ht rfl) (ht rfl) (dropI hx1)) rfl ?_
                refine RG.op (ok_load ti22 rfl rfl (ht rfl)) rfl ?_
                refine RG.op (ok_assign (ht rfl)) rfl ?_
                refine RG.op (ok_assign (ht rfl)) rfl ?_
                refine RG.nil ?_
                refine AT.next ?_
                refine CG.seq ?_
                refine CG.region ?_
                refine RG.op (ok_move (ht rfl)) rfl ?_
                refine RG.op (ok_lenSl Try.underlying22 (ht rfl)) rfl ?_
                refine RG.op (ok_move hI) rfl ?_
                refine RG.nil ?_
                refine AT.next ?_
                refine CG.block ?_
                refine CG.have_len (k := 141) rfl (fun hN2 => ?_)
                refine CG.loop ?_
                refine LG.sub (LG.list1 (Z := fun ls2 i2  => (e1.drop i2 = ls2) ∧ law05_RowWhole_l3 p1 p2 (law05_RowWhole_l2 p p1 p2 r4 tl1) i1 ls2  = some R) (Of := fun _ i2  => []) (Gf := fun _ i2  => [(0, tD (rSl (rSl rpDValue)) p), (1, tD (rSl (rI .i64)) p1), (2, tD (rI .i64) (IntKind.i64.wrap ((((max p2 (0 : Int))).tmod (64 : Int)) + (1 : Int)))), (18, tD (rSl (rSl (rSl rpDValue))) r4.1), (19, tD (rI .i64) (i1 : Int)), (134, tD (rSl (rSl (rSl rpDValue))) r4.1), (135, tD (rI .i64) (r4.1.length : Int)), (136, tD (rI .i64) (i1 : Int)), (141, tD (rSl (rSl rpDValue)) e1), (142, tD (rI .i64) (e1.length : Int)), (143, tD (rI .i64) (i2 : Int))]) (fun i2  h => ?_) (fun e2 tl2 ih2 i2  h => ?_) e1 0  ⟨rfl, h⟩) ⟨rfl, rfl, rfl, rfl, rfl, rfl, rfl, rfl, rfl, rfl, rfl, trivial⟩
                · obtain ⟨hx2, h⟩ := h
                  refine LG.unfold ?_
                  refine CG.seq ?_
                  refine CG.region ?_
                  refine RG.op (ok_lss (ht rfl) (ht rfl)) rfl ?_
                  refine RG.nil ?_
                  refine AT.next ?_
                  refine CG.seq ?_
                  refine CG.condF (ht rfl) (dropF hx2) ?_
                  refine CG.exit ?_
                  refine AT.then_exit (AT.then_exit (AT.in_exit ?_))
                  refine AT.in_normal ?_
                  refine AT.next ?_
                  refine CG.region ?_
                  refine RG.op (ok_incN (dropL hx1 hN1) (ht rfl) hI) rfl ?_
                  refine RG.op (ok_move (ht rfl)) rfl ?_
                  refine RG.nil ?_
                  exact AT.round (LG.sub (ih1 (i1 + 1)  ⟨dropS hx1, h⟩) ⟨rfl, rfl, rfl, rfl, rfl, rfl, rfl, trivial⟩)
                · obtain ⟨hx2, h⟩ := h
                  refine LG.unfold ?_
                  refine CG.seq ?_
                  refine CG.region ?_
                  refine RG.op (ok_lss (ht rfl) (ht rfl)) rfl ?_
                  refine RG.nil ?_
                  refine AT.next ?_
                  refine CG.seq ?_
                  refine CG.condT (ht rfl) (dropT hx2) ?_
                  refine CG.skip ?_
                  refine AT.next ?_
                  refine CG.seq ?_
                  refine CG.block ?_
                  refine CG.seq ?_
                  refine CG.region ?_
                  refine RG.op (ok_indexAddr Try.underlying22 ti26 rfl (ht rfl) (ht rfl) (dropI hx2)) rfl ?_
                  refine RG.op (ok_load ti26 rfl rfl (ht rfl)) rfl ?_
                  refine RG.op (ok_assign (ht rfl)) rfl ?_
                  refine RG.nil ?_
                  refine AT.next ?_
                  refine CG.seq ?_
                  refine CG.region ?_
                  refine RG.op (ok_move (ht rfl)) rfl ?_
                  refine RG.op (ok_move (ht rfl)) rfl ?_
                  obtain ⟨r8, q_r8, h⟩ := bs h
                  refine RG.op (ok_call cb19 (f19_ok _ _ q_r8) ⟨(ht rfl), (ht rfl), trivial⟩) rfl ?_
                  refine RG.op (ok_move (ht rfl)) rfl ?_
                  refine RG.op (ok_extract rfl (ht rfl)) rfl ?_
                  refine RG.op (ok_extract rfl (ht rfl)) rfl ?_
                  refine RG.op (ok_assign (ht rfl)) rfl ?_
                  refine RG.op (ok_assign (ht rfl)) rfl ?_
                  refine RG.nil ?_
                  refine AT.next ?_
                  refine CG.seq ?_
                  refine CG.region ?_
                  refine RG.op (ok_move (ht rfl)) rfl ?_
                  refine RG.op (ok_neqI (ht rfl) hI) rfl ?_
                  refine RG.op (ok_move (ht rfl)) rfl ?_
                  obtain ⟨t1, q_t1, h⟩ := bs h
                  refine RG.opGf rfl rfl rfl rfl (fun hg => ok_move (ht rfl)) ?_
                  refine RG.opGf rfl rfl rfl rfl (fun hg => ok_move (ht rfl)) ?_
                  refine RG.opGf rfl rfl rfl rfl (fun hg => ok_conv Try.underlying3 Try.underlying40 (htO rfl hg)) ?_
                  obtain ⟨u, h1t1, h0t1⟩ := og q_t1
                  have q_ug := fun hb => (h1t1 hb).1
                  refine RG.opGf rfl rfl rfl rfl (fun hg => ok_rem (htO rfl hg) (htO rfl hg) (nz_some (q_ug hg))) ?_
                  refine RG.opGf rfl rfl rfl rfl (fun hg => ok_conv Try.underlying40 Try.underlying3 (htO rfl hg)) ?_
                  refine RG.opGf rfl rfl rfl rfl (fun hg => ok_move (ht rfl)) ?_
                  refine RG.opGf rfl rfl rfl rfl (fun hg => ok_neqI (htO rfl hg) (htO rfl hg)) ?_
                  refine RG.op (ok_pickOrM (ht rfl) (fun hb => (htO rfl (noti hb))) (fun hb => (h1t1 hb).2) h0t1) rfl ?_
                  refine RG.nil ?_
                  refine AT.next ?_
                  refine CG.cond (ht rfl) (fun hc => ?_) (fun hc => ?_)
                  · have h := ct h hc
                    refine CG.seq ?_
                    refine CG.region ?_
                    refine RG.op (ok_assign hB) rfl ?_
                    refine RG.nil ?_
                    refine AT.next ?_
                    refine CG.ret ?_
                    refine AT.in_ret (AT.then_ret (AT.then_ret (AT.in_ret (AT.in_ret (AT.then_ret (AT.then_ret (AT.in_ret (AT.then_ret ?_))))))))
                    cases so h
                    exact AT.ret1 rfl rfl
                  · have h := cf h hc
                    refine CG.skip ?_
                    refine AT.in_normal ?_
                    refine AT.next ?_
                    refine CG.region ?_
                    refine RG.op (ok_incN (dropL hx2 hN2) (ht rfl) hI) rfl ?_
                    refine RG.op (ok_move (ht rfl)) rfl ?_
                    refine RG.nil ?_
                    exact AT.round (LG.sub (ih2 (i2 + 1)  ⟨dropS hx2, h⟩) ⟨rfl, rfl, rfl, rfl, rfl, rfl, rfl, rfl, rfl, rfl, rfl, trivial⟩)
        · obtain ⟨hx, h⟩ := h
          refine LG.unfold ?_
          refine CG.seq ?_
          refine CG.region ?_
          refine RG.op (ok_lss (ht rfl) (ht rfl)) rfl ?_
          refine RG.nil ?_
          refine AT.next ?_
          refine CG.seq ?_
          refine CG.condT (ht rfl) (dropT hx) ?_
          refine CG.skip ?_
          refine AT.next ?_
          refine CG.seq ?_
          refine CG.block ?_
          refine CG.seq ?_
          refine CG.region ?_
          refine RG.op (ok_move (ht rfl)) rfl ?_
          refine RG.op (ok_indexAddr Try.underlying53 ti57 rfl (ht rfl) (ht rfl) (dropI hx)) rfl ?_
          refine RG.op (ok_load ti57 rfl rfl (ht rfl)) rfl ?_
          refine RG.alloc (r := rpDGroup) (x := (⟨[], []⟩ : DGroup)) ti57 (fun _ => zrDGroup _) rfl (fun b => ?_)
          refine RG.op (ok_assign (ht rfl)) rfl ?_
          refine RG.storeB ti57 rfl sfld_whole rfl (ht rfl) (ht rfl) ?_
          refine RG.settleB 11 rfl ?_
          refine RG.nil ?_
          refine AT.next ?_
          refine CG.seq ?_
          refine CG.seq ?_
          obtain ⟨t2, q_t2, h⟩ := bs h
          obtain ⟨t3, h1t2, h0t2⟩ := og q_t2
          have q_t3g := fun hb => (h1t2 hb).1
          obtain ⟨e3, h1t3, h0t3⟩ := og3 q_t3g
          have q_e3g := fun hb => (h1t3 hb).1
          obtain ⟨r9, h1t3⟩ := og2 (fun hb => (h1t3 hb).2)
          have q_r9g := fun hb => (h1t3 hb).1
          refine CG.draw (ts := [tPtr (rSl (rSl rpDValue)) e.Rows, tD (rSl (rSl rpDValue)) e.Rows, tD (rI .i64) (e.Rows.length : Int), tD rB ((e.Rows.length : Int) == (0 : Int)), tD rB ((e.Rows.length : Int) == (0 : Int)), tOpt (!((e.Rows.length : Int) == (0 : Int))) (tD (rI .i64) (i : Int)), tOpt (!((e.Rows.length : Int) == (0 : Int))) (tD rB (decide ((0 : Int) < (i : Int)))), tOpt (!((e.Rows.length : Int) == (0 : Int))) (tD rB (decide ((0 : Int) < (i : Int)))), tOpt ((!((e.Rows.length : Int) == (0 : Int))) && (decide ((0 : Int) < (i : Int)))) (tD (rSl rpDGroup) r2.1), tOpt ((!((e.Rows.length : Int) == (0 : Int))) && (decide ((0 : Int) < (i : Int)))) (tD (rI .i64) (i : Int)), tOpt ((!((e.Rows.length : Int) == (0 : Int))) && (decide ((0 : Int) < (i : Int)))) (tD (rI .i64) (IntKind.i64.wrap ((i : Int) - (1 : Int)))), tOpt ((!((e.Rows.length : Int) == (0 : Int))) && (decide ((0 : Int) < (i : Int)))) (tPtr rpDGroup e3), tOpt ((!((e.Rows.length : Int) == (0 : Int))) && (decide ((0 : Int) < (i : Int)))) (tPtr (rSl rpDValue) e3.Key), tOpt ((!((e.Rows.length : Int) == (0 : Int))) && (decide ((0 : Int) < (i : Int)))) (tD (rSl rpDValue) e3.Key), tOpt ((!((e.Rows.length : Int) == (0 : Int))) && (decide ((0 : Int) < (i : Int)))) (tPtr (rSl rpDValue) e.Key), tOpt ((!((e.Rows.length : Int) == (0 : Int))) && (decide ((0 : Int) < (i : Int)))) (tD (rSl rpDValue) e.Key), tOpt ((!((e.Rows.length : Int) == (0 : Int))) && (decide ((0 : Int) < (i : Int)))) (tD (rI .i64) r9), tOpt ((!((e.Rows.length : Int) == (0 : Int))) && (decide ((0 : Int) < (i : Int)))) (tD rB (decide ((0 : Int) ≤ r9))), tOpt (!((e.Rows.length : Int) == (0 : Int))) (tD rB t3), tD rB t2]) mixed rfl rfl
            ⟨⟨[⟨11, _, none⟩], _, rfl, ⟨rfl, trivial⟩, rfl, rfl, OpG.plain rfl (ok_fieldAddr fd57_1 rfl flDGroup_1 rfl (ht rfl))⟩,
            ⟨⟨[⟨55, _, some 0⟩], _, rfl, ⟨rfl, trivial⟩, rfl, rfl, OpG.plain rfl (ok_load ti22 rfl rfl (ht rfl))⟩,
            ⟨⟨[⟨56, _, some 1⟩], _, rfl, ⟨rfl, trivial⟩, rfl, rfl, OpG.plain rfl (ok_lenSl Try.underlying22 (ht rfl))⟩,
            ⟨⟨[⟨57, _, some 2⟩], _, rfl, ⟨rfl, trivial⟩, rfl, rfl, OpG.plain rfl (ok_eqlI (ht rfl) hI)⟩,
            ⟨⟨[⟨58, _, some 3⟩], _, rfl, ⟨rfl, trivial⟩, rfl, rfl, OpG.plain rfl (ok_move (ht rfl))⟩,
            ⟨⟨[⟨10, _, none⟩, ⟨59, _, some 4⟩], _, rfl, ⟨rfl, rfl, trivial⟩, rfl, rfl, OpG.gf rfl rfl rfl rfl (fun hg => ok_move (ht rfl))⟩,
            ⟨⟨[⟨60, _, some 5⟩, ⟨59, _, some 4⟩], _, rfl, ⟨rfl, rfl, trivial⟩, rfl, rfl, OpG.gf rfl rfl rfl rfl (fun hg => ok_gtr (htO rfl hg) hI)⟩,
            ⟨⟨[⟨61, _, some 6⟩, ⟨59, _, some 4⟩], _, rfl, ⟨rfl, rfl, trivial⟩, rfl, rfl, OpG.gf rfl rfl rfl rfl (fun hg => ok_move (htO rfl hg))⟩,
            ⟨⟨[⟨7, _, none⟩, ⟨62, _, some 7⟩], _, rfl, ⟨rfl, rfl, trivial⟩, rfl, rfl, OpG.got rfl rfl rfl rfl (fun hg => ok_move (ht rfl))⟩,
            ⟨⟨[⟨10, _, none⟩, ⟨62, _, some 7⟩], _, rfl, ⟨rfl, rfl, trivial⟩, rfl, rfl, OpG.got rfl rfl rfl rfl (fun hg => ok_move (ht rfl))⟩,
            ⟨⟨[⟨64, _, some 9⟩, ⟨62, _, some 7⟩], _, rfl, ⟨rfl, rfl, trivial⟩, rfl, rfl, OpG.got rfl rfl rfl rfl (fun hg => ok_sub (htO rfl hg) hI)⟩,
            ⟨⟨[⟨63, _, some 8⟩, ⟨65, _, some 10⟩, ⟨62, _, some 7⟩], _, rfl, ⟨rfl, rfl, rfl, trivial⟩, rfl, rfl, OpG.got rfl rfl rfl rfl (fun hg => ok_indexAddr Try.underlying53 ti57 rfl (htO rfl hg) (htO rfl hg) (q_e3g hg))⟩,
            ⟨⟨[⟨66, _, some 11⟩, ⟨62, _, some 7⟩], _, rfl, ⟨rfl, rfl, trivial⟩, rfl, rfl, OpG.got rfl rfl rfl rfl (fun hg => ok_fieldAddr fd57_0 rfl flDGroup_0 rfl (htO rfl hg))⟩,
            ⟨⟨[⟨67, _, some 12⟩, ⟨62, _, some 7⟩], _, rfl, ⟨rfl, rfl, trivial⟩, rfl, rfl, OpG.got rfl rfl rfl rfl (fun hg => ok_load ti26 rfl rfl (htO rfl hg))⟩,
            ⟨⟨[⟨11, _, none⟩, ⟨62, _, some 7⟩], _, rfl, ⟨rfl, rfl, trivial⟩, rfl, rfl, OpG.got rfl rfl rfl rfl (fun hg => ok_fieldAddr fd57_0 rfl flDGroup_0 rfl (ht rfl))⟩,
            ⟨⟨[⟨69, _, some 14⟩, ⟨62, _, some 7⟩], _, rfl, ⟨rfl, rfl, trivial⟩, rfl, rfl, OpG.got rfl rfl rfl rfl (fun hg => ok_load ti26 rfl rfl (htO rfl hg))⟩,
            ⟨⟨[⟨68, _, some 13⟩, ⟨70, _, some 15⟩, ⟨62, _, some 7⟩], _, rfl, ⟨rfl, rfl, rfl, trivial⟩, rfl, rfl, OpG.got rfl rfl rfl rfl (fun hg => ok_call cb14 (f14_ok _ _ (q_r9g hg)) ⟨(htO rfl hg), (htO rfl hg), trivial⟩)⟩,
            ⟨⟨[⟨71, _, some 16⟩, ⟨62, _, some 7⟩], _, rfl, ⟨rfl, rfl, trivial⟩, rfl, rfl, OpG.got rfl rfl rfl rfl (fun hg => ok_geq (htO rfl hg) hI)⟩,
            ⟨⟨[⟨62, _, some 7⟩, ⟨72, _, some 17⟩, ⟨59, _, some 4⟩], _, rfl, ⟨rfl, rfl, rfl, trivial⟩, rfl, rfl, OpG.gf rfl rfl rfl rfl (fun hg => ok_pickAndM (htO rfl hg) (fun hb => (htO rfl (andi hg hb))) (fun hb => (h1t3 (andi hg hb)).2) (fun hb => h0t3 hg hb))⟩,
            ⟨⟨[⟨59, _, some 4⟩, ⟨73, _, some 18⟩], _, rfl, ⟨rfl, rfl, trivial⟩, rfl, rfl, OpG.plain rfl (ok_pickOrM (ht rfl) (fun hb => (htO rfl (noti hb))) (fun hb => (h1t2 hb).2) h0t2)⟩,
            trivial⟩⟩⟩⟩⟩⟩⟩⟩⟩⟩⟩⟩⟩⟩⟩⟩⟩⟩⟩⟩ ?_
          refine AT.next ?_
          refine CG.cond (ht rfl) (fun hc => ?_) (fun hc => ?_)
          · have h := ct h hc
            refine CG.seq ?_
            refine CG.region ?_
            refine RG.op (ok_assign hB) rfl ?_
            refine RG.nil ?_
            refine AT.next ?_
            refine CG.ret ?_
            refine AT.then_ret (AT.in_ret (AT.then_ret (AT.then_ret (AT.in_ret (AT.then_ret ?_)))))
            refine AT.drop ?_
            cases so h
            exact AT.ret1 rfl rfl
          · have h := cf h hc
            refine CG.skip ?_
            refine AT.next ?_
            refine CG.seq ?_
            refine CG.seq ?_
            refine CG.region ?_
            refine RG.op (ok_fieldAddr fd57_1 rfl flDGroup_1 rfl (ht rfl)) rfl ?_
            refine RG.op (ok_load ti22 rfl rfl (ht rfl)) rfl ?_
            refine RG.op (ok_lenSl Try.underlying22 (ht rfl)) rfl ?_
            refine RG.op (ok_move hI) rfl ?_
            refine RG.nil ?_
            refine AT.next ?_
            refine CG.block ?_
            refine CG.have_len (k := 76) rfl (fun hN3 => ?_)
            refine CG.loop ?_
            refine LG.sub (LG.list1 (Z := fun ls3 i3  => (e.Rows.drop i3 = ls3) ∧ law05_RowWhole_l4 p1 (law05_RowWhole_l1 p p1 p2 r2 tl) i e x ls3  = some R) (Of := fun _ i3  => [arr (rSl rpDValue) 26 l c x]) (Gf := fun _ i3  => [(0, tD (rSl (rSl rpDValue)) p), (1, tD (rSl (rI .i64)) p1), (2, tD (rI .i64) p2), (7, tD (rSl rpDGroup) r2.1), (9, tV (oslV l c x.length)), (11, tPtr rpDGroup e), (48, tD (rSl rpDGroup) r2.1), (49, tD (rI .i64) (r2.1.length : Int)), (50, tD (rI .i64) (i : Int)), (76, tD (rSl (rSl rpDValue)) e.Rows), (77, tD (rI .i64) (e.Rows.length : Int)), (78, tD (rI .i64) (i3 : Int))]) (fun i3  h => ?_) (fun e4 tl3 ih3 i3  h => ?_) e.Rows 0  ⟨rfl, h⟩) ⟨rfl, rfl, rfl, rfl, rfl, rfl, rfl, rfl, rfl, rfl, rfl, rfl, trivial⟩
            · obtain ⟨hx3, h⟩ := h
              refine LG.unfold ?_
              refine CG.seq ?_
              refine CG.region ?_
              refine RG.op (ok_lss (ht rfl) (ht rfl)) rfl ?_
              refine RG.nil ?_
              refine AT.next ?_
              refine CG.seq ?_
              refine CG.condF (ht rfl) (dropF hx3) ?_
              refine CG.exit ?_
              refine AT.then_exit (AT.then_exit (AT.in_exit ?_))
              refine AT.next ?_
              refine CG.region ?_
              refine RG.op (ok_move (ht rfl)) rfl ?_
              refine RG.op (ok_fieldAddr fd57_1 rfl flDGroup_1 rfl (ht rfl)) rfl ?_
              refine RG.op (ok_load ti22 rfl rfl (ht rfl)) rfl ?_
              obtain ⟨x1, q_x1, h⟩ := bs h
              refine RG.append ti26 rfl rfl rfl rfl Try.underlying22 rfl rfl (ht rfl) (ht rfl) q_x1 (fun l1 c1 => ?_)
              refine RG.op (ok_assign (ht rfl)) rfl ?_
              refine RG.nil ?_
              refine AT.in_normal ?_
              refine AT.next ?_
              refine CG.region ?_
              refine RG.op (ok_incN (dropL hx hN) (ht rfl) hI) rfl ?_
              refine RG.op (ok_move (ht rfl)) rfl ?_
              refine RG.nil ?_
              exact AT.round (LG.sub (ih (i + 1) x1 l1 c1 ⟨dropS hx, h⟩) ⟨rfl, rfl, rfl, rfl, rfl, rfl, rfl, rfl, trivial⟩)
            · obtain ⟨hx3, h⟩ := h
              refine LG.unfold ?_
              refine CG.seq ?_
              refine CG.region ?_
              refine RG.op (ok_lss (ht rfl) (ht rfl)) rfl ?_
              refine RG.nil ?_
              refine AT.next ?_
              refine CG.seq ?_
              refine CG.condT (ht rfl) (dropT hx3) ?_
              refine CG.skip ?_
              refine AT.next ?_
              refine CG.seq ?_
              refine CG.block ?_
              refine CG.seq ?_
              refine CG.region ?_
              refine RG.op (ok_indexAddr Try.underlying22 ti26 rfl (ht rfl) (ht rfl) (dropI hx3)) rfl ?_
              refine RG.op (ok_load ti26 rfl rfl (ht rfl)) rfl ?_
              refine RG.op (ok_assign (ht rfl)) rfl ?_
              refine RG.nil ?_
              refine AT.next ?_
              refine CG.seq ?_
              refine CG.region ?_
              refine RG.op (ok_move (ht rfl)) rfl ?_
              refine RG.op (ok_move (ht rfl)) rfl ?_
              obtain ⟨r10, q_r10, h⟩ := bs h
              refine RG.op (ok_call cb18 (f18_ok _ _ q_r10) ⟨(ht rfl), (ht rfl), trivial⟩) rfl ?_
              refine RG.op (ok_move (ht rfl)) rfl ?_
              refine RG.op (ok_extract rfl (ht rfl)) rfl ?_
              refine RG.op (ok_extract rfl (ht rfl)) rfl ?_
              refine RG.op (ok_assign (ht rfl)) rfl ?_
              refine RG.op (ok_assign (ht rfl)) rfl ?_
              refine RG.nil ?_
              refine AT.next ?_
              refine CG.seq ?_
              refine CG.region ?_
              refine RG.op (ok_move (ht rfl)) rfl ?_
              refine RG.op (ok_neqI (ht rfl) hI) rfl ?_
              refine RG.op (ok_move (ht rfl)) rfl ?_
              obtain ⟨t4, q_t4, h⟩ := bs h
              refine RG.opGf rfl rfl rfl rfl (fun hg => ok_move (ht rfl)) ?_
              refine RG.opGf rfl rfl rfl rfl (fun hg => ok_fieldAddr fd57_0 rfl flDGroup_0 rfl (ht rfl)) ?_
              refine RG.opGf rfl rfl rfl rfl (fun hg => ok_load ti26 rfl rfl (htO rfl hg)) ?_
              obtain ⟨r11, h1t4, h0t4⟩ := og q_t4
              have q_r11g := fun hb => (h1t4 hb).1
              refine RG.opGf rfl rfl rfl rfl (fun hg => ok_call cb14 (f14_ok _ _ (q_r11g hg)) ⟨(htO rfl hg), (htO rfl hg), trivial⟩) ?_
              refine RG.opGf rfl rfl rfl rfl (fun hg => ok_neqI (htO rfl hg) hI) ?_
              refine RG.op (ok_pickOrM (ht rfl) (fun hb => (htO rfl (noti hb))) (fun hb => (h1t4 hb).2) h0t4) rfl ?_
              refine RG.nil ?_
              refine AT.next ?_
              refine CG.cond (ht rfl) (fun hc => ?_) (fun hc => ?_)
              · have h := ct h hc
                refine CG.seq ?_
                refine CG.region ?_
                refine RG.op (ok_assign hB) rfl ?_
                refine RG.nil ?_
                refine AT.next ?_
                refine CG.ret ?_
                refine AT.in_ret (AT.then_ret (AT.then_ret (AT.in_ret (AT.then_ret (AT.in_ret (AT.then_ret (AT.then_ret (AT.in_ret (AT.then_ret ?_)))))))))
                refine AT.drop ?_
                cases so h
                exact AT.ret1 rfl rfl
              · have h := cf h hc
                refine CG.skip ?_
                refine AT.in_normal ?_
                refine AT.next ?_
                refine CG.region ?_
                refine RG.op (ok_incN (dropL hx3 hN3) (ht rfl) hI) rfl ?_
                refine RG.op (ok_move (ht rfl)) rfl ?_
                refine RG.nil ?_
                exact AT.round (LG.sub (ih3 (i3 + 1)  ⟨dropS hx3, h⟩) ⟨rfl, rfl, rfl, rfl, rfl, rfl, rfl, rfl, rfl, rfl, rfl, rfl, trivial⟩)

end Go.Proofs.Ytchjhcgkfglgiaa
