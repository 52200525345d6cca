/- The walks, part 3. -/
import Derived.Test.YtchjhcgkfglgiaaT
import Derived.Test.YtchjhcgkfglgiaaP2
namespace Go.Proofs.Ytchjhcgkfglgiaa
open Go

set_option maxRecDepth 100000 in
theorem f4_ok (p : (List (List DValue))) (p1 : Int) {R : Bool} (h : law05_RowOrder p p1 = some R) : Spec Try.prog 4 [tD (rSl (rSl rpDValue)) p, tD (rI .i64) p1] (tD rB R) := by
  refine Spec.of Try.func4 rfl rfl rfl fun w0 S0 => ?_
  refine CG.seq ?_
  refine CG.region ?_
  refine RG.op (ok_assign hB) rfl ?_
  refine RG.nil ?_
  refine AT.next ?_
  refine CG.seq ?_
  refine CG.seq ?_
  refine CG.region ?_
  obtain ⟨r, q_r, h⟩ := bs h
  refine RG.op (ok_call cb9 (f9_ok  q_r) trivial) rfl ?_
  refine RG.op (ok_not (ht rfl)) rfl ?_
  refine RG.nil ?_
  refine AT.next ?_
  refine CG.cond (ht rfl) (fun hc => ?_) (fun hc => ?_)
  · have h := ct h hc
    refine CG.seq ?_
    refine CG.region ?_
    refine RG.op (ok_assign hB) rfl ?_
    refine RG.nil ?_
    refine AT.next ?_
    refine CG.ret ?_
    refine AT.then_ret ?_
    cases so h
    exact AT.ret1 rfl rfl
  · have h := cf h hc
    refine CG.skip ?_
    refine AT.next ?_
    refine CG.sjoin1 (Z := fun x => law05_RowOrder_k1 p1 x = some R) (Of := fun x => []) (Gf := fun x => [(0, tD (rSl (rSl rpDValue)) x), (1, tD (rI .i64) p1)]) (fun x h => ?_) (fun K => ?_)
    · skip
      refine CG.seq ?_
      refine CG.seq ?_
      refine CG.region ?_
      refine RG.op (ok_move (ht rfl)) rfl ?_
      obtain ⟨r1, q_r1, h⟩ := bs h
      refine RG.op (ok_call cb10 (f10_ok _ q_r1) ⟨(ht rfl), trivial⟩) rfl ?_
      refine RG.nil ?_
      refine AT.next ?_
      refine CG.cond (ht rfl) (fun hc => ?_) (fun hc => ?_)
      · have h := ct h hc
        refine CG.seq ?_
        refine CG.region ?_
        refine RG.op (ok_assign hB) rfl ?_
        refine RG.nil ?_
        refine AT.next ?_
        refine CG.ret ?_
        refine AT.then_ret ?_
        cases so h
        exact AT.ret1 rfl rfl
      · have h := cf h hc
        refine CG.skip ?_
        refine AT.next ?_
        refine CG.seq ?_
        refine CG.seq ?_
        refine CG.region ?_
        refine RG.op (ok_move (ht rfl)) rfl ?_
        refine RG.op (ok_lenSl Try.underlying22 (ht rfl)) rfl ?_
        refine RG.op (ok_move hI) rfl ?_
        refine RG.nil ?_
        refine AT.next ?_
        refine CG.block ?_
        refine CG.have_len (k := 21) rfl (fun hN => ?_)
        refine CG.loop ?_
        refine LG.sub (LG.list1 (Z := fun ls i  => (x.drop i = ls) ∧ law05_RowOrder_l1 p1 x ls  = some R) (Of := fun _ i  => []) (Gf := fun _ i  => [(0, tD (rSl (rSl rpDValue)) x), (1, tD (rI .i64) p1), (21, tD (rSl (rSl rpDValue)) x), (22, tD (rI .i64) (x.length : Int)), (23, tD (rI .i64) (i : Int))]) (fun i  h => ?_) (fun e tl ih i  h => ?_) x 0  ⟨rfl, h⟩) ⟨rfl, rfl, rfl, rfl, rfl, trivial⟩
        · obtain ⟨hx, h⟩ := h
          refine LG.unfold ?_
          refine CG.seq ?_
          refine CG.region ?_
          refine RG.op (ok_lss (ht rfl) (ht rfl)) rfl ?_
          refine RG.nil ?_
          refine AT.next ?_
          refine CG.seq ?_
          refine CG.condF (ht rfl) (dropF hx) ?_
          refine CG.exit ?_
          refine AT.then_exit (AT.then_exit (AT.in_exit ?_))
          refine AT.next ?_
          refine CG.seq ?_
          refine CG.region ?_
          refine RG.op (ok_assign hB) rfl ?_
          refine RG.nil ?_
          refine AT.next ?_
          refine CG.ret ?_
          cases so h
          exact AT.ret1 rfl rfl
        · obtain ⟨hx, h⟩ := h
          refine LG.unfold ?_
          refine CG.seq ?_
          refine CG.region ?_
          refine RG.op (ok_lss (ht rfl) (ht rfl)) rfl ?_
          refine RG.nil ?_
          refine AT.next ?_
          refine CG.seq ?_
          refine CG.condT (ht rfl) (dropT hx) ?_
          refine CG.skip ?_
          refine AT.next ?_
          refine CG.seq ?_
          refine CG.bjoin0 (Z := law05_RowOrder_k2 (law05_RowOrder_l1 p1 x tl) = some R) (Of := []) (Gf := [(0, tD (rSl (rSl rpDValue)) x), (1, tD (rI .i64) p1), (21, tD (rSl (rSl rpDValue)) x), (22, tD (rI .i64) (x.length : Int)), (23, tD (rI .i64) (i : Int))]) (fun h => ?_) (fun K1 => ?_)
          · skip
            refine AT.next ?_
            refine CG.region ?_
            refine RG.op (ok_incN (dropL hx hN) (ht rfl) hI) rfl ?_
            refine RG.op (ok_move (ht rfl)) rfl ?_
            refine RG.nil ?_
            exact AT.round (LG.sub (ih (i + 1)  ⟨dropS hx, h⟩) ⟨rfl, rfl, rfl, rfl, rfl, trivial⟩)
          · skip
            refine CG.seq ?_
            refine CG.region ?_
            refine RG.op (ok_indexAddr Try.underlying22 ti26 rfl (ht rfl) (ht rfl) (dropI hx)) rfl ?_
            refine RG.op (ok_load ti26 rfl rfl (ht rfl)) rfl ?_
            refine RG.op (ok_assign (ht rfl)) rfl ?_
            refine RG.nil ?_
            refine AT.next ?_
            refine CG.seq ?_
            refine CG.seq ?_
            refine CG.region ?_
            refine RG.op (ok_move (ht rfl)) rfl ?_
            obtain ⟨r2, q_r2, h⟩ := bs h
            refine RG.op (ok_call cb12 (f12_ok _ q_r2) ⟨(ht rfl), trivial⟩) rfl ?_
            refine RG.op (ok_neqI (ht rfl) hI) rfl ?_
            refine RG.nil ?_
            refine AT.next ?_
            refine CG.cond (ht rfl) (fun hc => ?_) (fun hc => ?_)
            · have h := ct h hc
              refine CG.exit ?_
              refine AT.then_exit (AT.in_exit ?_)
              exact AT.sub (K1 h) ⟨rfl, rfl, rfl, rfl, rfl, trivial⟩
            · have h := cf h hc
              refine CG.skip ?_
              refine AT.next ?_
              refine CG.seq ?_
              refine CG.seq ?_
              refine CG.region ?_
              refine RG.op (ok_move (ht rfl)) rfl ?_
              refine RG.op (ok_max2 (ht rfl) hI) rfl ?_
              refine RG.op (ok_move (ht rfl)) rfl ?_
              refine RG.op (ok_lenSl Try.underlying26 (ht rfl)) rfl ?_
              refine RG.op (ok_add (ht rfl) hI) rfl ?_
              obtain ⟨u, q_u, h⟩ := bs h
              refine RG.op (ok_rem (ht rfl) (ht rfl) (nz_some q_u)) rfl ?_
              refine RG.op (ok_assign (ht rfl)) rfl ?_
              refine RG.nil ?_
              refine AT.next ?_
              refine CG.seq ?_
              refine CG.region ?_
              refine RG.op (ok_move (ht rfl)) rfl ?_
              refine RG.op (ok_move (ht rfl)) rfl ?_
              refine RG.op (ok_lenSl Try.underlying26 (ht rfl)) rfl ?_
              refine RG.op (ok_lss (ht rfl) (ht rfl)) rfl ?_
              refine RG.op (ok_move (ht rfl)) rfl ?_
              obtain ⟨t, q_t, h⟩ := bs h
              refine RG.opGt rfl rfl rfl rfl (fun hg => ok_move (ht rfl)) ?_
              refine RG.opGt rfl rfl rfl rfl (fun hg => ok_move (ht rfl)) ?_
              obtain ⟨y, h1t, h0t⟩ := og q_t
              have q_yg := fun hb => (h1t hb).1
              refine RG.opGt rfl rfl rfl rfl (fun hg => ok_sliceHi Try.underlying26 ti33 rfl (htO rfl hg) (htO rfl hg) (q_yg hg)) ?_
              refine RG.opGt rfl rfl rfl rfl (fun hg => ok_move (ht rfl)) ?_
              obtain ⟨r3, h1t⟩ := og2 (fun hb => (h1t hb).2)
              have q_r3g := fun hb => (h1t hb).1
              refine RG.opGt rfl rfl rfl rfl (fun hg => ok_call cb14 (f14_ok _ _ (q_r3g hg)) ⟨(htO rfl hg), (htO rfl hg), trivial⟩) ?_
              refine RG.opGt rfl rfl rfl rfl (fun hg => ok_neqI (htO rfl hg) hI) ?_
              refine RG.op (ok_pickAndM (ht rfl) (fun hb => (htO rfl hb)) (fun hb => (h1t hb).2) h0t) rfl ?_
              refine RG.nil ?_
              refine AT.next ?_
              refine CG.cond (ht rfl) (fun hc => ?_) (fun hc => ?_)
              · have h := ct h hc
                refine CG.seq ?_
                refine CG.region ?_
                refine RG.op (ok_assign hB) rfl ?_
                refine RG.nil ?_
                refine AT.next ?_
                refine CG.ret ?_
                refine AT.then_ret (AT.in_ret (AT.then_ret (AT.then_ret (AT.in_ret (AT.then_ret ?_)))))
                cases so h
                exact AT.ret1 rfl rfl
              · have h := cf h hc
                refine CG.skip ?_
                refine AT.next ?_
                refine CG.seq ?_
                refine CG.region ?_
                refine RG.op (ok_move (ht rfl)) rfl ?_
                refine RG.op (ok_lenSl Try.underlying22 (ht rfl)) rfl ?_
                refine RG.op (ok_move hI) rfl ?_
                refine RG.nil ?_
                refine AT.next ?_
                refine CG.block ?_
                refine CG.have_len (k := 48) rfl (fun hN1 => ?_)
                refine CG.loop ?_
                refine LG.sub (LG.list1 (Z := fun ls1 i1  => (x.drop i1 = ls1) ∧ law05_RowOrder_l2 x (law05_RowOrder_l1 p1 x tl) e ls1  = some R) (Of := fun _ i1  => []) (Gf := fun _ i1  => [(0, tD (rSl (rSl rpDValue)) x), (1, tD (rI .i64) p1), (6, tD (rSl rpDValue) e), (21, tD (rSl (rSl rpDValue)) x), (22, tD (rI .i64) (x.length : Int)), (23, tD (rI .i64) (i : Int)), (48, tD (rSl (rSl rpDValue)) x), (49, tD (rI .i64) (x.length : Int)), (50, tD (rI .i64) (i1 : Int))]) (fun i1  h => ?_) (fun e1 tl1 ih1 i1  h => ?_) x 0  ⟨rfl, h⟩) ⟨rfl, rfl, rfl, rfl, rfl, rfl, rfl, rfl, rfl, trivial⟩
                · obtain ⟨hx1, h⟩ := h
                  refine LG.unfold ?_
                  refine CG.seq ?_
                  refine CG.region ?_
                  refine RG.op (ok_lss (ht rfl) (ht rfl)) rfl ?_
                  refine RG.nil ?_
                  refine AT.next ?_
                  refine CG.seq ?_
                  refine CG.condF (ht rfl) (dropF hx1) ?_
                  refine CG.exit ?_
                  refine AT.then_exit (AT.then_exit (AT.in_exit ?_))
                  refine AT.in_normal ?_
                  exact AT.sub (K1 h) ⟨rfl, rfl, rfl, rfl, rfl, trivial⟩
                · obtain ⟨hx1, h⟩ := h
                  refine LG.unfold ?_
                  refine CG.seq ?_
                  refine CG.region ?_
                  refine RG.op (ok_lss (ht rfl) (ht rfl)) rfl ?_
                  refine RG.nil ?_
                  refine AT.next ?_
                  refine CG.seq ?_
                  refine CG.condT (ht rfl) (dropT hx1) ?_
                  refine CG.skip ?_
                  refine AT.next ?_
                  refine CG.seq ?_
                  refine CG.bjoin0 (Z := law05_RowOrder_k3 (law05_RowOrder_l2 x (law05_RowOrder_l1 p1 x tl) e tl1) = some R) (Of := []) (Gf := [(0, tD (rSl (rSl rpDValue)) x), (1, tD (rI .i64) p1), (6, tD (rSl rpDValue) e), (21, tD (rSl (rSl rpDValue)) x), (22, tD (rI .i64) (x.length : Int)), (23, tD (rI .i64) (i : Int)), (48, tD (rSl (rSl rpDValue)) x), (49, tD (rI .i64) (x.length : Int)), (50, tD (rI .i64) (i1 : Int))]) (fun h => ?_) (fun K2 => ?_)
                  · skip
                    refine AT.next ?_
                    refine CG.region ?_
                    refine RG.op (ok_incN (dropL hx1 hN1) (ht rfl) hI) rfl ?_
                    refine RG.op (ok_move (ht rfl)) rfl ?_
                    refine RG.nil ?_
                    exact AT.round (LG.sub (ih1 (i1 + 1)  ⟨dropS hx1, h⟩) ⟨rfl, rfl, rfl, rfl, rfl, rfl, rfl, rfl, rfl, trivial⟩)
                  · skip
                    refine CG.seq ?_
                    refine CG.region ?_
                    refine RG.op (ok_indexAddr Try.underlying22 ti26 rfl (ht rfl) (ht rfl) (dropI hx1)) rfl ?_
                    refine RG.op (ok_load ti26 rfl rfl (ht rfl)) rfl ?_
                    refine RG.op (ok_assign (ht rfl)) rfl ?_
                    refine RG.nil ?_
                    refine AT.next ?_
                    refine CG.seq ?_
                    refine CG.seq ?_
                    refine CG.region ?_
                    refine RG.op (ok_move (ht rfl)) rfl ?_
                    obtain ⟨r4, q_r4, h⟩ := bs h
                    refine RG.op (ok_call cb12 (f12_ok _ q_r4) ⟨(ht rfl), trivial⟩) rfl ?_
                    refine RG.op (ok_neqI (ht rfl) hI) rfl ?_
                    refine RG.nil ?_
                    refine AT.next ?_
                    refine CG.cond (ht rfl) (fun hc => ?_) (fun hc => ?_)
                    · have h := ct h hc
                      refine CG.exit ?_
                      refine AT.then_exit (AT.in_exit ?_)
                      exact AT.sub (K2 h) ⟨rfl, rfl, rfl, rfl, rfl, rfl, rfl, rfl, rfl, trivial⟩
                    · have h := cf h hc
                      refine CG.skip ?_
                      refine AT.next ?_
                      refine CG.seq ?_
                      refine CG.seq ?_
                      refine CG.region ?_
                      refine RG.op (ok_move (ht rfl)) rfl ?_
                      refine RG.op (ok_move (ht rfl)) rfl ?_
                      obtain ⟨r5, q_r5, h⟩ := bs h
                      refine RG.op (ok_call cb14 (f14_ok _ _ q_r5) ⟨(ht rfl), (ht rfl), trivial⟩) rfl ?_
                      refine RG.op (ok_move (ht rfl)) rfl ?_
                      refine RG.op (ok_move (ht rfl)) rfl ?_
                      obtain ⟨r6, q_r6, h⟩ := bs h
                      refine RG.op (ok_call cb14 (f14_ok _ _ q_r6) ⟨(ht rfl), (ht rfl), trivial⟩) rfl ?_
                      refine RG.op (ok_neg (ht rfl)) rfl ?_
                      refine RG.op (ok_neqI (ht rfl) (ht rfl)) rfl ?_
                      refine RG.op (ok_move (ht rfl)) rfl ?_
                      obtain ⟨t1, q_t1, h⟩ := bs h
                      refine RG.opGf rfl rfl rfl rfl (fun hg => ok_move (ht rfl)) ?_
                      refine RG.opGf rfl rfl rfl rfl (fun hg => ok_move (ht rfl)) ?_
                      obtain ⟨r7, h1t1, h0t1⟩ := og q_t1
                      have q_r7g := fun hb => (h1t1 hb).1
                      refine RG.opGf rfl rfl rfl rfl (fun hg => ok_call cb14 (f14_ok _ _ (q_r7g hg)) ⟨(htO rfl hg), (htO rfl hg), trivial⟩) ?_
                      refine RG.opGf rfl rfl rfl rfl (fun hg => ok_eqlI (htO rfl hg) hI) ?_
                      refine RG.opGf rfl rfl rfl rfl (fun hg => ok_move (ht rfl)) ?_
                      refine RG.opGf rfl rfl rfl rfl (fun hg => ok_buildSlice (r := (rSl rpDValue)) (ys := [e]) (xs := [.tmp 70]) Try.underlying22 ti26 rfl rfl rfl rfl rfl ⟨(htO rfl hg), trivial⟩) ?_
                      refine RG.opGf rfl rfl rfl rfl (fun hg => ok_move (ht rfl)) ?_
                      refine RG.opGf rfl rfl rfl rfl (fun hg => ok_buildSlice (r := (rSl rpDValue)) (ys := [e1]) (xs := [.tmp 72]) Try.underlying22 ti26 rfl rfl rfl rfl rfl ⟨(htO rfl hg), trivial⟩) ?_
                      obtain ⟨r8, h1t1⟩ := og2 (fun hb => (h1t1 hb).2)
                      have q_r8g := fun hb => (h1t1 hb).1
                      refine RG.opGf rfl rfl rfl rfl (fun hg => ok_call cb15 (f15_ok _ _ (q_r8g hg)) ⟨(htO rfl hg), (htO rfl hg), trivial⟩) ?_
                      refine RG.opGf rfl rfl rfl rfl (fun hg => ok_neqB Try.underlying4 (htO rfl hg) (htO rfl hg)) ?_
                      refine RG.op (ok_pickOrM (ht rfl) (fun hb => (htO rfl (noti hb))) (fun hb => (h1t1 hb).2) h0t1) rfl ?_
                      refine RG.nil ?_
                      refine AT.next ?_
                      refine CG.cond (ht rfl) (fun hc => ?_) (fun hc => ?_)
                      · have h := ct h hc
                        refine CG.seq ?_
                        refine CG.region ?_
                        refine RG.op (ok_assign hB) rfl ?_
                        refine RG.nil ?_
                        refine AT.next ?_
                        refine CG.ret ?_
                        refine AT.then_ret (AT.in_ret (AT.then_ret (AT.then_ret (AT.in_ret (AT.in_ret (AT.then_ret (AT.then_ret (AT.in_ret (AT.then_ret ?_)))))))))
                        cases so h
                        exact AT.ret1 rfl rfl
                      · have h := cf h hc
                        refine CG.skip ?_
                        refine AT.next ?_
                        refine CG.seq ?_
                        refine CG.region ?_
                        refine RG.op (ok_move (ht rfl)) rfl ?_
                        refine RG.op (ok_lenSl Try.underlying22 (ht rfl)) rfl ?_
                        refine RG.op (ok_move hI) rfl ?_
                        refine RG.nil ?_
                        refine AT.next ?_
                        refine CG.block ?_
                        refine CG.have_len (k := 77) rfl (fun hN2 => ?_)
                        refine CG.loop ?_
                        refine LG.sub (LG.list1 (Z := fun ls2 i2  => (x.drop i2 = ls2) ∧ law05_RowOrder_l3 e (law05_RowOrder_l2 x (law05_RowOrder_l1 p1 x tl) e tl1) e1 ls2  = some R) (Of := fun _ i2  => []) (Gf := fun _ i2  => [(0, tD (rSl (rSl rpDValue)) x), (1, tD (rI .i64) p1), (6, tD (rSl rpDValue) e), (9, tD (rSl rpDValue) e1), (21, tD (rSl (rSl rpDValue)) x), (22, tD (rI .i64) (x.length : Int)), (23, tD (rI .i64) (i : Int)), (48, tD (rSl (rSl rpDValue)) x), (49, tD (rI .i64) (x.length : Int)), (50, tD (rI .i64) (i1 : Int)), (77, tD (rSl (rSl rpDValue)) x), (78, tD (rI .i64) (x.length : Int)), (79, tD (rI .i64) (i2 : Int))]) (fun i2  h => ?_) (fun e2 tl2 ih2 i2  h => ?_) x 0  ⟨rfl, h⟩) ⟨rfl, rfl, rfl, rfl, rfl, rfl, rfl, rfl, rfl, rfl, rfl, rfl, rfl, trivial⟩
                        · obtain ⟨hx2, h⟩ := h
                          refine LG.unfold ?_
                          refine CG.seq ?_
                          refine CG.region ?_
                          refine RG.op (ok_lss (ht rfl) (ht rfl)) rfl ?_
                          refine RG.nil ?_
                          refine AT.next ?_
                          refine CG.seq ?_
                          refine CG.condF (ht rfl) (dropF hx2) ?_
                          refine CG.exit ?_
                          refine AT.then_exit (AT.then_exit (AT.in_exit ?_))
                          refine AT.in_normal ?_
                          exact AT.sub (K2 h) ⟨rfl, rfl, rfl, rfl, rfl, rfl, rfl, rfl, rfl, trivial⟩
                        · obtain ⟨hx2, h⟩ := h
                          refine LG.unfold ?_
                          refine CG.seq ?_
                          refine CG.region ?_
                          refine RG.op (ok_lss (ht rfl) (ht rfl)) rfl ?_
                          refine RG.nil ?_
                          refine AT.next ?_
                          refine CG.seq ?_
                          refine CG.condT (ht rfl) (dropT hx2) ?_
                          refine CG.skip ?_
                          refine AT.next ?_
                          refine CG.seq ?_
                          refine CG.block ?_
                          refine CG.seq ?_
                          refine CG.region ?_
                          refine RG.op (ok_indexAddr Try.underlying22 ti26 rfl (ht rfl) (ht rfl) (dropI hx2)) rfl ?_
                          refine RG.op (ok_load ti26 rfl rfl (ht rfl)) rfl ?_
                          refine RG.op (ok_assign (ht rfl)) rfl ?_
                          refine RG.nil ?_
                          refine AT.next ?_
                          refine CG.seq ?_
                          refine CG.region ?_
                          refine RG.op (ok_move (ht rfl)) rfl ?_
                          obtain ⟨r9, q_r9, h⟩ := bs h
                          refine RG.op (ok_call cb12 (f12_ok _ q_r9) ⟨(ht rfl), trivial⟩) rfl ?_
                          refine RG.op (ok_eqlI (ht rfl) hI) rfl ?_
                          refine RG.op (ok_move (ht rfl)) rfl ?_
                          obtain ⟨t2, q_t2, h⟩ := bs h
                          refine RG.opGt rfl rfl rfl rfl (fun hg => ok_move (ht rfl)) ?_
                          refine RG.opGt rfl rfl rfl rfl (fun hg => ok_move (ht rfl)) ?_
                          obtain ⟨r10, h1t2, h0t2⟩ := og q_t2
                          have q_r10g := fun hb => (h1t2 hb).1
                          refine RG.opGt rfl rfl rfl rfl (fun hg => ok_call cb14 (f14_ok _ _ (q_r10g hg)) ⟨(htO rfl hg), (htO rfl hg), trivial⟩) ?_
                          refine RG.opGt rfl rfl rfl rfl (fun hg => ok_leq (htO rfl hg) hI) ?_
                          refine RG.op (ok_pickAndM (ht rfl) (fun hb => (htO rfl hb)) (fun hb => (h1t2 hb).2) h0t2) rfl ?_
                          refine RG.op (ok_move (ht rfl)) rfl ?_
                          obtain ⟨t3, q_t3, h⟩ := bs h
                          refine RG.opGt rfl rfl rfl rfl (fun hg => ok_move (ht rfl)) ?_
                          refine RG.opGt rfl rfl rfl rfl (fun hg => ok_move (ht rfl)) ?_
                          obtain ⟨r11, h1t3, h0t3⟩ := og q_t3
                          have q_r11g := fun hb => (h1t3 hb).1
                          refine RG.opGt rfl rfl rfl rfl (fun hg => ok_call cb14 (f14_ok _ _ (q_r11g hg)) ⟨(htO rfl hg), (htO rfl hg), trivial⟩) ?_
                          refine RG.opGt rfl rfl rfl rfl (fun hg => ok_leq (htO rfl hg) hI) ?_
                          refine RG.op (ok_pickAndM (ht rfl) (fun hb => (htO rfl hb)) (fun hb => (h1t3 hb).2) h0t3) rfl ?_
                          refine RG.op (ok_move (ht rfl)) rfl ?_
                          obtain ⟨t4, q_t4, h⟩ := bs h
                          refine RG.opGt rfl rfl rfl rfl (fun hg => ok_move (ht rfl)) ?_
                          refine RG.opGt rfl rfl rfl rfl (fun hg => ok_move (ht rfl)) ?_
                          obtain ⟨r12, h1t4, h0t4⟩ := og q_t4
                          have q_r12g := fun hb => (h1t4 hb).1
                          refine RG.opGt rfl rfl rfl rfl (fun hg => ok_call cb14 (f14_ok _ _ (q_r12g hg)) ⟨(htO rfl hg), (htO rfl hg), trivial⟩) ?_
                          refine RG.opGt rfl rfl rfl rfl (fun hg => ok_gtr (htO rfl hg) hI) ?_
                          refine RG.op (ok_pickAndM (ht rfl) (fun hb => (htO rfl hb)) (fun hb => (h1t4 hb).2) h0t4) rfl ?_
                          refine RG.nil ?_
                          refine AT.next ?_
                          refine CG.cond (ht rfl) (fun hc => ?_) (fun hc => ?_)
                          · have h := ct h hc
                            refine CG.seq ?_
                            refine CG.region ?_
                            refine RG.op (ok_assign hB) rfl ?_
                            refine RG.nil ?_
                            refine AT.next ?_
                            refine CG.ret ?_
                            refine AT.in_ret (AT.then_ret (AT.then_ret (AT.in_ret (AT.in_ret (AT.then_ret (AT.then_ret (AT.in_ret (AT.in_ret (AT.then_ret (AT.then_ret (AT.in_ret (AT.then_ret ?_))))))))))))
                            cases so h
                            exact AT.ret1 rfl rfl
                          · have h := cf h hc
                            refine CG.skip ?_
                            refine AT.in_normal ?_
                            refine AT.next ?_
                            refine CG.region ?_
                            refine RG.op (ok_incN (dropL hx2 hN2) (ht rfl) hI) rfl ?_
                            refine RG.op (ok_move (ht rfl)) rfl ?_
                            refine RG.nil ?_
                            exact AT.round (LG.sub (ih2 (i2 + 1)  ⟨dropS hx2, h⟩) ⟨rfl, rfl, rfl, rfl, rfl, rfl, rfl, rfl, rfl, rfl, rfl, rfl, rfl, trivial⟩)
    · skip
      refine CG.seq ?_
      refine CG.region ?_
      refine RG.op (ok_move (ht rfl)) rfl ?_
      refine RG.op (ok_lenSl Try.underlying22 (ht rfl)) rfl ?_
      refine RG.op (ok_gtr (ht rfl) hI) rfl ?_
      refine RG.nil ?_
      refine AT.next ?_
      refine CG.cond (ht rfl) (fun hc => ?_) (fun hc => ?_)
      · have h := ct h hc
        refine CG.region ?_
        refine RG.op (ok_move (ht rfl)) rfl ?_
        obtain ⟨y1, q_y1, h⟩ := bs h
        refine RG.op (ok_sliceHi Try.underlying22 ti26 rfl (ht rfl) hI q_y1) rfl ?_
        refine RG.op (ok_assign (ht rfl)) rfl ?_
        refine RG.nil ?_
        exact AT.sub (K y1 h) ⟨rfl, rfl, trivial⟩
      · have h := cf h hc
        refine CG.skip ?_
        exact AT.sub (K p h) ⟨rfl, rfl, trivial⟩

set_option maxRecDepth 100000 in
theorem f18_ok (r : (List DValue)) (columns : (List Int)) {R : (List DValue) × Int} (h : row_Take r columns = some R) : Spec Try.prog 18 [tD (rSl rpDValue) r, tD (rSl (rI .i64)) columns] (tT [tD (rSl rpDValue) R.1, tD (rI .i64) R.2]) := by
  refine Spec.of Try.func18 rfl rfl rfl fun w0 S0 => ?_
  refine CG.seq ?_
  refine CG.region ?_
  refine RG.op (ok_assign (show HasTy _ _ _ (tD (rSl rpDValue) ([])) from hNil)) rfl ?_
  refine RG.op (ok_assign hI) rfl ?_
  refine RG.nil ?_
  refine AT.next ?_
  refine CG.seq ?_
  refine CG.seq ?_
  refine CG.region ?_
  refine RG.op (ok_move (ht rfl)) rfl ?_
  refine RG.op (ok_buildSlice (r := (rSl rpDValue)) (ys := [r]) (xs := [.tmp 7]) Try.underlying22 ti26 rfl rfl rfl rfl rfl ⟨(ht rfl), trivial⟩) rfl ?_
  refine RG.op (ok_move (ht rfl)) rfl ?_
  obtain ⟨r1, q_r1, h⟩ := bs h
  refine RG.op (ok_call cb41 (f41_ok _ _ q_r1) ⟨(ht rfl), (ht rfl), trivial⟩) rfl ?_
  refine RG.op (ok_assign (ht rfl)) rfl ?_
  refine RG.nil ?_
  refine AT.next ?_
  refine CG.seq ?_
  refine CG.region ?_
  refine RG.op (ok_move (ht rfl)) rfl ?_
  refine RG.op (ok_neqI (ht rfl) hI) rfl ?_
  refine RG.nil ?_
  refine AT.next ?_
  refine CG.cond (ht rfl) (fun hc => ?_) (fun hc => ?_)
  · have h := ct h hc
    refine CG.seq ?_
    refine CG.region ?_
    refine RG.op (ok_move (ht rfl)) rfl ?_
    refine RG.op (ok_assign (show HasTy _ _ _ (tD (rSl rpDValue) ([])) from hNil)) rfl ?_
    refine RG.op (ok_assign (ht rfl)) rfl ?_
    refine RG.nil ?_
    refine AT.next ?_
    refine CG.ret ?_
    refine AT.then_ret ?_
    cases so h
    exact AT.ret2 rfl rfl rfl
  · have h := cf h hc
    refine CG.skip ?_
    refine AT.next ?_
    refine CG.seq ?_
    refine CG.region ?_
    refine RG.op (ok_move (ht rfl)) rfl ?_
    refine RG.op (ok_move (ht rfl)) rfl ?_
    obtain ⟨r2, q_r2, h⟩ := bs h
    refine RG.callO cb42 (f42_own _ _ q_r2) ⟨(ht rfl), (ht rfl), trivial⟩ rfl (fun l c => ?_)
    refine RG.op (ok_assign (ht rfl)) rfl ?_
    refine RG.op (ok_assign hI) rfl ?_
    refine RG.nil ?_
    refine AT.next ?_
    refine CG.ret ?_
    refine AT.freeze ?_
    refine AT.tipAt 4 rfl ?_
    refine AT.tipAt 16 rfl ?_
    refine AT.dataAt 4 rfl ?_
    refine AT.drop ?_
    cases so h
    exact AT.ret2 rfl rfl rfl

set_option maxRecDepth 100000 in
theorem f67_m (l : Option Nat) (c : Nat) (b : (List Int)) (n : Int) {R : (List Int)} (h : row_number b n = some R) : SpecM Try.prog 67 [tV (oslV l c b.length), tD (rI .u64) n] [tip (rI .u8) 5 l c b] (fun i : Option Nat × Nat => tO (rI .u8) i.1 i.2 R) (fun i => [tip (rI .u8) 5 i.1 i.2 R]) := by
  refine SpecM.of Try.func67 rfl rfl rfl fun w0 S0 => ?_
  refine CG.tipAt 0 rfl ?_
  refine CG.seq ?_
  refine CG.region ?_
  refine RG.fresh false (rI .u8) 5 ?_
  refine RG.op (ok_assign hVn) rfl ?_
  refine RG.nil ?_
  refine AT.next ?_
  refine CG.seq ?_
  refine CG.seq ?_
  refine CG.region ?_
  refine RG.op (ok_assign hI) rfl ?_
  refine RG.nil ?_
  refine AT.next ?_
  refine CG.block ?_
  refine CG.loop ?_
  refine LG.drop ?_
  refine LG.sub (LG.ind4 (Z := fun n1 b1 l1 c1 i => row_number_l1 n n1 b1 i = some R) (Of := fun b1 l1 c1 i => [tip (rI .u8) 5 l1 c1 b1]) (Gf := fun b1 l1 c1 i => [(0, tO (rI .u8) l1 c1 b1), (1, tD (rI .u64) n), (5, tD (rI .i64) i)]) (fun b1 l1 c1 i h => nn h) (fun n1 ih b1 l1 c1 i h => ?_) FUEL b l c (56 : Int) h) ⟨rfl, rfl, rfl, trivial⟩
  refine LG.unfold ?_
  refine CG.seq ?_
  refine CG.seq ?_
  refine CG.region ?_
  refine RG.op (ok_move (ht rfl)) rfl ?_
  refine RG.op (ok_geq (ht rfl) hI) rfl ?_
  refine RG.nil ?_
  refine AT.next ?_
  refine CG.cond (ht rfl) (fun hc => ?_) (fun hc => ?_)
  · have h := ct h hc
    refine CG.skip ?_
    refine AT.next ?_
    refine CG.seq ?_
    refine CG.block ?_
    refine CG.region ?_
    refine RG.op (ok_move (ht rfl)) rfl ?_
    refine RG.op (ok_move (ht rfl)) rfl ?_
    refine RG.op (ok_move (ht rfl)) rfl ?_
    obtain ⟨u, q_u, h⟩ := bs h
    refine RG.op (ok_shr (ht rfl) (ht rfl) (ge0_some q_u)) rfl ?_
    refine RG.op (ok_conv Try.underlying31 Try.underlying5 (ht rfl)) rfl ?_
    refine RG.op (ok_buildSlice (r := (rI .u8)) (ys := [(IntKind.u8.wrap ((n).fdiv (2 ^ (min (Int.toNat i) IntKind.u64.bits))))]) (xs := [.tmp 14]) Try.underlying70 ti5 rfl rfl rfl rfl rfl ⟨(ht rfl), trivial⟩) rfl ?_
    obtain ⟨b2, q_b2, h⟩ := bs h
    refine RG.appendT ti5 rfl rfl rfl rfl Try.underlying70 rfl rfl (ht rfl) (ht rfl) q_b2 (fun l2 c2 => ?_)
    refine RG.op (ok_assign (ht rfl)) rfl ?_
    refine RG.nil ?_
    refine AT.in_normal ?_
    refine AT.next ?_
    refine CG.region ?_
    refine RG.op (ok_move (ht rfl)) rfl ?_
    refine RG.op (ok_sub (ht rfl) hI) rfl ?_
    refine RG.op (ok_assign (ht rfl)) rfl ?_
    refine RG.nil ?_
    exact AT.round (LG.sub (ih b2 l2 c2 (IntKind.i64.wrap (i - (8 : Int))) h) ⟨rfl, rfl, rfl, trivial⟩)
  · have h := cf h hc
    refine CG.exit ?_
    refine AT.then_exit (AT.then_exit (AT.in_exit ?_))
    refine AT.next ?_
    refine CG.seq ?_
    refine CG.region ?_
    refine RG.op (ok_move (ht rfl)) rfl ?_
    refine RG.op (ok_assign (ht rfl)) rfl ?_
    refine RG.nil ?_
    refine AT.next ?_
    refine CG.ret ?_
    cases so h
    exact AT.retM1 rfl (l1, c1) rfl rfl (fun _ _ h => h)

set_option maxRecDepth 100000 in
theorem f83_ok {R : (List Int)} (h : sum_steps = some R) : Spec Try.prog 83 [] (tD (rArr (rI .u32) 256) R) := by
  refine Spec.of Try.func83 rfl rfl rfl fun w0 S0 => ?_
  refine CG.seq ?_
  refine CG.region ?_
  refine RG.alloc (r := (rArr (rI .u32) 256)) (x := (List.replicate 256 (0 : Int))) ti102 (arr_zero (r := (rI .u32)) 256 (fun _ => rfl)) rfl (fun b => ?_)
  refine RG.nil ?_
  refine AT.next ?_
  refine CG.seq ?_
  refine CG.region ?_
  obtain ⟨e, q_e, h⟩ := bs h
  refine RG.op (ok_indexAddrX Try.underlying102 ti40 (.head _) (ht rfl) hI q_e) rfl ?_
  obtain ⟨ar, q_ar, h⟩ := bs h
  refine RG.storeX ti40 rfl q_e (so q_ar) (ht rfl) hI ?_
  refine RG.nil ?_
  refine AT.next ?_
  refine CG.seq ?_
  refine CG.seq ?_
  refine CG.region ?_
  refine RG.op (ok_assign hI) rfl ?_
  refine RG.nil ?_
  refine AT.next ?_
  refine CG.block ?_
  refine CG.loop ?_
  refine LG.sub (LG.ind2 (Z := fun n1 n out => sum_steps_l1 n1 n out = some R) (Of := fun n out => [bx (rArr (rI .u32) 256) 102 b out]) (Gf := fun n out => [(0, tV (bptr b 0)), (1, tD (rI .i64) n)]) (fun n out h => nn h) (fun n1 ih n out h => ?_) FUEL (64 : Int) ar h) ⟨rfl, rfl, trivial⟩
  refine LG.unfold ?_
  refine CG.seq ?_
  refine CG.seq ?_
  refine CG.region ?_
  refine RG.op (ok_move (ht rfl)) rfl ?_
  refine RG.op (ok_gtr (ht rfl) hI) rfl ?_
  refine RG.nil ?_
  refine AT.next ?_
  refine CG.cond (ht rfl) (fun hc => ?_) (fun hc => ?_)
  · have h := ct h hc
    refine CG.skip ?_
    refine AT.next ?_
    refine CG.seq ?_
    refine CG.block ?_
    refine CG.seq ?_
    refine CG.region ?_
    refine RG.op (ok_move (ht rfl)) rfl ?_
    refine RG.op (ok_mul hI (ht rfl)) rfl ?_
    obtain ⟨e1, q_e1, h⟩ := bs h
    refine RG.op (ok_indexAddrX Try.underlying102 ti40 (.head _) (ht rfl) (ht rfl) q_e1) rfl ?_
    refine RG.op (ok_loadX ti40 rfl rfl (.head _) q_e1 (ht rfl)) rfl ?_
    refine RG.op (ok_assign (ht rfl)) rfl ?_
    refine RG.nil ?_
    refine AT.next ?_
    refine CG.seq ?_
    refine CG.region ?_
    refine RG.op (ok_move (ht rfl)) rfl ?_
    refine RG.op (ok_move (ht rfl)) rfl ?_
    refine RG.op (ok_shr (ht rfl) hI (by decide)) rfl ?_
    obtain ⟨e2, q_e2, h⟩ := bs h
    refine RG.op (ok_indexAddrX Try.underlying102 ti40 (.head _) (ht rfl) (ht rfl) q_e2) rfl ?_
    obtain ⟨ar1, q_ar1, h⟩ := bs h
    refine RG.storeX ti40 rfl q_e2 (so q_ar1) (ht rfl) (ht rfl) ?_
    refine RG.nil ?_
    refine AT.next ?_
    refine CG.seq ?_
    refine CG.region ?_
    refine RG.op (ok_move (ht rfl)) rfl ?_
    refine RG.op (ok_and (ht rfl) hI) rfl ?_
    refine RG.op (ok_eqlI (ht rfl) hI) rfl ?_
    refine RG.nil ?_
    refine AT.next ?_
    refine CG.cond (ht rfl) (fun hc => ?_) (fun hc => ?_)
    · have h := ct h hc
      refine CG.region ?_
      refine RG.op (ok_move (ht rfl)) rfl ?_
      obtain ⟨e3, q_e3, h⟩ := bs h
      refine RG.op (ok_indexAddrX Try.underlying102 ti40 (.head _) (ht rfl) (ht rfl) q_e3) rfl ?_
      refine RG.op (ok_loadX ti40 rfl rfl (.head _) q_e3 (ht rfl)) rfl ?_
      refine RG.op (ok_xor (ht rfl) hI) rfl ?_
      refine RG.op (ok_indexAddrX Try.underlying102 ti40 (.head _) (ht rfl) (ht rfl) q_e3) rfl ?_
      obtain ⟨ar2, q_ar2, h⟩ := bs h
      refine RG.storeX ti40 rfl q_e3 (so q_ar2) (ht rfl) (ht rfl) ?_
      refine RG.nil ?_
      refine AT.in_normal ?_
      refine AT.next ?_
      refine CG.region ?_
      refine RG.op (ok_move (ht rfl)) rfl ?_
      refine RG.op (ok_quo (ht rfl) hI (by decide)) rfl ?_
      refine RG.op (ok_assign (ht rfl)) rfl ?_
      refine RG.nil ?_
      exact AT.round (LG.sub (ih (IntKind.i64.wrap ((n).tdiv (2 : Int))) ar2 h) ⟨rfl, rfl, trivial⟩)
    · have h := cf h hc
      refine CG.skip ?_
      refine AT.in_normal ?_
      refine AT.next ?_
      refine CG.region ?_
      refine RG.op (ok_move (ht rfl)) rfl ?_
      refine RG.op (ok_quo (ht rfl) hI (by decide)) rfl ?_
      refine RG.op (ok_assign (ht rfl)) rfl ?_
      refine RG.nil ?_
      exact AT.round (LG.sub (ih (IntKind.i64.wrap ((n).tdiv (2 : Int))) ar1 h) ⟨rfl, rfl, trivial⟩)
  · have h := cf h hc
    refine CG.exit ?_
    refine AT.then_exit (AT.then_exit (AT.in_exit ?_))
    refine AT.next ?_
    refine CG.seq ?_
    refine CG.seq ?_
    refine CG.region ?_
    refine RG.op (ok_assign hI) rfl ?_
    refine RG.nil ?_
    refine AT.next ?_
    refine CG.block ?_
    refine CG.loop ?_
    refine LG.sub (LG.ind2 (Z := fun n3 n2 out1 => sum_steps_l2 n3 n2 out1 = some R) (Of := fun n2 out1 => [bx (rArr (rI .u32) 256) 102 b out1]) (Gf := fun n2 out1 => [(0, tV (bptr b 0)), (3, tD (rI .i64) n2)]) (fun n2 out1 h => nn h) (fun n3 ih1 n2 out1 h => ?_) FUEL (2 : Int) out h) ⟨rfl, rfl, trivial⟩
    refine LG.unfold ?_
    refine CG.seq ?_
    refine CG.seq ?_
    refine CG.region ?_
    refine RG.op (ok_move (ht rfl)) rfl ?_
    refine RG.op (ok_lss (ht rfl) hI) rfl ?_
    refine RG.nil ?_
    refine AT.next ?_
    refine CG.cond (ht rfl) (fun hc => ?_) (fun hc => ?_)
    · have h := ct h hc
      refine CG.skip ?_
      refine AT.next ?_
      refine CG.seq ?_
      refine CG.block ?_
      refine CG.seq ?_
      refine CG.region ?_
      refine RG.op (ok_move (ht rfl)) rfl ?_
      refine RG.op (ok_move hI) rfl ?_
      refine RG.nil ?_
      refine AT.next ?_
      refine CG.block ?_
      refine CG.loop ?_
      refine LG.sub (LG.ind2 (Z := fun n4 x out2 => sum_steps_l3 (sum_steps_l2 n3) n2 n4 x out2 = some R) (Of := fun x out2 => [bx (rArr (rI .u32) 256) 102 b out2]) (Gf := fun x out2 => [(0, tV (bptr b 0)), (3, tD (rI .i64) n2), (30, tD (rI .i64) n2), (31, tD (rI .i64) x)]) (fun x out2 h => nn h) (fun n4 ih2 x out2 h => ?_) FUEL (0 : Int) out1 h) ⟨rfl, rfl, rfl, rfl, trivial⟩
      refine LG.unfold ?_
      refine CG.seq ?_
      refine CG.region ?_
      refine RG.op (ok_lss (ht rfl) (ht rfl)) rfl ?_
      refine RG.nil ?_
      refine AT.next ?_
      refine CG.seq ?_
      refine CG.cond (ht rfl) (fun hc => ?_) (fun hc => ?_)
      · have h := ct h hc
        refine CG.skip ?_
        refine AT.next ?_
        refine CG.seq ?_
        refine CG.block ?_
        refine CG.seq ?_
        refine CG.region ?_
        refine RG.op (ok_move (ht rfl)) rfl ?_
        refine RG.op (ok_assign (ht rfl)) rfl ?_
        refine RG.nil ?_
        refine AT.next ?_
        obtain ⟨e4, q_e4, h⟩ := bs h
        obtain ⟨e5, q_e5, h⟩ := bs h
        obtain ⟨e6, q_e6, h⟩ := bs h
        refine CG.drawM 11 (ts := [tD (rI .i64) n2, tD (rI .i64) x, tD (rI .i64) (IntKind.i64.wrap (n2 + x)), tD (rI .i64) n2, tV (bptr b (n2.toNat * 1)), tD (rI .u32) e4, tD (rI .i64) x, tV (bptr b (x.toNat * 1)), tD (rI .u32) e5, tD (rI .u32) (bitsOp .xor .u32 e4 e5), tV (bptr b ((IntKind.i64.wrap (n2 + x)).toNat * 1))]) mixed rfl rfl rfl
          ⟨⟨[⟨3, _, none⟩], _, rfl, ⟨rfl, trivial⟩, rfl, rfl, OpG.plain rfl (ok_move (ht rfl))⟩,
          ⟨⟨[⟨4, _, none⟩], _, rfl, ⟨rfl, trivial⟩, rfl, rfl, OpG.plain rfl (ok_move (ht rfl))⟩,
          ⟨⟨[⟨34, _, some 0⟩, ⟨35, _, some 1⟩], _, rfl, ⟨rfl, rfl, trivial⟩, rfl, rfl, OpG.plain rfl (ok_add (ht rfl) (ht rfl))⟩,
          ⟨⟨[⟨3, _, none⟩], _, rfl, ⟨rfl, trivial⟩, rfl, rfl, OpG.plain rfl (ok_move (ht rfl))⟩,
          ⟨⟨[⟨0, _, none⟩, ⟨37, _, some 3⟩], _, rfl, ⟨rfl, rfl, trivial⟩, rfl, rfl, OpG.plain rfl (ok_indexAddrX Try.underlying102 ti40 (.head _) (ht rfl) (ht rfl) q_e4)⟩,
          ⟨⟨[⟨38, _, some 4⟩], _, rfl, ⟨rfl, trivial⟩, rfl, rfl, OpG.plain rfl (ok_loadX ti40 rfl rfl (.head _) q_e4 (ht rfl))⟩,
          ⟨⟨[⟨4, _, none⟩], _, rfl, ⟨rfl, trivial⟩, rfl, rfl, OpG.plain rfl (ok_move (ht rfl))⟩,
          ⟨⟨[⟨0, _, none⟩, ⟨40, _, some 6⟩], _, rfl, ⟨rfl, rfl, trivial⟩, rfl, rfl, OpG.plain rfl (ok_indexAddrX Try.underlying102 ti40 (.head _) (ht rfl) (ht rfl) q_e5)⟩,
          ⟨⟨[⟨41, _, some 7⟩], _, rfl, ⟨rfl, trivial⟩, rfl, rfl, OpG.plain rfl (ok_loadX ti40 rfl rfl (.head _) q_e5 (ht rfl))⟩,
          ⟨⟨[⟨39, _, some 5⟩, ⟨42, _, some 8⟩], _, rfl, ⟨rfl, rfl, trivial⟩, rfl, rfl, OpG.plain rfl (ok_xor (ht rfl) (ht rfl))⟩,
          ⟨⟨[⟨0, _, none⟩, ⟨36, _, some 2⟩], _, rfl, ⟨rfl, rfl, trivial⟩, rfl, rfl, OpG.plain rfl (ok_indexAddrX Try.underlying102 ti40 (.head _) (ht rfl) (ht rfl) q_e6)⟩,
          trivial⟩⟩⟩⟩⟩⟩⟩⟩⟩⟩⟩ ?_
        obtain ⟨ar3, q_ar3, h⟩ := bs h
        refine RG.storeX ti40 rfl q_e6 (so q_ar3) (ht rfl) (ht rfl) ?_
        refine RG.nil ?_
        refine AT.in_normal ?_
        refine AT.next ?_
        refine CG.region ?_
        refine RG.op (ok_add (ht rfl) hI) rfl ?_
        refine RG.op (ok_move (ht rfl)) rfl ?_
        refine RG.nil ?_
        exact AT.round (LG.sub (ih2 (IntKind.i64.wrap (x + (1 : Int))) ar3 h) ⟨rfl, rfl, rfl, rfl, trivial⟩)
      · have h := cf h hc
        refine CG.exit ?_
        refine AT.then_exit (AT.then_exit (AT.in_exit ?_))
        refine AT.in_normal ?_
        refine AT.next ?_
        refine CG.region ?_
        refine RG.op (ok_move (ht rfl)) rfl ?_
        refine RG.op (ok_mul (ht rfl) hI) rfl ?_
        refine RG.op (ok_assign (ht rfl)) rfl ?_
        refine RG.nil ?_
        exact AT.round (LG.sub (ih1 (IntKind.i64.wrap (n2 * (2 : Int))) out2 h) ⟨rfl, rfl, trivial⟩)
    · have h := cf h hc
      refine CG.exit ?_
      refine AT.then_exit (AT.then_exit (AT.in_exit ?_))
      refine AT.next ?_
      refine CG.seq ?_
      refine CG.region ?_
      refine RG.op (ok_loadB ti102 rfl rfl fld_whole (.head _) (ht rfl)) rfl ?_
      refine RG.storeB ti102 rfl sfld_whole rfl (ht rfl) (ht rfl) ?_
      refine RG.nil ?_
      refine AT.next ?_
      refine CG.ret ?_
      refine AT.settleB 0 rfl ?_
      cases so h
      exact AT.ret1c rfl ti102 rfl rfl rfl

set_option maxRecDepth 100000 in
theorem f84_c (b : Nat) (register : Int) (table : (List Int)) (c : Int) {R : Int} (h : sum_Sum32_1 register table c = some R) : SpecM Try.prog 84 [tD (rI .u8) c, tV (bptr b 0), tPtr (rArr (rI .u32) 256) table] [bx (rI .u32) 40 b register] (fun i : OI => tT []) (fun i => [bx (rI .u32) 40 b R]) := by
  refine SpecM.of Try.func84 rfl rfl rfl fun w0 S0 => ?_
  obtain ⟨e, q_e, h⟩ := bs h
  refine CG.drawM 9 (ts := [tD (rI .u32) register, tD (rI .u32) ((register).fdiv (2 ^ (min (Int.toNat (8 : Int)) IntKind.u32.bits))), tD (rI .u32) register, tD (rI .u8) (IntKind.u8.wrap register), tD (rI .u8) c, tD (rI .u8) (bitsOp .xor .u8 (IntKind.u8.wrap register) c), tPtr (rI .u32) e, tD (rI .u32) e, tD (rI .u32) (bitsOp .xor .u32 ((register).fdiv (2 ^ (min (Int.toNat (8 : Int)) IntKind.u32.bits))) e)]) mixed rfl rfl rfl
    ⟨⟨[⟨1, _, none⟩], _, rfl, ⟨rfl, trivial⟩, rfl, rfl, OpG.plain rfl (ok_loadB ti40 rfl rfl fld_whole (.head _) (ht rfl))⟩,
    ⟨⟨[⟨4, _, some 0⟩], _, rfl, ⟨rfl, trivial⟩, rfl, rfl, OpG.plain rfl (ok_shr (ht rfl) hI (by decide))⟩,
    ⟨⟨[⟨1, _, none⟩], _, rfl, ⟨rfl, trivial⟩, rfl, rfl, OpG.plain rfl (ok_loadB ti40 rfl rfl fld_whole (.head _) (ht rfl))⟩,
    ⟨⟨[⟨6, _, some 2⟩], _, rfl, ⟨rfl, trivial⟩, rfl, rfl, OpG.plain rfl (ok_conv Try.underlying40 Try.underlying5 (ht rfl))⟩,
    ⟨⟨[⟨0, _, none⟩], _, rfl, ⟨rfl, trivial⟩, rfl, rfl, OpG.plain rfl (ok_move (ht rfl))⟩,
    ⟨⟨[⟨7, _, some 3⟩, ⟨8, _, some 4⟩], _, rfl, ⟨rfl, rfl, trivial⟩, rfl, rfl, OpG.plain rfl (ok_xor (ht rfl) (ht rfl))⟩,
    ⟨⟨[⟨2, _, none⟩, ⟨9, _, some 5⟩], _, rfl, ⟨rfl, rfl, trivial⟩, rfl, rfl, OpG.plain rfl (ok_indexAddrP Try.underlying102 ti40 rfl (ht rfl) (ht rfl) q_e)⟩,
    ⟨⟨[⟨10, _, some 6⟩], _, rfl, ⟨rfl, trivial⟩, rfl, rfl, OpG.plain rfl (ok_load ti40 rfl rfl (ht rfl))⟩,
    ⟨⟨[⟨5, _, some 1⟩, ⟨11, _, some 7⟩], _, rfl, ⟨rfl, rfl, trivial⟩, rfl, rfl, OpG.plain rfl (ok_xor (ht rfl) (ht rfl))⟩,
    trivial⟩⟩⟩⟩⟩⟩⟩⟩⟩ ?_
  refine RG.storeB ti40 rfl sfld_whole rfl (ht rfl) (ht rfl) ?_
  refine RG.nil ?_
  cases so h
  exact AT.normM0 rfl (none, 0) rfl rfl

set_option maxRecDepth 100000 in
theorem f68_ok (b : (List Int)) {R : Int} (h : sum_Sum32 b = some R) : Spec Try.prog 68 [tD (rSl (rI .u8)) b] (tD (rI .u32) R) := by
  refine Spec.of Try.func68 rfl rfl rfl fun w0 S0 => ?_
  refine CG.seq ?_
  refine CG.region ?_
  refine RG.op (ok_assign hI) rfl ?_
  refine RG.nil ?_
  refine AT.next ?_
  refine CG.seq ?_
  refine CG.region ?_
  obtain ⟨r, q_r, h⟩ := bs h
  refine RG.op (ok_call cb83 (f83_ok  q_r) trivial) rfl ?_
  refine RG.alloc (r := (rArr (rI .u32) 256)) (x := (List.replicate 256 (0 : Int))) ti102 (arr_zero (r := (rI .u32)) 256 (fun _ => rfl)) rfl (fun b1 => ?_)
  refine RG.storeB ti102 rfl sfld_whole rfl (ht rfl) (ht rfl) ?_
  refine RG.settleB 3 rfl ?_
  refine RG.nil ?_
  refine AT.next ?_
  refine CG.seq ?_
  refine CG.region ?_
  refine RG.alloc (r := (rI .u32)) (x := (0 : Int)) ti40 (fun _ => rfl) rfl (fun b2 => ?_)
  refine RG.storeB ti40 rfl sfld_whole rfl (ht rfl) hI ?_
  refine RG.nil ?_
  refine AT.next ?_
  refine CG.seq ?_
  refine CG.region ?_
  refine RG.op (ok_makeC (cts := [tV (bptr b2 0), tPtr (rArr (rI .u32) 256) r]) (caps := [.tmp 4, .tmp 3]) ⟨(ht rfl), (ht rfl), trivial⟩) rfl ?_
  refine RG.op (ok_assign (ht rfl)) rfl ?_
  refine RG.nil ?_
  refine AT.next ?_
  refine CG.seq ?_
  refine CG.seq ?_
  refine CG.region ?_
  refine RG.op (ok_move (ht rfl)) rfl ?_
  refine RG.op (ok_lenSl Try.underlying70 (ht rfl)) rfl ?_
  refine RG.op (ok_move hI) rfl ?_
  refine RG.nil ?_
  refine AT.next ?_
  refine CG.block ?_
  refine CG.have_len (k := 10) rfl (fun hN => ?_)
  refine CG.loop ?_
  refine LG.sub (LG.list2 (Z := fun ls i register => (b.drop i = ls) ∧ sum_Sum32_l1 r ls register = some R) (Of := fun _ i register => [bx (rI .u32) 40 b2 register]) (Gf := fun _ i register => [(4, tV (bptr b2 0)), (5, tC 84 [tV (bptr b2 0), tPtr (rArr (rI .u32) 256) r]), (10, tD (rSl (rI .u8)) b), (11, tD (rI .i64) (b.length : Int)), (12, tD (rI .i64) (i : Int))]) (fun i register h => ?_) (fun e tl ih i register h => ?_) b 0 (4294967295 : Int) ⟨rfl, h⟩) ⟨rfl, rfl, rfl, rfl, rfl, trivial⟩
  · obtain ⟨hx, h⟩ := h
    refine LG.unfold ?_
    refine CG.seq ?_
    refine CG.region ?_
    refine RG.op (ok_lss (ht rfl) (ht rfl)) rfl ?_
    refine RG.nil ?_
    refine AT.next ?_
    refine CG.seq ?_
    refine CG.condF (ht rfl) (dropF hx) ?_
    refine CG.exit ?_
    refine AT.then_exit (AT.then_exit (AT.in_exit ?_))
    refine AT.next ?_
    refine CG.seq ?_
    refine CG.region ?_
    refine RG.op (ok_loadB ti40 rfl rfl fld_whole (.head _) (ht rfl)) rfl ?_
    refine RG.op (ok_cpl (ht rfl)) rfl ?_
    refine RG.op (ok_assign (ht rfl)) rfl ?_
    refine RG.nil ?_
    refine AT.next ?_
    refine CG.ret ?_
    refine AT.drop ?_
    cases so h
    exact AT.ret1 rfl rfl
  · obtain ⟨hx, h⟩ := h
    refine LG.unfold ?_
    refine CG.seq ?_
    refine CG.region ?_
    refine RG.op (ok_lss (ht rfl) (ht rfl)) rfl ?_
    refine RG.nil ?_
    refine AT.next ?_
    refine CG.seq ?_
    refine CG.condT (ht rfl) (dropT hx) ?_
    refine CG.skip ?_
    refine AT.next ?_
    refine CG.seq ?_
    refine CG.block ?_
    refine CG.seq ?_
    refine CG.region ?_
    refine RG.op (ok_indexAddr Try.underlying70 ti5 rfl (ht rfl) (ht rfl) (dropI hx)) rfl ?_
    refine RG.op (ok_load ti5 rfl rfl (ht rfl)) rfl ?_
    refine RG.op (ok_assign (ht rfl)) rfl ?_
    refine RG.nil ?_
    refine AT.next ?_
    refine CG.region ?_
    refine RG.op (ok_move (ht rfl)) rfl ?_
    refine RG.op (ok_move (ht rfl)) rfl ?_
    obtain ⟨r1, q_r1, h⟩ := bs h
    refine RG.eff (eff_callC (xs := [.tmp 17]) (ts := [tD (rI .u8) e]) (cts := [tV (bptr b2 0), tPtr (rArr (rI .u32) 256) r]) (post := fun i => [bx (rI .u32) 40 b2 r1]) [bx (rI .u32) 40 b2 register] [] rfl cb84 (f84_c b2 _ _ _ q_r1) (ht rfl) ⟨(ht rfl), trivial⟩ (fun _ => rfl)) rfl (fun l c => ?_)
    refine (show RG _ _ _ _ [bx (rI .u32) 40 b2 r1] _ from ?_)
    refine RG.nil ?_
    refine AT.in_normal ?_
    refine AT.next ?_
    refine CG.region ?_
    refine RG.op (ok_incN (dropL hx hN) (ht rfl) hI) rfl ?_
    refine RG.op (ok_move (ht rfl)) rfl ?_
    refine RG.nil ?_
    exact AT.round (LG.sub (ih (i + 1) r1 ⟨dropS hx, h⟩) ⟨rfl, rfl, rfl, rfl, rfl, trivial⟩)

set_option maxRecDepth 100000 in
theorem f43_ok (r : (List DValue)) {R : Int} (h : row_hash r = some R) : Spec Try.prog 43 [tD (rSl rpDValue) r] (tD (rI .u32) R) := by
  refine Spec.of Try.func43 rfl rfl rfl fun w0 S0 => ?_
  refine CG.seq ?_
  refine CG.region ?_
  refine RG.op (ok_assign hI) rfl ?_
  refine RG.nil ?_
  refine AT.next ?_
  refine CG.seq ?_
  refine CG.region ?_
  refine RG.fresh false (rI .u8) 5 ?_
  refine RG.op (ok_assign hVn) rfl ?_
  refine RG.nil ?_
  refine AT.next ?_
  refine CG.seq ?_
  refine CG.seq ?_
  refine CG.region ?_
  refine RG.op (ok_move (ht rfl)) rfl ?_
  refine RG.op (ok_lenSl Try.underlying26 (ht rfl)) rfl ?_
  refine RG.op (ok_move hI) rfl ?_
  refine RG.nil ?_
  refine AT.next ?_
  refine CG.block ?_
  refine CG.have_len (k := 6) rfl (fun hN => ?_)
  refine CG.loop ?_
  refine LG.freeze ?_
  refine LG.tipAt 3 rfl ?_
  refine LG.sub (LG.list4 (Z := fun ls i b l c => (r.drop i = ls) ∧ row_hash_l1 ls b = some R) (Of := fun _ i b l c => [tip (rI .u8) 5 l c b]) (Gf := fun _ i b l c => [(3, tO (rI .u8) l c b), (6, tD (rSl rpDValue) r), (7, tD (rI .i64) (r.length : Int)), (8, tD (rI .i64) (i : Int))]) (fun i b l c h => ?_) (fun e tl ih i b l c h => ?_) r 0 ([] : List Int) none 0 ⟨rfl, h⟩) ⟨rfl, rfl, rfl, rfl, trivial⟩
  · obtain ⟨hx, h⟩ := h
    refine LG.unfold ?_
    refine CG.seq ?_
    refine CG.region ?_
    refine RG.op (ok_lss (ht rfl) (ht rfl)) rfl ?_
    refine RG.nil ?_
    refine AT.next ?_
    refine CG.seq ?_
    refine CG.condF (ht rfl) (dropF hx) ?_
    refine CG.exit ?_
    refine AT.then_exit (AT.then_exit (AT.in_exit ?_))
    refine AT.next ?_
    refine CG.seq ?_
    refine CG.region ?_
    refine RG.op (ok_move (ht rfl)) rfl ?_
    obtain ⟨r1, q_r1, h⟩ := bs h
    refine RG.op (ok_call cb68 (f68_ok _ q_r1) ⟨(tO_d (ht rfl)), trivial⟩) rfl ?_
    refine RG.op (ok_assign (ht rfl)) rfl ?_
    refine RG.nil ?_
    refine AT.next ?_
    refine CG.ret ?_
    refine AT.drop ?_
    cases so h
    exact AT.ret1 rfl rfl
  · obtain ⟨hx, h⟩ := h
    refine LG.unfold ?_
    refine CG.seq ?_
    refine CG.region ?_
    refine RG.op (ok_lss (ht rfl) (ht rfl)) rfl ?_
    refine RG.nil ?_
    refine AT.next ?_
    refine CG.seq ?_
    refine CG.condT (ht rfl) (dropT hx) ?_
    refine CG.skip ?_
    refine AT.next ?_
    refine CG.seq ?_
    refine CG.block ?_
    refine CG.seq ?_
    refine CG.region ?_
    refine RG.op (ok_indexAddr Try.underlying26 ti33 rfl (ht rfl) (ht rfl) (dropI hx)) rfl ?_
    refine RG.op (ok_load ti33 rfl rfl (ht rfl)) rfl ?_
    refine RG.alloc (r := rpDValue) (x := (⟨(0 : Int), (0 : Int), (0 : Int), []⟩ : DValue)) ti33 (fun _ => zrDValue _) rfl (fun b1 => ?_)
    refine RG.storeB ti33 rfl sfld_whole rfl (ht rfl) (ht rfl) ?_
    refine RG.settleB 5 rfl ?_
    refine RG.nil ?_
    refine AT.next ?_
    refine CG.seq ?_
    refine CG.region ?_
    refine RG.op (ok_move (ht rfl)) rfl ?_
    refine RG.op (ok_fieldAddr fd33_0 rfl flDValue_0 rfl (ht rfl)) rfl ?_
    refine RG.op (ok_load ti3 rfl rfl (ht rfl)) rfl ?_
    refine RG.op (ok_conv Try.underlying3 Try.underlying5 (ht rfl)) rfl ?_
    refine RG.op (ok_buildSlice (r := (rI .u8)) (ys := [(IntKind.u8.wrap e.Kind)]) (xs := [.tmp 15]) Try.underlying70 ti5 rfl rfl rfl rfl rfl ⟨(ht rfl), trivial⟩) rfl ?_
    obtain ⟨b2, q_b2, h⟩ := bs h
    refine RG.appendT ti5 rfl rfl rfl rfl Try.underlying70 rfl rfl (ht rfl) (ht rfl) q_b2 (fun l1 c1 => ?_)
    refine RG.op (ok_assign (ht rfl)) rfl ?_
    refine RG.nil ?_
    refine AT.next ?_
    refine CG.seq ?_
    obtain ⟨r2, q_r2, h⟩ := bs h
    refine CG.drawL 7 [fun _ => tO (rI .u8) l1 c1 b2, fun _ => tPtr (rI .i64) e.N, fun _ => tD (rI .i64) e.N, fun _ => tD (rI .u64) (IntKind.u64.wrap e.N), fun i => tO (rI .u8) i.1 i.2 r2, fun _ => tPtr (rI .u64) e.U, fun _ => tD (rI .u64) e.U] [false, false, false, false, true, false, false] [(4, fun i => [tip (rI .u8) 5 i.1 i.2 r2])] mixed rfl rfl rfl rfl rfl rfl
      ⟨⟨[⟨3, _, none⟩], _, rfl, ⟨(fun _ => rfl), trivial⟩, rfl, rfl, _, rfl, fun O σ => OpG.plain rfl (ok_move (ht rfl))⟩,
      ⟨⟨[⟨5, _, none⟩], _, rfl, ⟨(fun _ => rfl), trivial⟩, rfl, rfl, _, rfl, fun O σ => OpG.plain rfl (ok_fieldAddr fd33_1 rfl flDValue_1 rfl (ht rfl))⟩,
      ⟨⟨[⟨19, _, some 1⟩], _, rfl, ⟨(fun _ => rfl), trivial⟩, rfl, rfl, _, rfl, fun O σ => OpG.plain rfl (ok_load ti2 rfl rfl (ht rfl))⟩,
      ⟨⟨[⟨20, _, some 2⟩], _, rfl, ⟨(fun _ => rfl), trivial⟩, rfl, rfl, _, rfl, fun O σ => OpG.plain rfl (ok_conv Try.underlying2 Try.underlying31 (ht rfl))⟩,
      ⟨⟨[⟨18, _, some 0⟩, ⟨21, _, some 3⟩], _, rfl, ⟨(fun _ => rfl), (fun _ => rfl), trivial⟩, rfl, rfl, fun σ => EffG.plain rfl (eff_callM (xs := [.tmp 18, .tmp 21]) (ts := [tV (oslV l1 c1 b2.length), tD (rI .u64) (IntKind.u64.wrap e.N)]) [_] _ rfl cb67 (f67_m _ _ _ _ q_r2) ⟨(tO_v (ht rfl)), (ht rfl), trivial⟩ (fun _ => rfl))⟩,
      ⟨⟨[⟨5, _, none⟩], _, rfl, ⟨(fun _ => rfl), trivial⟩, rfl, rfl, _, rfl, fun O σ => OpG.plain rfl (ok_fieldAddr fd33_2 rfl flDValue_2 rfl (ht rfl))⟩,
      ⟨⟨[⟨23, _, some 5⟩], _, rfl, ⟨(fun _ => rfl), trivial⟩, rfl, rfl, _, rfl, fun O σ => OpG.plain rfl (ok_load ti31 rfl rfl (ht rfl))⟩,
      trivial⟩⟩⟩⟩⟩⟩⟩ (fun σ => ?_)
    refine (show RG _ _ _ _ [tip (rI .u8) 5 (σ 4).1 (σ 4).2 r2] _ from ?_)
    obtain ⟨r3, q_r3, h⟩ := bs h
    refine RG.callM [tip (rI .u8) 5 (σ 4).1 (σ 4).2 r2] _ rfl cb67 (f67_m ((σ 4).1) ((σ 4).2) _ _ q_r3) ⟨(tO_v (ht rfl)), (ht rfl), trivial⟩ rfl (fun i1 => ?_)
    obtain ⟨l2, c2⟩ := i1
    refine (show RG _ _ _ _ [tip (rI .u8) 5 l2 c2 r3] ((25, tO (rI .u8) l2 c2 r3) :: _) from ?_)
    refine RG.op (ok_assign (ht rfl)) rfl ?_
    refine RG.nil ?_
    refine AT.next ?_
    obtain ⟨l3, q_l3, h⟩ := bs h
    refine CG.drawL 9 [fun _ => tO (rI .u8) l2 c2 r3, fun _ => tPtr rS e.S, fun _ => tD rS e.S, fun _ => tD (rI .i64) (e.S.length : Int), fun _ => tD (rI .u8) (IntKind.u8.wrap (e.S.length : Int)), fun _ => tD (rSl (rI .u8)) ([(IntKind.u8.wrap (e.S.length : Int))]), fun i => tO (rI .u8) i.1 i.2 l3, fun _ => tPtr rS e.S, fun _ => tD rS e.S] [false, false, false, false, false, false, true, false, false] [(6, fun i => [tip (rI .u8) 5 i.1 i.2 l3])] mixed rfl rfl rfl rfl rfl rfl
      ⟨⟨[⟨3, _, none⟩], _, rfl, ⟨(fun _ => rfl), trivial⟩, rfl, rfl, _, rfl, fun O σ => OpG.plain rfl (ok_move (ht rfl))⟩,
      ⟨⟨[⟨5, _, none⟩], _, rfl, ⟨(fun _ => rfl), trivial⟩, rfl, rfl, _, rfl, fun O σ => OpG.plain rfl (ok_fieldAddr fd33_3 rfl flDValue_3 rfl (ht rfl))⟩,
      ⟨⟨[⟨27, _, some 1⟩], _, rfl, ⟨(fun _ => rfl), trivial⟩, rfl, rfl, _, rfl, fun O σ => OpG.plain rfl (ok_load ti9 rfl rfl (ht rfl))⟩,
      ⟨⟨[⟨28, _, some 2⟩], _, rfl, ⟨(fun _ => rfl), trivial⟩, rfl, rfl, _, rfl, fun O σ => OpG.plain rfl (ok_lenS Try.underlying9 (ht rfl))⟩,
      ⟨⟨[⟨29, _, some 3⟩], _, rfl, ⟨(fun _ => rfl), trivial⟩, rfl, rfl, _, rfl, fun O σ => OpG.plain rfl (ok_conv Try.underlying3 Try.underlying5 (ht rfl))⟩,
      ⟨⟨[⟨30, _, some 4⟩], _, rfl, ⟨(fun _ => rfl), trivial⟩, rfl, rfl, _, rfl, fun O σ => OpG.plain rfl (ok_buildSlice (r := (rI .u8)) (ys := [(IntKind.u8.wrap (e.S.length : Int))]) (xs := [.tmp 30]) Try.underlying70 ti5 rfl rfl rfl rfl rfl ⟨(ht rfl), trivial⟩)⟩,
      ⟨⟨[⟨26, _, some 0⟩, ⟨31, _, some 5⟩], _, rfl, ⟨(fun _ => rfl), (fun _ => rfl), trivial⟩, rfl, rfl, fun σ => EffG.plain rfl (eff_appendT ti5 rfl rfl rfl rfl Try.underlying70 rfl (ht rfl) (ht rfl) q_l3)⟩,
      ⟨⟨[⟨5, _, none⟩], _, rfl, ⟨(fun _ => rfl), trivial⟩, rfl, rfl, _, rfl, fun O σ => OpG.plain rfl (ok_fieldAddr fd33_3 rfl flDValue_3 rfl (ht rfl))⟩,
      ⟨⟨[⟨33, _, some 7⟩], _, rfl, ⟨(fun _ => rfl), trivial⟩, rfl, rfl, _, rfl, fun O σ => OpG.plain rfl (ok_load ti9 rfl rfl (ht rfl))⟩,
      trivial⟩⟩⟩⟩⟩⟩⟩⟩⟩ (fun σ => ?_)
    refine (show RG _ _ _ _ [tip (rI .u8) 5 (σ 6).1 (σ 6).2 l3] _ from ?_)
    obtain ⟨b3, q_b3, h⟩ := bs h
    refine RG.appendST ti5 rfl rfl Try.underlying70 Try.underlying9 rfl (ht rfl) (ht rfl) q_b3 (fun l4 c3 => ?_)
    refine RG.op (ok_assign (ht rfl)) rfl ?_
    refine RG.nil ?_
    refine AT.in_normal ?_
    refine AT.next ?_
    refine CG.region ?_
    refine RG.op (ok_incN (dropL hx hN) (ht rfl) hI) rfl ?_
    refine RG.op (ok_move (ht rfl)) rfl ?_
    refine RG.nil ?_
    exact AT.round (LG.sub (ih (i + 1) b3 l4 c3 ⟨dropS hx, h⟩) ⟨rfl, rfl, rfl, rfl, trivial⟩)

set_option maxRecDepth 100000 in
theorem f19_ok (r : (List DValue)) (columns : (List Int)) {R : Int × Int} (h : row_Hash r columns = some R) : Spec Try.prog 19 [tD (rSl rpDValue) r, tD (rSl (rI .i64)) columns] (tT [tD (rI .u32) R.1, tD (rI .i64) R.2]) := by
  refine Spec.of Try.func19 rfl rfl rfl fun w0 S0 => ?_
  refine CG.seq ?_
  refine CG.region ?_
  refine RG.op (ok_assign hI) rfl ?_
  refine RG.op (ok_assign hI) rfl ?_
  refine RG.nil ?_
  refine AT.next ?_
  refine CG.seq ?_
  refine CG.region ?_
  refine RG.op (ok_move (ht rfl)) rfl ?_
  refine RG.op (ok_move (ht rfl)) rfl ?_
  obtain ⟨r1, q_r1, h⟩ := bs h
  refine RG.op (ok_call cb18 (f18_ok _ _ q_r1) ⟨(ht rfl), (ht rfl), trivial⟩) rfl ?_
  refine RG.op (ok_move (ht rfl)) rfl ?_
  refine RG.op (ok_extract rfl (ht rfl)) rfl ?_
  refine RG.op (ok_extract rfl (ht rfl)) rfl ?_
  refine RG.op (ok_assign (ht rfl)) rfl ?_
  refine RG.op (ok_assign (ht rfl)) rfl ?_
  refine RG.nil ?_
  refine AT.next ?_
  refine CG.seq ?_
  refine CG.seq ?_
  refine CG.region ?_
  refine RG.op (ok_move (ht rfl)) rfl ?_
  refine RG.op (ok_neqI (ht rfl) hI) rfl ?_
  refine RG.nil ?_
  refine AT.next ?_
  refine CG.cond (ht rfl) (fun hc => ?_) (fun hc => ?_)
  · have h := ct h hc
    refine CG.seq ?_
    refine CG.region ?_
    refine RG.op (ok_move (ht rfl)) rfl ?_
    refine RG.op (ok_assign hI) rfl ?_
    refine RG.op (ok_assign (ht rfl)) rfl ?_
    refine RG.nil ?_
    refine AT.next ?_
    refine CG.ret ?_
    refine AT.then_ret ?_
    cases so h
    exact AT.ret2 rfl rfl rfl
  · have h := cf h hc
    refine CG.skip ?_
    refine AT.next ?_
    refine CG.seq ?_
    refine CG.region ?_
    refine RG.op (ok_move (ht rfl)) rfl ?_
    obtain ⟨r2, q_r2, h⟩ := bs h
    refine RG.op (ok_call cb43 (f43_ok _ q_r2) ⟨(ht rfl), trivial⟩) rfl ?_
    refine RG.op (ok_assign (ht rfl)) rfl ?_
    refine RG.op (ok_assign hI) rfl ?_
    refine RG.nil ?_
    refine AT.next ?_
    refine CG.ret ?_
    cases so h
    exact AT.ret2 rfl rfl rfl

set_option maxRecDepth 100000 in
theorem f27_ok (l : (List (List DValue))) {R : Int} (h : ref05_Error l = some R) : Spec Try.prog 27 [tD (rSl (rSl rpDValue)) l] (tD (rI .i64) R) := by
  refine Spec.of Try.func27 rfl rfl rfl fun w0 S0 => ?_
  refine CG.seq ?_
  refine CG.region ?_
  refine RG.op (ok_assign hI) rfl ?_
  refine RG.nil ?_
  refine AT.next ?_
  refine CG.seq ?_
  refine CG.seq ?_
  refine CG.region ?_
  refine RG.op (ok_assign hI) rfl ?_
  refine RG.nil ?_
  refine AT.next ?_
  refine CG.block ?_
  refine CG.have_len (k := 0) rfl (fun hN => ?_)
  refine CG.loop ?_
  refine LG.sub (LG.list1 (Z := fun ls i  => (l.drop i = ls) ∧ ref05_Error_l1 l ls  = some R) (Of := fun _ i  => []) (Gf := fun _ i  => [(0, tD (rSl (rSl rpDValue)) l), (3, tD (rI .i64) (i : Int))]) (fun i  h => ?_) (fun e tl ih i  h => ?_) l 0  ⟨rfl, h⟩) ⟨rfl, rfl, trivial⟩
  · obtain ⟨hx, h⟩ := h
    refine LG.unfold ?_
    refine CG.seq ?_
    refine CG.seq ?_
    refine CG.region ?_
    refine RG.op (ok_move (ht rfl)) rfl ?_
    refine RG.op (ok_move (ht rfl)) rfl ?_
    refine RG.op (ok_lenSl Try.underlying22 (ht rfl)) rfl ?_
    refine RG.op (ok_lss (ht rfl) (ht rfl)) rfl ?_
    refine RG.nil ?_
    refine AT.next ?_
    refine CG.condF (ht rfl) (dropF hx) ?_
    refine CG.exit ?_
    refine AT.then_exit (AT.then_exit (AT.in_exit ?_))
    refine AT.next ?_
    refine CG.seq ?_
    refine CG.seq ?_
    refine CG.region ?_
    refine RG.op (ok_move (ht rfl)) rfl ?_
    refine RG.op (ok_lenSl Try.underlying22 (ht rfl)) rfl ?_
    refine RG.op (ok_gtr (ht rfl) hI) rfl ?_
    refine RG.nil ?_
    refine AT.next ?_
    refine CG.cond (ht rfl) (fun hc => ?_) (fun hc => ?_)
    · have h := ct h hc
      refine CG.seq ?_
      refine CG.region ?_
      refine RG.op (ok_assign hI) rfl ?_
      refine RG.nil ?_
      refine AT.next ?_
      refine CG.ret ?_
      refine AT.then_ret ?_
      cases so h
      exact AT.ret1 rfl rfl
    · have h := cf h hc
      refine CG.skip ?_
      refine AT.next ?_
      refine CG.seq ?_
      refine CG.region ?_
      refine RG.op (ok_assign hI) rfl ?_
      refine RG.nil ?_
      refine AT.next ?_
      refine CG.ret ?_
      cases so h
      exact AT.ret1 rfl rfl
  · obtain ⟨hx, h⟩ := h
    refine LG.unfold ?_
    refine CG.seq ?_
    refine CG.seq ?_
    refine CG.region ?_
    refine RG.op (ok_move (ht rfl)) rfl ?_
    refine RG.op (ok_move (ht rfl)) rfl ?_
    refine RG.op (ok_lenSl Try.underlying22 (ht rfl)) rfl ?_
    refine RG.op (ok_lss (ht rfl) (ht rfl)) rfl ?_
    refine RG.nil ?_
    refine AT.next ?_
    refine CG.condT (ht rfl) (dropT hx) ?_
    refine CG.skip ?_
    refine AT.next ?_
    refine CG.seq ?_
    refine CG.block ?_
    refine CG.seq ?_
    refine CG.region ?_
    refine RG.op (ok_move (ht rfl)) rfl ?_
    refine RG.op (ok_move (ht rfl)) rfl ?_
    refine RG.op (ok_indexAddr Try.underlying22 ti26 rfl (ht rfl) (ht rfl) (dropI hx)) rfl ?_
    refine RG.op (ok_load ti26 rfl rfl (ht rfl)) rfl ?_
    obtain ⟨r, q_r, h⟩ := bs h
    refine RG.op (ok_call cb11 (f11_ok _ q_r) ⟨(ht rfl), trivial⟩) rfl ?_
    refine RG.op (ok_not (ht rfl)) rfl ?_
    refine RG.nil ?_
    refine AT.next ?_
    refine CG.cond (ht rfl) (fun hc => ?_) (fun hc => ?_)
    · have h := ct h hc
      refine CG.seq ?_
      refine CG.region ?_
      refine RG.op (ok_assign hI) rfl ?_
      refine RG.nil ?_
      refine AT.next ?_
      refine CG.ret ?_
      refine AT.in_ret (AT.then_ret (AT.then_ret (AT.in_ret (AT.then_ret ?_))))
      cases so h
      exact AT.ret1 rfl rfl
    · have h := cf h hc
      refine CG.skip ?_
      refine AT.in_normal ?_
      refine AT.next ?_
      refine CG.region ?_
      refine RG.op (ok_move (ht rfl)) rfl ?_
      refine RG.op (ok_incN (dropL hx hN) (ht rfl) hI) rfl ?_
      refine RG.op (ok_assign (ht rfl)) rfl ?_
      refine RG.nil ?_
      exact AT.round (LG.sub (ih (i + 1)  ⟨dropS hx, h⟩) ⟨rfl, rfl, trivial⟩)

set_option maxRecDepth 100000 in
theorem f44_ok (l : (List (List DValue))) (columns : (List Int)) {R : Bool} (h : ref05_Columns l columns = some R) : Spec Try.prog 44 [tD (rSl (rSl rpDValue)) l, tD (rSl (rI .i64)) columns] (tD rB R) := by
  refine Spec.of Try.func44 rfl rfl rfl fun w0 S0 => ?_
  refine CG.seq ?_
  refine CG.region ?_
  refine RG.op (ok_assign hB) rfl ?_
  refine RG.nil ?_
  refine AT.next ?_
  refine CG.seq ?_
  refine CG.seq ?_
  refine CG.region ?_
  refine RG.op (ok_move (ht rfl)) rfl ?_
  refine RG.op (ok_lenSl Try.underlying37 (ht rfl)) rfl ?_
  refine RG.op (ok_gtr (ht rfl) hI) rfl ?_
  refine RG.nil ?_
  refine AT.next ?_
  refine CG.cond (ht rfl) (fun hc => ?_) (fun hc => ?_)
  · have h := ct h hc
    refine CG.seq ?_
    refine CG.region ?_
    refine RG.op (ok_assign hB) rfl ?_
    refine RG.nil ?_
    refine AT.next ?_
    refine CG.ret ?_
    refine AT.then_ret ?_
    cases so h
    exact AT.ret1 rfl rfl
  · have h := cf h hc
    refine CG.skip ?_
    refine AT.next ?_
    refine CG.seq ?_
    refine CG.seq ?_
    refine CG.region ?_
    refine RG.op (ok_assign hI) rfl ?_
    refine RG.nil ?_
    refine AT.next ?_
    refine CG.block ?_
    refine CG.have_len (k := 1) rfl (fun hN => ?_)
    refine CG.loop ?_
    refine LG.sub (LG.list1 (Z := fun ls i  => (columns.drop i = ls) ∧ ref05_Columns_l1 l ls  = some R) (Of := fun _ i  => []) (Gf := fun _ i  => [(0, tD (rSl (rSl rpDValue)) l), (1, tD (rSl (rI .i64)) columns), (5, tD (rI .i64) (i : Int))]) (fun i  h => ?_) (fun e tl ih i  h => ?_) columns 0  ⟨rfl, h⟩) ⟨rfl, rfl, rfl, trivial⟩
    · obtain ⟨hx, h⟩ := h
      refine LG.unfold ?_
      refine CG.seq ?_
      refine CG.seq ?_
      refine CG.region ?_
      refine RG.op (ok_move (ht rfl)) rfl ?_
      refine RG.op (ok_move (ht rfl)) rfl ?_
      refine RG.op (ok_lenSl Try.underlying37 (ht rfl)) rfl ?_
      refine RG.op (ok_lss (ht rfl) (ht rfl)) rfl ?_
      refine RG.nil ?_
      refine AT.next ?_
      refine CG.condF (ht rfl) (dropF hx) ?_
      refine CG.exit ?_
      refine AT.then_exit (AT.then_exit (AT.in_exit ?_))
      refine AT.next ?_
      refine CG.seq ?_
      refine CG.region ?_
      refine RG.op (ok_assign hB) rfl ?_
      refine RG.nil ?_
      refine AT.next ?_
      refine CG.ret ?_
      cases so h
      exact AT.ret1 rfl rfl
    · obtain ⟨hx, h⟩ := h
      refine LG.unfold ?_
      refine CG.seq ?_
      refine CG.seq ?_
      refine CG.region ?_
      refine RG.op (ok_move (ht rfl)) rfl ?_
      refine RG.op (ok_move (ht rfl)) rfl ?_
      refine RG.op (ok_lenSl Try.underlying37 (ht rfl)) rfl ?_
      refine RG.op (ok_lss (ht rfl) (ht rfl)) rfl ?_
      refine RG.nil ?_
      refine AT.next ?_
      refine CG.condT (ht rfl) (dropT hx) ?_
      refine CG.skip ?_
      refine AT.next ?_
      refine CG.seq ?_
      refine CG.block ?_
      refine CG.seq ?_
      refine CG.seq ?_
      refine CG.region ?_
      refine RG.op (ok_move (ht rfl)) rfl ?_
      refine RG.op (ok_move (ht rfl)) rfl ?_
      refine RG.op (ok_indexAddr Try.underlying37 ti3 rfl (ht rfl) (ht rfl) (dropI hx)) rfl ?_
      refine RG.op (ok_load ti3 rfl rfl (ht rfl)) rfl ?_
      refine RG.op (ok_lss (ht rfl) hI) rfl ?_
      refine RG.nil ?_
      refine AT.next ?_
      refine CG.cond (ht rfl) (fun hc => ?_) (fun hc => ?_)
      · have h := ct h hc
        refine CG.seq ?_
        refine CG.region ?_
        refine RG.op (ok_assign hB) rfl ?_
        refine RG.nil ?_
        refine AT.next ?_
        refine CG.ret ?_
        refine AT.then_ret (AT.in_ret (AT.then_ret (AT.then_ret (AT.in_ret (AT.then_ret ?_)))))
        cases so h
        exact AT.ret1 rfl rfl
      · have h := cf h hc
        refine CG.skip ?_
        refine AT.next ?_
        refine CG.seq ?_
        refine CG.region ?_
        refine RG.op (ok_assign hI) rfl ?_
        refine RG.nil ?_
        refine AT.next ?_
        refine CG.block ?_
        refine CG.have_len (k := 0) rfl (fun hN1 => ?_)
        refine CG.loop ?_
        refine LG.sub (LG.list1 (Z := fun ls1 i1  => (l.drop i1 = ls1) ∧ ref05_Columns_l2 (ref05_Columns_l1 l tl) e ls1  = some R) (Of := fun _ i1  => []) (Gf := fun _ i1  => [(0, tD (rSl (rSl rpDValue)) l), (1, tD (rSl (rI .i64)) columns), (5, tD (rI .i64) (i : Int)), (6, tD (rI .i64) (i1 : Int))]) (fun i1  h => ?_) (fun e1 tl1 ih1 i1  h => ?_) l 0  ⟨rfl, h⟩) ⟨rfl, rfl, rfl, rfl, trivial⟩
        · obtain ⟨hx1, h⟩ := h
          refine LG.unfold ?_
          refine CG.seq ?_
          refine CG.seq ?_
          refine CG.region ?_
          refine RG.op (ok_move (ht rfl)) rfl ?_
          refine RG.op (ok_move (ht rfl)) rfl ?_
          refine RG.op (ok_lenSl Try.underlying22 (ht rfl)) rfl ?_
          refine RG.op (ok_lss (ht rfl) (ht rfl)) rfl ?_
          refine RG.nil ?_
          refine AT.next ?_
          refine CG.condF (ht rfl) (dropF hx1) ?_
          refine CG.exit ?_
          refine AT.then_exit (AT.then_exit (AT.in_exit ?_))
          refine AT.in_normal ?_
          refine AT.next ?_
          refine CG.region ?_
          refine RG.op (ok_move (ht rfl)) rfl ?_
          refine RG.op (ok_incN (dropL hx hN) (ht rfl) hI) rfl ?_
          refine RG.op (ok_assign (ht rfl)) rfl ?_
          refine RG.nil ?_
          exact AT.round (LG.sub (ih (i + 1)  ⟨dropS hx, h⟩) ⟨rfl, rfl, rfl, trivial⟩)
        · obtain ⟨hx1, h⟩ := h
          refine LG.unfold ?_
          refine CG.seq ?_
          refine CG.seq ?_
          refine CG.region ?_
          refine RG.op (ok_move (ht rfl)) rfl ?_
          refine RG.op (ok_move (ht rfl)) rfl ?_
          refine RG.op (ok_lenSl Try.underlying22 (ht rfl)) rfl ?_
          refine RG.op (ok_lss (ht rfl) (ht rfl)) rfl ?_
          refine RG.nil ?_
          refine AT.next ?_
          refine CG.condT (ht rfl) (dropT hx1) ?_
          refine CG.skip ?_
          refine AT.next ?_
          refine CG.seq ?_
          refine CG.block ?_
          refine CG.seq ?_
          refine CG.draw (ts := [tD (rSl (rI .i64)) columns, tD (rI .i64) (i : Int), tPtr (rI .i64) e, tD (rI .i64) e, tD (rSl (rSl rpDValue)) l, tD (rI .i64) (i1 : Int), tPtr (rSl rpDValue) e1, tD (rSl rpDValue) e1, tD (rI .i64) (e1.length : Int), tD rB (decide ((e1.length : Int) ≤ e))]) mixed rfl rfl
            ⟨⟨[⟨1, _, none⟩], _, rfl, ⟨rfl, trivial⟩, rfl, rfl, OpG.plain rfl (ok_move (ht rfl))⟩,
            ⟨⟨[⟨5, _, none⟩], _, rfl, ⟨rfl, trivial⟩, rfl, rfl, OpG.plain rfl (ok_move (ht rfl))⟩,
            ⟨⟨[⟨27, _, some 0⟩, ⟨28, _, some 1⟩], _, rfl, ⟨rfl, rfl, trivial⟩, rfl, rfl, OpG.plain rfl (ok_indexAddr Try.underlying37 ti3 rfl (ht rfl) (ht rfl) (dropI hx))⟩,
            ⟨⟨[⟨29, _, some 2⟩], _, rfl, ⟨rfl, trivial⟩, rfl, rfl, OpG.plain rfl (ok_load ti3 rfl rfl (ht rfl))⟩,
            ⟨⟨[⟨0, _, none⟩], _, rfl, ⟨rfl, trivial⟩, rfl, rfl, OpG.plain rfl (ok_move (ht rfl))⟩,
            ⟨⟨[⟨6, _, none⟩], _, rfl, ⟨rfl, trivial⟩, rfl, rfl, OpG.plain rfl (ok_move (ht rfl))⟩,
            ⟨⟨[⟨31, _, some 4⟩, ⟨32, _, some 5⟩], _, rfl, ⟨rfl, rfl, trivial⟩, rfl, rfl, OpG.plain rfl (ok_indexAddr Try.underlying22 ti26 rfl (ht rfl) (ht rfl) (dropI hx1))⟩,
            ⟨⟨[⟨33, _, some 6⟩], _, rfl, ⟨rfl, trivial⟩, rfl, rfl, OpG.plain rfl (ok_load ti26 rfl rfl (ht rfl))⟩,
            ⟨⟨[⟨34, _, some 7⟩], _, rfl, ⟨rfl, trivial⟩, rfl, rfl, OpG.plain rfl (ok_lenSl Try.underlying26 (ht rfl))⟩,
            ⟨⟨[⟨30, _, some 3⟩, ⟨35, _, some 8⟩], _, rfl, ⟨rfl, rfl, trivial⟩, rfl, rfl, OpG.plain rfl (ok_geq (ht rfl) (ht rfl))⟩,
            trivial⟩⟩⟩⟩⟩⟩⟩⟩⟩⟩ ?_
          refine AT.next ?_
          refine CG.cond (ht rfl) (fun hc => ?_) (fun hc => ?_)
          · have h := ct h hc
            refine CG.seq ?_
            refine CG.region ?_
            refine RG.op (ok_assign hB) rfl ?_
            refine RG.nil ?_
            refine AT.next ?_
            refine CG.ret ?_
            refine AT.in_ret (AT.then_ret (AT.then_ret (AT.in_ret (AT.in_ret (AT.then_ret (AT.then_ret (AT.in_ret (AT.then_ret ?_))))))))
            cases so h
            exact AT.ret1 rfl rfl
          · have h := cf h hc
            refine CG.skip ?_
            refine AT.in_normal ?_
            refine AT.next ?_
            refine CG.region ?_
            refine RG.op (ok_move (ht rfl)) rfl ?_
            refine RG.op (ok_incN (dropL hx1 hN1) (ht rfl) hI) rfl ?_
            refine RG.op (ok_assign (ht rfl)) rfl ?_
            refine RG.nil ?_
            exact AT.round (LG.sub (ih1 (i1 + 1)  ⟨dropS hx1, h⟩) ⟨rfl, rfl, rfl, rfl, trivial⟩)

end Go.Proofs.Ytchjhcgkfglgiaa
