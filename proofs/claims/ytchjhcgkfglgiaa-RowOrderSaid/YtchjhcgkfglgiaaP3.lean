/- The walks, part 3. -/
import Derived.Test.YtchjhcgkfglgiaaT
import Derived.Test.YtchjhcgkfglgiaaP2
namespace Go.Proofs.Ytchjhcgkfglgiaa
open Go

set_option maxRecDepth 100000 in
theorem f4_ok (p : (List (List DValue))) (p1 : Int) {R : Bool} (h : law05_RowOrder p p1 = some R) : Spec Try.prog 4 [tD (rSl (rSl rpDValue)) p, tD (rI .i64) p1] (tD rB R) := by
  refine Spec.of Try.func4 rfl rfl rfl fun w0 S0 => ?_
  refine CG.seq ?_
  refine CG.region ?_
  refine RG.op (ok_assign hB) rfl ?_
  refine RG.nil ?_
  refine AT.next ?_
  refine CG.seq ?_
  refine CG.seq ?_
  refine CG.region ?_
  obtain ⟨r, q_r, h⟩ := bs h
  refine RG.op (ok_call cb9 (f9_ok  q_r) trivial) rfl ?_
  refine RG.op (ok_not (ht rfl)) rfl ?_
  refine RG.nil ?_
  refine AT.next ?_
  refine CG.cond (ht rfl) (fun hc => ?_) (fun hc => ?_)
  · have h := ct h hc
    refine CG.seq ?_
    refine CG.region ?_
    refine RG.op (ok_assign hB) rfl ?_
    refine RG.nil ?_
    refine AT.next ?_
    refine CG.ret ?_
    refine AT.then_ret ?_
    cases so h
    exact AT.ret1 rfl rfl
  · have h := cf h hc
    refine CG.skip ?_
    refine AT.next ?_
    refine CG.sjoin1 (Z := fun x => law05_RowOrder_k1 p1 x = some R) (Of := fun x => []) (Gf := fun x => [(0, tD (rSl (rSl rpDValue)) x), (1, tD (rI .i64) p1)]) (fun x h => ?_) (fun K => ?_)
    · skip
      refine CG.seq ?_
      refine CG.seq ?_
      refine CG.region ?_
      refine RG.op (ok_move (ht rfl)) rfl ?_
      obtain ⟨r1, q_r1, h⟩ := bs h
      refine RG.op (ok_call cb10 (f10_ok _ q_r1) ⟨(ht rfl), trivial⟩) rfl ?_
      refine RG.nil ?_
      refine AT.next ?_
      refine CG.cond (ht rfl) (fun hc => ?_) (fun hc => ?_)
      · have h := ct h hc
        refine CG.seq ?_
        refine CG.region ?_
        refine RG.op (ok_assign hB) rfl ?_
        refine RG.nil ?_
        refine AT.next ?_
        refine CG.ret ?_
        refine AT.then_ret ?_
        cases so h
        exact AT.ret1 rfl rfl
      · have h := cf h hc
        refine CG.skip ?_
        refine AT.next ?_
        refine CG.seq ?_
        refine CG.seq ?_
        refine CG.region ?_
        refine RG.op (ok_move (ht rfl)) rfl ?_
        refine RG.op (ok_lenSl Try.underlying22 (ht rfl)) rfl ?_
        refine RG.op (ok_move hI) rfl ?_
        refine RG.nil ?_
        refine AT.next ?_
        refine CG.block ?_
        refine CG.loop ?_
        refine LG.sub (LG.ind1 (Z := fun n x1 => law05_RowOrder_l1 p1 x n x1 = some R) (Of := fun x1 => []) (Gf := fun x1 => [(0, tD (rSl (rSl rpDValue)) x), (1, tD (rI .i64) p1), (21, tD (rSl (rSl rpDValue)) x), (22, tD (rI .i64) (x.length : Int)), (23, tD (rI .i64) x1)]) (fun x1 h => nn h) (fun n ih x1 h => ?_) FUEL (0 : Int) h) ⟨rfl, rfl, rfl, rfl, rfl, trivial⟩
        refine LG.unfold ?_
        refine CG.seq ?_
        refine CG.region ?_
        refine RG.op (ok_lss (ht rfl) (ht rfl)) rfl ?_
        refine RG.nil ?_
        refine AT.next ?_
        refine CG.seq ?_
        refine CG.cond (ht rfl) (fun hc => ?_) (fun hc => ?_)
        · have h := ct h hc
          refine CG.skip ?_
          refine AT.next ?_
          refine CG.seq ?_
          refine CG.bjoin0 (Z := law05_RowOrder_k2 (law05_RowOrder_l1 p1 x n) x1 = some R) (Of := []) (Gf := [(0, tD (rSl (rSl rpDValue)) x), (1, tD (rI .i64) p1), (21, tD (rSl (rSl rpDValue)) x), (22, tD (rI .i64) (x.length : Int)), (23, tD (rI .i64) x1)]) (fun h => ?_) (fun K1 => ?_)
          · skip
            refine AT.next ?_
            refine CG.region ?_
            refine RG.op (ok_add (ht rfl) hI) rfl ?_
            refine RG.op (ok_move (ht rfl)) rfl ?_
            refine RG.nil ?_
            exact AT.round (LG.sub (ih (IntKind.i64.wrap (x1 + (1 : Int))) h) ⟨rfl, rfl, rfl, rfl, rfl, trivial⟩)
          · skip
            refine CG.seq ?_
            refine CG.region ?_
            obtain ⟨e, q_e, h⟩ := bs h
            refine RG.op (ok_indexAddr Try.underlying22 ti26 rfl (ht rfl) (ht rfl) q_e) rfl ?_
            refine RG.op (ok_load ti26 rfl rfl (ht rfl)) rfl ?_
            refine RG.op (ok_assign (ht rfl)) rfl ?_
            refine RG.nil ?_
            refine AT.next ?_
            refine CG.seq ?_
            refine CG.seq ?_
            refine CG.region ?_
            refine RG.op (ok_move (ht rfl)) rfl ?_
            obtain ⟨r2, q_r2, h⟩ := bs h
            refine RG.op (ok_call cb12 (f12_ok _ q_r2) ⟨(ht rfl), trivial⟩) rfl ?_
            refine RG.op (ok_neqI (ht rfl) hI) rfl ?_
            refine RG.nil ?_
            refine AT.next ?_
            refine CG.cond (ht rfl) (fun hc => ?_) (fun hc => ?_)
            · have h := ct h hc
              refine CG.exit ?_
              refine AT.then_exit (AT.in_exit ?_)
              exact AT.sub (K1 h) ⟨rfl, rfl, rfl, rfl, rfl, trivial⟩
            · have h := cf h hc
              refine CG.skip ?_
              refine AT.next ?_
              refine CG.seq ?_
              refine CG.seq ?_
              refine CG.region ?_
              refine RG.op (ok_move (ht rfl)) rfl ?_
              refine RG.op (ok_max2 (ht rfl) hI) rfl ?_
              refine RG.op (ok_move (ht rfl)) rfl ?_
              refine RG.op (ok_lenSl Try.underlying26 (ht rfl)) rfl ?_
              refine RG.op (ok_add (ht rfl) hI) rfl ?_
              obtain ⟨u, q_u, h⟩ := bs h
              refine RG.op (ok_rem (ht rfl) (ht rfl) (nz_some q_u)) rfl ?_
              refine RG.op (ok_assign (ht rfl)) rfl ?_
              refine RG.nil ?_
              refine AT.next ?_
              refine CG.seq ?_
              refine CG.region ?_
              refine RG.op (ok_move (ht rfl)) rfl ?_
              refine RG.op (ok_move (ht rfl)) rfl ?_
              refine RG.op (ok_lenSl Try.underlying26 (ht rfl)) rfl ?_
              refine RG.op (ok_lss (ht rfl) (ht rfl)) rfl ?_
              refine RG.op (ok_move (ht rfl)) rfl ?_
              obtain ⟨t, q_t, h⟩ := bs h
              refine RG.opGt rfl rfl rfl rfl (fun hg => ok_move (ht rfl)) ?_
              refine RG.opGt rfl rfl rfl rfl (fun hg => ok_move (ht rfl)) ?_
              obtain ⟨y, h1t, h0t⟩ := og q_t
              have q_yg := fun hb => (h1t hb).1
              refine RG.opGt rfl rfl rfl rfl (fun hg => ok_sliceHi Try.underlying26 ti33 rfl (htO rfl hg) (htO rfl hg) (q_yg hg)) ?_
              refine RG.opGt rfl rfl rfl rfl (fun hg => ok_move (ht rfl)) ?_
              obtain ⟨r3, h1t⟩ := og2 (fun hb => (h1t hb).2)
              have q_r3g := fun hb => (h1t hb).1
              refine RG.opGt rfl rfl rfl rfl (fun hg => ok_call cb14 (f14_ok _ _ (q_r3g hg)) ⟨(htO rfl hg), (htO rfl hg), trivial⟩) ?_
              refine RG.opGt rfl rfl rfl rfl (fun hg => ok_neqI (htO rfl hg) hI) ?_
              refine RG.op (ok_pickAndM (ht rfl) (fun hb => (htO rfl hb)) (fun hb => (h1t hb).2) h0t) rfl ?_
              refine RG.nil ?_
              refine AT.next ?_
              refine CG.cond (ht rfl) (fun hc => ?_) (fun hc => ?_)
              · have h := ct h hc
                refine CG.seq ?_
                refine CG.region ?_
                refine RG.op (ok_assign hB) rfl ?_
                refine RG.nil ?_
                refine AT.next ?_
                refine CG.ret ?_
                refine AT.then_ret (AT.in_ret (AT.then_ret (AT.then_ret (AT.in_ret (AT.then_ret ?_)))))
                cases so h
                exact AT.ret1 rfl rfl
              · have h := cf h hc
                refine CG.skip ?_
                refine AT.next ?_
                refine CG.seq ?_
                refine CG.region ?_
                refine RG.op (ok_move (ht rfl)) rfl ?_
                refine RG.op (ok_lenSl Try.underlying22 (ht rfl)) rfl ?_
                refine RG.op (ok_move hI) rfl ?_
                refine RG.nil ?_
                refine AT.next ?_
                refine CG.block ?_
                refine CG.loop ?_
                refine LG.sub (LG.ind1 (Z := fun n1 x2 => law05_RowOrder_l2 x (law05_RowOrder_l1 p1 x n) x1 e n1 x2 = some R) (Of := fun x2 => []) (Gf := fun x2 => [(0, tD (rSl (rSl rpDValue)) x), (1, tD (rI .i64) p1), (6, tD (rSl rpDValue) e), (21, tD (rSl (rSl rpDValue)) x), (22, tD (rI .i64) (x.length : Int)), (23, tD (rI .i64) x1), (48, tD (rSl (rSl rpDValue)) x), (49, tD (rI .i64) (x.length : Int)), (50, tD (rI .i64) x2)]) (fun x2 h => nn h) (fun n1 ih1 x2 h => ?_) FUEL (0 : Int) h) ⟨rfl, rfl, rfl, rfl, rfl, rfl, rfl, rfl, rfl, trivial⟩
                refine LG.unfold ?_
                refine CG.seq ?_
                refine CG.region ?_
                refine RG.op (ok_lss (ht rfl) (ht rfl)) rfl ?_
                refine RG.nil ?_
                refine AT.next ?_
                refine CG.seq ?_
                refine CG.cond (ht rfl) (fun hc => ?_) (fun hc => ?_)
                · have h := ct h hc
                  refine CG.skip ?_
                  refine AT.next ?_
                  refine CG.seq ?_
                  refine CG.bjoin0 (Z := law05_RowOrder_k3 (law05_RowOrder_l2 x (law05_RowOrder_l1 p1 x n) x1 e n1) x2 = some R) (Of := []) (Gf := [(0, tD (rSl (rSl rpDValue)) x), (1, tD (rI .i64) p1), (6, tD (rSl rpDValue) e), (21, tD (rSl (rSl rpDValue)) x), (22, tD (rI .i64) (x.length : Int)), (23, tD (rI .i64) x1), (48, tD (rSl (rSl rpDValue)) x), (49, tD (rI .i64) (x.length : Int)), (50, tD (rI .i64) x2)]) (fun h => ?_) (fun K2 => ?_)
                  · skip
                    refine AT.next ?_
                    refine CG.region ?_
                    refine RG.op (ok_add (ht rfl) hI) rfl ?_
                    refine RG.op (ok_move (ht rfl)) rfl ?_
                    refine RG.nil ?_
                    exact AT.round (LG.sub (ih1 (IntKind.i64.wrap (x2 + (1 : Int))) h) ⟨rfl, rfl, rfl, rfl, rfl, rfl, rfl, rfl, rfl, trivial⟩)
                  · skip
                    refine CG.seq ?_
                    refine CG.region ?_
                    obtain ⟨e1, q_e1, h⟩ := bs h
                    refine RG.op (ok_indexAddr Try.underlying22 ti26 rfl (ht rfl) (ht rfl) q_e1) rfl ?_
                    refine RG.op (ok_load ti26 rfl rfl (ht rfl)) rfl ?_
                    refine RG.op (ok_assign (ht rfl)) rfl ?_
                    refine RG.nil ?_
                    refine AT.next ?_
                    refine CG.seq ?_
                    refine CG.seq ?_
                    refine CG.region ?_
                    refine RG.op (ok_move (ht rfl)) rfl ?_
                    obtain ⟨r4, q_r4, h⟩ := bs h
                    refine RG.op (ok_call cb12 (f12_ok _ q_r4) ⟨(ht rfl), trivial⟩) rfl ?_
                    refine RG.op (ok_neqI (ht rfl) hI) rfl ?_
                    refine RG.nil ?_
                    refine AT.next ?_
                    refine CG.cond (ht rfl) (fun hc => ?_) (fun hc => ?_)
                    · have h := ct h hc
                      refine CG.exit ?_
                      refine AT.then_exit (AT.in_exit ?_)
                      exact AT.sub (K2 h) ⟨rfl, rfl, rfl, rfl, rfl, rfl, rfl, rfl, rfl, trivial⟩
                    · have h := cf h hc
                      refine CG.skip ?_
                      refine AT.next ?_
                      refine CG.seq ?_
                      refine CG.seq ?_
                      refine CG.region ?_
                      refine RG.op (ok_move (ht rfl)) rfl ?_
                      refine RG.op (ok_move (ht rfl)) rfl ?_
                      obtain ⟨r5, q_r5, h⟩ := bs h
                      refine RG.op (ok_call cb14 (f14_ok _ _ q_r5) ⟨(ht rfl), (ht rfl), trivial⟩) rfl ?_
                      refine RG.op (ok_move (ht rfl)) rfl ?_
                      refine RG.op (ok_move (ht rfl)) rfl ?_
                      obtain ⟨r6, q_r6, h⟩ := bs h
                      refine RG.op (ok_call cb14 (f14_ok _ _ q_r6) ⟨(ht rfl), (ht rfl), trivial⟩) rfl ?_
                      refine RG.op (ok_neg (ht rfl)) rfl ?_
                      refine RG.op (ok_neqI (ht rfl) (ht rfl)) rfl ?_
                      refine RG.op (ok_move (ht rfl)) rfl ?_
                      obtain ⟨t1, q_t1, h⟩ := bs h
                      refine RG.opGf rfl rfl rfl rfl (fun hg => ok_move (ht rfl)) ?_
                      refine RG.opGf rfl rfl rfl rfl (fun hg => ok_move (ht rfl)) ?_
                      obtain ⟨r7, h1t1, h0t1⟩ := og q_t1
                      have q_r7g := fun hb => (h1t1 hb).1
                      refine RG.opGf rfl rfl rfl rfl (fun hg => ok_call cb14 (f14_ok _ _ (q_r7g hg)) ⟨(htO rfl hg), (htO rfl hg), trivial⟩) ?_
                      refine RG.opGf rfl rfl rfl rfl (fun hg => ok_eqlI (htO rfl hg) hI) ?_
                      refine RG.opGf rfl rfl rfl rfl (fun hg => ok_move (ht rfl)) ?_
                      refine RG.opGf rfl rfl rfl rfl (fun hg => ok_buildSlice (r := (rSl rpDValue)) (ys := [e]) (xs := [.tmp 70]) Try.underlying22 ti26 rfl rfl rfl rfl rfl ⟨(htO rfl hg), trivial⟩) ?_
                      refine RG.opGf rfl rfl rfl rfl (fun hg => ok_move (ht rfl)) ?_
                      refine RG.opGf rfl rfl rfl rfl (fun hg => ok_buildSlice (r := (rSl rpDValue)) (ys := [e1]) (xs := [.tmp 72]) Try.underlying22 ti26 rfl rfl rfl rfl rfl ⟨(htO rfl hg), trivial⟩) ?_
                      obtain ⟨r8, h1t1⟩ := og2 (fun hb => (h1t1 hb).2)
                      have q_r8g := fun hb => (h1t1 hb).1
                      refine RG.opGf rfl rfl rfl rfl (fun hg => ok_call cb15 (f15_ok _ _ (q_r8g hg)) ⟨(htO rfl hg), (htO rfl hg), trivial⟩) ?_
                      refine RG.opGf rfl rfl rfl rfl (fun hg => ok_neqB Try.underlying4 (htO rfl hg) (htO rfl hg)) ?_
                      refine RG.op (ok_pickOrM (ht rfl) (fun hb => (htO rfl (noti hb))) (fun hb => (h1t1 hb).2) h0t1) rfl ?_
                      refine RG.nil ?_
                      refine AT.next ?_
                      refine CG.cond (ht rfl) (fun hc => ?_) (fun hc => ?_)
                      · have h := ct h hc
                        refine CG.seq ?_
                        refine CG.region ?_
                        refine RG.op (ok_assign hB) rfl ?_
                        refine RG.nil ?_
                        refine AT.next ?_
                        refine CG.ret ?_
                        refine AT.then_ret (AT.in_ret (AT.then_ret (AT.then_ret (AT.in_ret (AT.in_ret (AT.then_ret (AT.then_ret (AT.in_ret (AT.then_ret ?_)))))))))
                        cases so h
                        exact AT.ret1 rfl rfl
                      · have h := cf h hc
                        refine CG.skip ?_
                        refine AT.next ?_
                        refine CG.seq ?_
                        refine CG.region ?_
                        refine RG.op (ok_move (ht rfl)) rfl ?_
                        refine RG.op (ok_lenSl Try.underlying22 (ht rfl)) rfl ?_
                        refine RG.op (ok_move hI) rfl ?_
                        refine RG.nil ?_
                        refine AT.next ?_
                        refine CG.block ?_
                        refine CG.loop ?_
                        refine LG.sub (LG.ind1 (Z := fun n2 x3 => law05_RowOrder_l3 x e (law05_RowOrder_l2 x (law05_RowOrder_l1 p1 x n) x1 e n1) x2 e1 n2 x3 = some R) (Of := fun x3 => []) (Gf := fun x3 => [(0, tD (rSl (rSl rpDValue)) x), (1, tD (rI .i64) p1), (6, tD (rSl rpDValue) e), (9, tD (rSl rpDValue) e1), (21, tD (rSl (rSl rpDValue)) x), (22, tD (rI .i64) (x.length : Int)), (23, tD (rI .i64) x1), (48, tD (rSl (rSl rpDValue)) x), (49, tD (rI .i64) (x.length : Int)), (50, tD (rI .i64) x2), (77, tD (rSl (rSl rpDValue)) x), (78, tD (rI .i64) (x.length : Int)), (79, tD (rI .i64) x3)]) (fun x3 h => nn h) (fun n2 ih2 x3 h => ?_) FUEL (0 : Int) h) ⟨rfl, rfl, rfl, rfl, rfl, rfl, rfl, rfl, rfl, rfl, rfl, rfl, rfl, trivial⟩
                        refine LG.unfold ?_
                        refine CG.seq ?_
                        refine CG.region ?_
                        refine RG.op (ok_lss (ht rfl) (ht rfl)) rfl ?_
                        refine RG.nil ?_
                        refine AT.next ?_
                        refine CG.seq ?_
                        refine CG.cond (ht rfl) (fun hc => ?_) (fun hc => ?_)
                        · have h := ct h hc
                          refine CG.skip ?_
                          refine AT.next ?_
                          refine CG.seq ?_
                          refine CG.block ?_
                          refine CG.seq ?_
                          refine CG.region ?_
                          obtain ⟨e2, q_e2, h⟩ := bs h
                          refine RG.op (ok_indexAddr Try.underlying22 ti26 rfl (ht rfl) (ht rfl) q_e2) rfl ?_
                          refine RG.op (ok_load ti26 rfl rfl (ht rfl)) rfl ?_
                          refine RG.op (ok_assign (ht rfl)) rfl ?_
                          refine RG.nil ?_
                          refine AT.next ?_
                          refine CG.seq ?_
                          refine CG.region ?_
                          refine RG.op (ok_move (ht rfl)) rfl ?_
                          obtain ⟨r9, q_r9, h⟩ := bs h
                          refine RG.op (ok_call cb12 (f12_ok _ q_r9) ⟨(ht rfl), trivial⟩) rfl ?_
                          refine RG.op (ok_eqlI (ht rfl) hI) rfl ?_
                          refine RG.op (ok_move (ht rfl)) rfl ?_
                          obtain ⟨t2, q_t2, h⟩ := bs h
                          refine RG.opGt rfl rfl rfl rfl (fun hg => ok_move (ht rfl)) ?_
                          refine RG.opGt rfl rfl rfl rfl (fun hg => ok_move (ht rfl)) ?_
                          obtain ⟨r10, h1t2, h0t2⟩ := og q_t2
                          have q_r10g := fun hb => (h1t2 hb).1
                          refine RG.opGt rfl rfl rfl rfl (fun hg => ok_call cb14 (f14_ok _ _ (q_r10g hg)) ⟨(htO rfl hg), (htO rfl hg), trivial⟩) ?_
                          refine RG.opGt rfl rfl rfl rfl (fun hg => ok_leq (htO rfl hg) hI) ?_
                          refine RG.op (ok_pickAndM (ht rfl) (fun hb => (htO rfl hb)) (fun hb => (h1t2 hb).2) h0t2) rfl ?_
                          refine RG.op (ok_move (ht rfl)) rfl ?_
                          obtain ⟨t3, q_t3, h⟩ := bs h
                          refine RG.opGt rfl rfl rfl rfl (fun hg => ok_move (ht rfl)) ?_
                          refine RG.opGt rfl rfl rfl rfl (fun hg => ok_move (ht rfl)) ?_
                          obtain ⟨r11, h1t3, h0t3⟩ := og q_t3
                          have q_r11g := fun hb => (h1t3 hb).1
                          refine RG.opGt rfl rfl rfl rfl (fun hg => ok_call cb14 (f14_ok _ _ (q_r11g hg)) ⟨(htO rfl hg), (htO rfl hg), trivial⟩) ?_
                          refine RG.opGt rfl rfl rfl rfl (fun hg => ok_leq (htO rfl hg) hI) ?_
                          refine RG.op (ok_pickAndM (ht rfl) (fun hb => (htO rfl hb)) (fun hb => (h1t3 hb).2) h0t3) rfl ?_
                          refine RG.op (ok_move (ht rfl)) rfl ?_
                          obtain ⟨t4, q_t4, h⟩ := bs h
                          refine RG.opGt rfl rfl rfl rfl (fun hg => ok_move (ht rfl)) ?_
                          refine RG.opGt rfl rfl rfl rfl (fun hg => ok_move (ht rfl)) ?_
                          obtain ⟨r12, h1t4, h0t4⟩ := og q_t4
                          have q_r12g := fun hb => (h1t4 hb).1
                          refine RG.opGt rfl rfl rfl rfl (fun hg => ok_call cb14 (f14_ok _ _ (q_r12g hg)) ⟨(htO rfl hg), (htO rfl hg), trivial⟩) ?_
                          refine RG.opGt rfl rfl rfl rfl (fun hg => ok_gtr (htO rfl hg) hI) ?_
                          refine RG.op (ok_pickAndM (ht rfl) (fun hb => (htO rfl hb)) (fun hb => (h1t4 hb).2) h0t4) rfl ?_
                          refine RG.nil ?_
                          refine AT.next ?_
                          refine CG.cond (ht rfl) (fun hc => ?_) (fun hc => ?_)
                          · have h := ct h hc
                            refine CG.seq ?_
                            refine CG.region ?_
                            refine RG.op (ok_assign hB) rfl ?_
                            refine RG.nil ?_
                            refine AT.next ?_
                            refine CG.ret ?_
                            refine AT.in_ret (AT.then_ret (AT.then_ret (AT.in_ret (AT.in_ret (AT.then_ret (AT.then_ret (AT.in_ret (AT.in_ret (AT.then_ret (AT.then_ret (AT.in_ret (AT.then_ret ?_))))))))))))
                            cases so h
                            exact AT.ret1 rfl rfl
                          · have h := cf h hc
                            refine CG.skip ?_
                            refine AT.in_normal ?_
                            refine AT.next ?_
                            refine CG.region ?_
                            refine RG.op (ok_add (ht rfl) hI) rfl ?_
                            refine RG.op (ok_move (ht rfl)) rfl ?_
                            refine RG.nil ?_
                            exact AT.round (LG.sub (ih2 (IntKind.i64.wrap (x3 + (1 : Int))) h) ⟨rfl, rfl, rfl, rfl, rfl, rfl, rfl, rfl, rfl, rfl, rfl, rfl, rfl, trivial⟩)
                        · have h := cf h hc
                          refine CG.exit ?_
                          refine AT.then_exit (AT.then_exit (AT.in_exit ?_))
                          refine AT.in_normal ?_
                          exact AT.sub (K2 h) ⟨rfl, rfl, rfl, rfl, rfl, rfl, rfl, rfl, rfl, trivial⟩
                · have h := cf h hc
                  refine CG.exit ?_
                  refine AT.then_exit (AT.then_exit (AT.in_exit ?_))
                  refine AT.in_normal ?_
                  exact AT.sub (K1 h) ⟨rfl, rfl, rfl, rfl, rfl, trivial⟩
        · have h := cf h hc
          refine CG.exit ?_
          refine AT.then_exit (AT.then_exit (AT.in_exit ?_))
          refine AT.next ?_
          refine CG.seq ?_
          refine CG.region ?_
          refine RG.op (ok_assign hB) rfl ?_
          refine RG.nil ?_
          refine AT.next ?_
          refine CG.ret ?_
          cases so h
          exact AT.ret1 rfl rfl
    · skip
      refine CG.seq ?_
      refine CG.region ?_
      refine RG.op (ok_move (ht rfl)) rfl ?_
      refine RG.op (ok_lenSl Try.underlying22 (ht rfl)) rfl ?_
      refine RG.op (ok_gtr (ht rfl) hI) rfl ?_
      refine RG.nil ?_
      refine AT.next ?_
      refine CG.cond (ht rfl) (fun hc => ?_) (fun hc => ?_)
      · have h := ct h hc
        refine CG.region ?_
        refine RG.op (ok_move (ht rfl)) rfl ?_
        obtain ⟨y1, q_y1, h⟩ := bs h
        refine RG.op (ok_sliceHi Try.underlying22 ti26 rfl (ht rfl) hI q_y1) rfl ?_
        refine RG.op (ok_assign (ht rfl)) rfl ?_
        refine RG.nil ?_
        exact AT.sub (K y1 h) ⟨rfl, rfl, trivial⟩
      · have h := cf h hc
        refine CG.skip ?_
        exact AT.sub (K p h) ⟨rfl, rfl, trivial⟩

end Go.Proofs.Ytchjhcgkfglgiaa
