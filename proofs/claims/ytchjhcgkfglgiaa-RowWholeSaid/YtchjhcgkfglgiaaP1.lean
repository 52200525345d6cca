/- The walks, part 1. -/
import Derived.Test.YtchjhcgkfglgiaaT
import Derived.Test.YtchjhcgkfglgiaaP0
namespace Go.Proofs.Ytchjhcgkfglgiaa
open Go

set_option maxRecDepth 100000 in
theorem f64_ok (c : Int) {R : Bool} (h : row_asked_1 c = some R) : Spec Try.prog 64 [tD (rI .i64) c] (tD rB R) := by
  refine Spec.of Try.func64 rfl rfl rfl fun w0 S0 => ?_
  refine CG.seq ?_
  refine CG.region ?_
  refine RG.op (ok_assign hB) rfl ?_
  refine RG.nil ?_
  refine AT.next ?_
  refine CG.seq ?_
  refine CG.region ?_
  refine RG.op (ok_move (ht rfl)) rfl ?_
  refine RG.op (ok_lss (ht rfl) hI) rfl ?_
  refine RG.op (ok_assign (ht rfl)) rfl ?_
  refine RG.nil ?_
  refine AT.next ?_
  refine CG.ret ?_
  cases so h
  exact AT.ret1 rfl rfl

set_option maxRecDepth 100000 in
theorem f81_ok (s : (List Int)) (f : (Int → Option Bool)) {R : Int} (h : slices_IndexFunc_int_int s f = some R) : Spec Try.prog 81 [tD (rSl (rI .i64)) s, (tFun Try.prog (fun (x : Int) => [tD (rI .i64) x]) (fun (x : Bool) => tD rB x) (fun (x : Int) => f x))] (tD (rI .i64) R) := by
  refine Spec.of Try.func81 rfl rfl rfl fun w0 S0 => ?_
  refine CG.seq ?_
  refine CG.region ?_
  refine RG.op (ok_assign hI) rfl ?_
  refine RG.nil ?_
  refine AT.next ?_
  refine CG.seq ?_
  refine CG.seq ?_
  refine CG.region ?_
  refine RG.op (ok_move (ht rfl)) rfl ?_
  refine RG.op (ok_lenSl Try.underlying37 (ht rfl)) rfl ?_
  refine RG.op (ok_move hI) rfl ?_
  refine RG.nil ?_
  refine AT.next ?_
  refine CG.block ?_
  refine CG.have_len (k := 6) rfl (fun hN => ?_)
  refine CG.loop ?_
  refine LG.sub (LG.list1 (Z := fun ls i  => (s.drop i = ls) ∧ slices_IndexFunc_int_int_l1 f ls i  = some R) (Of := fun _ i  => []) (Gf := fun _ i  => [(0, tD (rSl (rI .i64)) s), (1, (tFun Try.prog (fun (x : Int) => [tD (rI .i64) x]) (fun (x : Bool) => tD rB x) (fun (x : Int) => f x))), (7, tD (rI .i64) (s.length : Int)), (8, tD (rI .i64) (i : Int))]) (fun i  h => ?_) (fun e tl ih i  h => ?_) s 0  ⟨rfl, h⟩) ⟨rfl, rfl, rfl, rfl, trivial⟩
  · obtain ⟨hx, h⟩ := h
    refine LG.unfold ?_
    refine CG.seq ?_
    refine CG.region ?_
    refine RG.op (ok_lss (ht rfl) (ht rfl)) rfl ?_
    refine RG.nil ?_
    refine AT.next ?_
    refine CG.seq ?_
    refine CG.condF (ht rfl) (dropF hx) ?_
    refine CG.exit ?_
    refine AT.then_exit (AT.then_exit (AT.in_exit ?_))
    refine AT.next ?_
    refine CG.seq ?_
    refine CG.region ?_
    refine RG.op (ok_assign hI) rfl ?_
    refine RG.nil ?_
    refine AT.next ?_
    refine CG.ret ?_
    cases so h
    exact AT.ret1 rfl rfl
  · obtain ⟨hx, h⟩ := h
    refine LG.unfold ?_
    refine CG.seq ?_
    refine CG.region ?_
    refine RG.op (ok_lss (ht rfl) (ht rfl)) rfl ?_
    refine RG.nil ?_
    refine AT.next ?_
    refine CG.seq ?_
    refine CG.condT (ht rfl) (dropT hx) ?_
    refine CG.skip ?_
    refine AT.next ?_
    refine CG.seq ?_
    refine CG.block ?_
    refine CG.seq ?_
    refine CG.region ?_
    refine RG.op (ok_move (ht rfl)) rfl ?_
    refine RG.op (ok_assign (ht rfl)) rfl ?_
    refine RG.nil ?_
    refine AT.next ?_
    refine CG.seq ?_
    refine CG.region ?_
    refine RG.op (ok_move (ht rfl)) rfl ?_
    refine RG.op (ok_move (ht rfl)) rfl ?_
    refine RG.op (ok_move (ht rfl)) rfl ?_
    refine RG.op (ok_indexAddr Try.underlying37 ti3 rfl (ht rfl) (ht rfl) (dropI hx)) rfl ?_
    refine RG.op (ok_load ti3 rfl rfl (ht rfl)) rfl ?_
    obtain ⟨r, q_r, h⟩ := bs h
    refine RG.op (ok_callV (x := ((e) : Int)) (ht rfl) q_r ⟨(ht rfl), trivial⟩) rfl ?_
    refine RG.nil ?_
    refine AT.next ?_
    refine CG.cond (ht rfl) (fun hc => ?_) (fun hc => ?_)
    · have h := ct h hc
      refine CG.seq ?_
      refine CG.region ?_
      refine RG.op (ok_move (ht rfl)) rfl ?_
      refine RG.op (ok_assign (ht rfl)) rfl ?_
      refine RG.nil ?_
      refine AT.next ?_
      refine CG.ret ?_
      refine AT.in_ret (AT.then_ret (AT.then_ret (AT.in_ret (AT.then_ret ?_))))
      cases so h
      exact AT.ret1 rfl rfl
    · have h := cf h hc
      refine CG.skip ?_
      refine AT.in_normal ?_
      refine AT.next ?_
      refine CG.region ?_
      refine RG.op (ok_incN (dropL hx hN) (ht rfl) hI) rfl ?_
      refine RG.op (ok_move (ht rfl)) rfl ?_
      refine RG.nil ?_
      exact AT.round (LG.sub (ih (i + 1)  ⟨dropS hx, h⟩) ⟨rfl, rfl, rfl, rfl, trivial⟩)

set_option maxRecDepth 100000 in
theorem f65_ok (s : (List Int)) (f : (Int → Option Bool)) {R : Bool} (h : slices_ContainsFunc_int_int s f = some R) : Spec Try.prog 65 [tD (rSl (rI .i64)) s, (tFun Try.prog (fun (x : Int) => [tD (rI .i64) x]) (fun (x : Bool) => tD rB x) (fun (x : Int) => f x))] (tD rB R) := by
  refine Spec.of Try.func65 rfl rfl rfl fun w0 S0 => ?_
  refine CG.seq ?_
  refine CG.region ?_
  refine RG.op (ok_assign hB) rfl ?_
  refine RG.nil ?_
  refine AT.next ?_
  refine CG.seq ?_
  refine CG.region ?_
  refine RG.op (ok_move (ht rfl)) rfl ?_
  refine RG.op (ok_move (ht rfl)) rfl ?_
  obtain ⟨r, q_r, h⟩ := bs h
  refine RG.op (ok_call cb81 (f81_ok _ _ q_r) ⟨(ht rfl), (ht rfl), trivial⟩) rfl ?_
  refine RG.op (ok_geq (ht rfl) hI) rfl ?_
  refine RG.op (ok_assign (ht rfl)) rfl ?_
  refine RG.nil ?_
  refine AT.next ?_
  refine CG.ret ?_
  cases so h
  exact AT.ret1 rfl rfl

set_option maxRecDepth 100000 in
theorem f82_ok (r : (List DValue)) (c : Int) {R : Bool} (h : row_has_1 r c = some R) : Spec Try.prog 82 [tD (rI .i64) c, tPtr (rSl rpDValue) r] (tD rB R) := by
  refine Spec.of Try.func82 rfl rfl rfl fun w0 S0 => ?_
  refine CG.seq ?_
  refine CG.region ?_
  refine RG.op (ok_assign hB) rfl ?_
  refine RG.nil ?_
  refine AT.next ?_
  refine CG.seq ?_
  refine CG.region ?_
  refine RG.op (ok_move (ht rfl)) rfl ?_
  refine RG.op (ok_lss (ht rfl) hI) rfl ?_
  refine RG.op (ok_move (ht rfl)) rfl ?_
  refine RG.opGf rfl rfl rfl rfl (fun hg => ok_move (ht rfl)) ?_
  refine RG.opGf rfl rfl rfl rfl (fun hg => ok_load ti26 rfl rfl (ht rfl)) ?_
  refine RG.opGf rfl rfl rfl rfl (fun hg => ok_lenSl Try.underlying26 (htO rfl hg)) ?_
  refine RG.opGf rfl rfl rfl rfl (fun hg => ok_geq (htO rfl hg) (htO rfl hg)) ?_
  refine RG.op (ok_pickOr (ht rfl) (fun hb => (htO rfl (noti hb)))) rfl ?_
  refine RG.op (ok_assign (ht rfl)) rfl ?_
  refine RG.nil ?_
  refine AT.next ?_
  refine CG.ret ?_
  cases so h
  exact AT.ret1 rfl rfl

set_option maxRecDepth 100000 in
theorem f66_ok (r : (List DValue)) (columns : (List Int)) {R : Bool} (h : row_has r columns = some R) : Spec Try.prog 66 [tD (rSl rpDValue) r, tD (rSl (rI .i64)) columns] (tD rB R) := by
  refine Spec.of Try.func66 rfl rfl rfl fun w0 S0 => ?_
  refine CG.seq ?_
  refine CG.region ?_
  refine RG.op (ok_box (ht rfl)) rfl ?_
  refine RG.op (ok_assign hB) rfl ?_
  refine RG.nil ?_
  refine AT.next ?_
  refine CG.seq ?_
  refine CG.region ?_
  refine RG.op ((show OpOK _ _ _ _ ((tFun Try.prog (fun (x : Int) => [tD (rI .i64) x]) (fun (x : Bool) => tD rB x) (fun (x : Int) => (row_has_1 r) x))) from ok_makeFunc (cts := [tPtr (rSl rpDValue) r]) (caps := [.tmp 2]) cb82 ⟨(ht rfl), trivial⟩ (fun x y h => f82_ok _ _ h))) rfl ?_
  refine RG.op (ok_assign (ht rfl)) rfl ?_
  refine RG.nil ?_
  refine AT.next ?_
  refine CG.seq ?_
  refine CG.region ?_
  refine RG.op (ok_move (ht rfl)) rfl ?_
  refine RG.op (ok_lenSl Try.underlying37 (ht rfl)) rfl ?_
  refine RG.op (ok_leq (ht rfl) hI) rfl ?_
  refine RG.op (ok_move (ht rfl)) rfl ?_
  obtain ⟨t, q_t, h⟩ := bs h
  refine RG.opGt rfl rfl rfl rfl (fun hg => ok_move (ht rfl)) ?_
  refine RG.opGt rfl rfl rfl rfl (fun hg => ok_move (ht rfl)) ?_
  obtain ⟨r1, h1t, h0t⟩ := og q_t
  have q_r1g := fun hb => (h1t hb).1
  refine RG.opGt rfl rfl rfl rfl (fun hg => ok_call cb65 (f65_ok _ _ (q_r1g hg)) ⟨(htO rfl hg), (htO rfl hg), trivial⟩) ?_
  refine RG.opGt rfl rfl rfl rfl (fun hg => ok_not (htO rfl hg)) ?_
  refine RG.op (ok_pickAndM (ht rfl) (fun hb => (htO rfl hb)) (fun hb => (h1t hb).2) h0t) rfl ?_
  refine RG.op (ok_assign (ht rfl)) rfl ?_
  refine RG.nil ?_
  refine AT.next ?_
  refine CG.ret ?_
  cases so h
  exact AT.ret1 rfl rfl

set_option maxRecDepth 100000 in
theorem f41_ok (l : (List (List DValue))) (columns : (List Int)) {R : Int} (h : row_asked l columns = some R) : Spec Try.prog 41 [tD (rSl (rSl rpDValue)) l, tD (rSl (rI .i64)) columns] (tD (rI .i64) R) := by
  refine Spec.of Try.func41 rfl rfl rfl fun w0 S0 => ?_
  refine CG.seq ?_
  refine CG.region ?_
  refine RG.op (ok_assign hI) rfl ?_
  refine RG.nil ?_
  refine AT.next ?_
  refine CG.seq ?_
  refine CG.seq ?_
  refine CG.region ?_
  refine RG.op (ok_move (ht rfl)) rfl ?_
  refine RG.op (ok_buildSlice (r := (rSl (rSl rpDValue))) (ys := [l]) (xs := [.tmp 9]) Try.underlying58 ti22 rfl rfl rfl rfl rfl ⟨(ht rfl), trivial⟩) rfl ?_
  obtain ⟨r, q_r, h⟩ := bs h
  refine RG.op (ok_call cb47 (f47_ok _ q_r) ⟨(ht rfl), trivial⟩) rfl ?_
  refine RG.op (ok_assign (ht rfl)) rfl ?_
  refine RG.nil ?_
  refine AT.next ?_
  refine CG.seq ?_
  refine CG.region ?_
  refine RG.op (ok_move (ht rfl)) rfl ?_
  refine RG.op (ok_neqI (ht rfl) hI) rfl ?_
  refine RG.nil ?_
  refine AT.next ?_
  refine CG.cond (ht rfl) (fun hc => ?_) (fun hc => ?_)
  · have h := ct h hc
    refine CG.seq ?_
    refine CG.region ?_
    refine RG.op (ok_move (ht rfl)) rfl ?_
    refine RG.op (ok_assign (ht rfl)) rfl ?_
    refine RG.nil ?_
    refine AT.next ?_
    refine CG.ret ?_
    refine AT.then_ret ?_
    cases so h
    exact AT.ret1 rfl rfl
  · have h := cf h hc
    refine CG.skip ?_
    refine AT.next ?_
    refine CG.seq ?_
    refine CG.region ?_
    refine RG.op (ok_assign (show HasTy _ _ _ ((tFun Try.prog (fun (x : Int) => [tD (rI .i64) x]) (fun (x : Bool) => tD rB x) (fun (x : Int) => row_asked_1 x))) from (hFn cb64 fun x y h => f64_ok _ h))) rfl ?_
    refine RG.nil ?_
    refine AT.next ?_
    refine CG.seq ?_
    refine CG.seq ?_
    refine CG.region ?_
    refine RG.op (ok_move (ht rfl)) rfl ?_
    refine RG.op (ok_lenSl Try.underlying37 (ht rfl)) rfl ?_
    refine RG.op (ok_gtr (ht rfl) hI) rfl ?_
    refine RG.op (ok_move (ht rfl)) rfl ?_
    obtain ⟨t, q_t, h⟩ := bs h
    refine RG.opGf rfl rfl rfl rfl (fun hg => ok_move (ht rfl)) ?_
    refine RG.opGf rfl rfl rfl rfl (fun hg => ok_move (ht rfl)) ?_
    obtain ⟨r1, h1t, h0t⟩ := og q_t
    have q_r1g := fun hb => (h1t hb).1
    refine RG.opGf rfl rfl rfl rfl (fun hg => ok_call cb65 (f65_ok _ _ (q_r1g hg)) ⟨(htO rfl hg), (htO rfl hg), trivial⟩) ?_
    refine RG.op (ok_pickOrM (ht rfl) (fun hb => (htO rfl (noti hb))) (fun hb => (h1t hb).2) h0t) rfl ?_
    refine RG.nil ?_
    refine AT.next ?_
    refine CG.cond (ht rfl) (fun hc => ?_) (fun hc => ?_)
    · have h := ct h hc
      refine CG.seq ?_
      refine CG.region ?_
      refine RG.op (ok_assign hI) rfl ?_
      refine RG.nil ?_
      refine AT.next ?_
      refine CG.ret ?_
      refine AT.then_ret ?_
      cases so h
      exact AT.ret1 rfl rfl
    · have h := cf h hc
      refine CG.skip ?_
      refine AT.next ?_
      refine CG.seq ?_
      refine CG.seq ?_
      refine CG.region ?_
      refine RG.op (ok_move (ht rfl)) rfl ?_
      refine RG.op (ok_lenSl Try.underlying22 (ht rfl)) rfl ?_
      refine RG.op (ok_move hI) rfl ?_
      refine RG.nil ?_
      refine AT.next ?_
      refine CG.block ?_
      refine CG.have_len (k := 23) rfl (fun hN => ?_)
      refine CG.loop ?_
      refine LG.sub (LG.list1 (Z := fun ls i  => (l.drop i = ls) ∧ row_asked_l1 columns ls  = some R) (Of := fun _ i  => []) (Gf := fun _ i  => [(1, tD (rSl (rI .i64)) columns), (23, tD (rSl (rSl rpDValue)) l), (24, tD (rI .i64) (l.length : Int)), (25, tD (rI .i64) (i : Int))]) (fun i  h => ?_) (fun e tl ih i  h => ?_) l 0  ⟨rfl, h⟩) ⟨rfl, rfl, rfl, rfl, trivial⟩
      · obtain ⟨hx, h⟩ := h
        refine LG.unfold ?_
        refine CG.seq ?_
        refine CG.region ?_
        refine RG.op (ok_lss (ht rfl) (ht rfl)) rfl ?_
        refine RG.nil ?_
        refine AT.next ?_
        refine CG.seq ?_
        refine CG.condF (ht rfl) (dropF hx) ?_
        refine CG.exit ?_
        refine AT.then_exit (AT.then_exit (AT.in_exit ?_))
        refine AT.next ?_
        refine CG.seq ?_
        refine CG.region ?_
        refine RG.op (ok_assign hI) rfl ?_
        refine RG.nil ?_
        refine AT.next ?_
        refine CG.ret ?_
        cases so h
        exact AT.ret1 rfl rfl
      · obtain ⟨hx, h⟩ := h
        refine LG.unfold ?_
        refine CG.seq ?_
        refine CG.region ?_
        refine RG.op (ok_lss (ht rfl) (ht rfl)) rfl ?_
        refine RG.nil ?_
        refine AT.next ?_
        refine CG.seq ?_
        refine CG.condT (ht rfl) (dropT hx) ?_
        refine CG.skip ?_
        refine AT.next ?_
        refine CG.seq ?_
        refine CG.block ?_
        refine CG.seq ?_
        refine CG.region ?_
        refine RG.op (ok_indexAddr Try.underlying22 ti26 rfl (ht rfl) (ht rfl) (dropI hx)) rfl ?_
        refine RG.op (ok_load ti26 rfl rfl (ht rfl)) rfl ?_
        refine RG.op (ok_assign (ht rfl)) rfl ?_
        refine RG.nil ?_
        refine AT.next ?_
        refine CG.seq ?_
        refine CG.region ?_
        refine RG.op (ok_move (ht rfl)) rfl ?_
        refine RG.op (ok_move (ht rfl)) rfl ?_
        obtain ⟨r2, q_r2, h⟩ := bs h
        refine RG.op (ok_call cb66 (f66_ok _ _ q_r2) ⟨(ht rfl), (ht rfl), trivial⟩) rfl ?_
        refine RG.op (ok_not (ht rfl)) rfl ?_
        refine RG.nil ?_
        refine AT.next ?_
        refine CG.cond (ht rfl) (fun hc => ?_) (fun hc => ?_)
        · have h := ct h hc
          refine CG.seq ?_
          refine CG.region ?_
          refine RG.op (ok_assign hI) rfl ?_
          refine RG.nil ?_
          refine AT.next ?_
          refine CG.ret ?_
          refine AT.in_ret (AT.then_ret (AT.then_ret (AT.in_ret (AT.then_ret ?_))))
          cases so h
          exact AT.ret1 rfl rfl
        · have h := cf h hc
          refine CG.skip ?_
          refine AT.in_normal ?_
          refine AT.next ?_
          refine CG.region ?_
          refine RG.op (ok_incN (dropL hx hN) (ht rfl) hI) rfl ?_
          refine RG.op (ok_move (ht rfl)) rfl ?_
          refine RG.nil ?_
          exact AT.round (LG.sub (ih (i + 1)  ⟨dropS hx, h⟩) ⟨rfl, rfl, rfl, rfl, trivial⟩)

set_option maxRecDepth 100000 in
theorem f42_own (r : (List DValue)) (columns : (List Int)) {R : (List DValue)} (h : row_take r columns = some R) : SpecO Try.prog 42 [tD (rSl rpDValue) r, tD (rSl (rI .i64)) columns] false rpDValue 33 R := by
  refine SpecO.of Try.func42 rfl rfl rfl fun w0 S0 => ?_
  refine CG.seq ?_
  refine CG.region ?_
  refine RG.fresh false rpDValue 33 ?_
  refine RG.op (ok_assign hVn) rfl ?_
  refine RG.nil ?_
  refine AT.next ?_
  refine CG.seq ?_
  refine CG.region ?_
  refine RG.fresh false rpDValue 33 ?_
  refine RG.op (ok_assign hVn) rfl ?_
  refine RG.nil ?_
  refine AT.next ?_
  refine CG.seq ?_
  refine CG.seq ?_
  refine CG.region ?_
  refine RG.op (ok_move (ht rfl)) rfl ?_
  refine RG.op (ok_lenSl Try.underlying37 (ht rfl)) rfl ?_
  refine RG.op (ok_move hI) rfl ?_
  refine RG.nil ?_
  refine AT.next ?_
  refine CG.block ?_
  refine CG.have_len (k := 8) rfl (fun hN => ?_)
  refine CG.loop ?_
  refine LG.front1 ?_
  refine LG.drop ?_
  refine LG.sub (LG.list4 (Z := fun ls i out l c => (columns.drop i = ls) ∧ row_take_l1 r ls out = some R) (Of := fun _ i out l c => [arr rpDValue 33 l c out]) (Gf := fun _ i out l c => [(0, tD (rSl rpDValue) r), (5, tV (oslV l c out.length)), (8, tD (rSl (rI .i64)) columns), (9, tD (rI .i64) (columns.length : Int)), (10, tD (rI .i64) (i : Int))]) (fun i out l c h => ?_) (fun e tl ih i out l c h => ?_) columns 0 ([] : List DValue) none 0 ⟨rfl, h⟩) ⟨rfl, rfl, rfl, rfl, rfl, trivial⟩
  · obtain ⟨hx, h⟩ := h
    refine LG.unfold ?_
    refine CG.seq ?_
    refine CG.region ?_
    refine RG.op (ok_lss (ht rfl) (ht rfl)) rfl ?_
    refine RG.nil ?_
    refine AT.next ?_
    refine CG.seq ?_
    refine CG.condF (ht rfl) (dropF hx) ?_
    refine CG.exit ?_
    refine AT.then_exit (AT.then_exit (AT.in_exit ?_))
    refine AT.next ?_
    refine CG.seq ?_
    refine CG.region ?_
    refine RG.op (ok_move (ht rfl)) rfl ?_
    refine RG.op (ok_assign (ht rfl)) rfl ?_
    refine RG.nil ?_
    refine AT.next ?_
    refine CG.ret ?_
    cases so h
    exact AT.retO rfl rfl
  · obtain ⟨hx, h⟩ := h
    refine LG.unfold ?_
    refine CG.seq ?_
    refine CG.region ?_
    refine RG.op (ok_lss (ht rfl) (ht rfl)) rfl ?_
    refine RG.nil ?_
    refine AT.next ?_
    refine CG.seq ?_
    refine CG.condT (ht rfl) (dropT hx) ?_
    refine CG.skip ?_
    refine AT.next ?_
    refine CG.seq ?_
    refine CG.block ?_
    refine CG.seq ?_
    refine CG.region ?_
    refine RG.op (ok_indexAddr Try.underlying37 ti3 rfl (ht rfl) (ht rfl) (dropI hx)) rfl ?_
    refine RG.op (ok_load ti3 rfl rfl (ht rfl)) rfl ?_
    refine RG.op (ok_assign (ht rfl)) rfl ?_
    refine RG.nil ?_
    refine AT.next ?_
    refine CG.region ?_
    refine RG.op (ok_move (ht rfl)) rfl ?_
    refine RG.op (ok_move (ht rfl)) rfl ?_
    refine RG.op (ok_move (ht rfl)) rfl ?_
    obtain ⟨e1, q_e1, h⟩ := bs h
    refine RG.op (ok_indexAddr Try.underlying26 ti33 rfl (ht rfl) (ht rfl) q_e1) rfl ?_
    refine RG.op (ok_load ti33 rfl rfl (ht rfl)) rfl ?_
    refine RG.op (ok_buildSlice (r := rpDValue) (ys := [e1]) (xs := [.tmp 18]) Try.underlying26 ti33 rfl rfl rfl rfl rfl ⟨(ht rfl), trivial⟩) rfl ?_
    obtain ⟨out1, q_out1, h⟩ := bs h
    refine RG.append ti33 rfl rfl rfl rfl Try.underlying26 rfl rfl (ht rfl) (ht rfl) q_out1 (fun l1 c1 => ?_)
    refine RG.op (ok_assign (ht rfl)) rfl ?_
    refine RG.nil ?_
    refine AT.in_normal ?_
    refine AT.next ?_
    refine CG.region ?_
    refine RG.op (ok_incN (dropL hx hN) (ht rfl) hI) rfl ?_
    refine RG.op (ok_move (ht rfl)) rfl ?_
    refine RG.nil ?_
    exact AT.round (LG.sub (ih (i + 1) out1 l1 c1 ⟨dropS hx, h⟩) ⟨rfl, rfl, rfl, rfl, rfl, trivial⟩)
theorem f42_ok (r : (List DValue)) (columns : (List Int)) {R : (List DValue)} (h : row_take r columns = some R) : Spec Try.prog 42 [tD (rSl rpDValue) r, tD (rSl (rI .i64)) columns] (tD (rSl rpDValue) R) := (f42_own _ _ h).spec

set_option maxRecDepth 100000 in
theorem f71_own (s : (List DValue)) {R : (List DValue)} (h : slices_Clone_api_Row_api_Value s = some R) : SpecO Try.prog 71 [tD (rSl rpDValue) s] false rpDValue 33 R := by
  refine SpecO.of Try.func71 rfl rfl rfl fun w0 S0 => ?_
  refine CG.seq ?_
  refine CG.region ?_
  refine RG.fresh false rpDValue 33 ?_
  refine RG.op (ok_assign hVn) rfl ?_
  refine RG.nil ?_
  refine AT.next ?_
  refine CG.seq ?_
  refine CG.seq ?_
  refine CG.region ?_
  refine RG.op (ok_move (ht rfl)) rfl ?_
  refine RG.isNil Try.underlying26 (ht rfl) rfl (fun isnil hisnil => ?_)
  refine RG.nil ?_
  refine AT.next ?_
  refine CG.cond (ht rfl) (fun hc => ?_) (fun hc => ?_)
  · have hx := hisnil hc
    have h : some ([] : List DValue) = some R := by simpa [slices_Clone_api_Row_api_Value, app, hx] using h
    refine CG.seq ?_
    refine CG.region ?_
    refine RG.fresh false rpDValue 33 ?_
    refine RG.op (ok_assign hVn) rfl ?_
    refine RG.nil ?_
    refine AT.next ?_
    refine CG.ret ?_
    refine AT.then_ret ?_
    cases so h
    exact AT.retO rfl rfl
  · refine CG.skip ?_
    refine AT.next ?_
    refine CG.seq ?_
    refine CG.region ?_
    refine RG.buildOwn (r := rpDValue) (ys := ([] : List DValue)) (xs := []) Try.underlying26 ti33 rfl rfl rfl rfl rfl trivial rfl (fun l c => ?_)
    refine RG.op (ok_move (ht rfl)) rfl ?_
    obtain ⟨x, q_x, h⟩ := bs h
    refine RG.append ti33 rfl rfl rfl rfl Try.underlying26 rfl rfl (ht rfl) (ht rfl) q_x (fun l1 c1 => ?_)
    refine RG.op (ok_assign (ht rfl)) rfl ?_
    refine RG.nil ?_
    refine AT.next ?_
    refine CG.ret ?_
    cases so h
    exact AT.retO rfl rfl
theorem f71_ok (s : (List DValue)) {R : (List DValue)} (h : slices_Clone_api_Row_api_Value s = some R) : Spec Try.prog 71 [tD (rSl rpDValue) s] (tD (rSl rpDValue) R) := (f71_own _ h).spec

set_option maxRecDepth 100000 in
theorem f51_own (l : (List (List DValue))) {R : (List (List DValue))} (h : row_copies l = some R) : SpecO Try.prog 51 [tD (rSl (rSl rpDValue)) l] false (rSl rpDValue) 26 R := by
  refine SpecO.of Try.func51 rfl rfl rfl fun w0 S0 => ?_
  refine CG.seq ?_
  refine CG.region ?_
  refine RG.fresh false (rSl rpDValue) 26 ?_
  refine RG.op (ok_assign hVn) rfl ?_
  refine RG.nil ?_
  refine AT.next ?_
  refine CG.seq ?_
  refine CG.region ?_
  refine RG.fresh false (rSl rpDValue) 26 ?_
  refine RG.op (ok_assign hVn) rfl ?_
  refine RG.nil ?_
  refine AT.next ?_
  refine CG.seq ?_
  refine CG.seq ?_
  refine CG.region ?_
  refine RG.op (ok_move (ht rfl)) rfl ?_
  refine RG.op (ok_lenSl Try.underlying22 (ht rfl)) rfl ?_
  refine RG.op (ok_move hI) rfl ?_
  refine RG.nil ?_
  refine AT.next ?_
  refine CG.block ?_
  refine CG.have_len (k := 6) rfl (fun hN => ?_)
  refine CG.loop ?_
  refine LG.front1 ?_
  refine LG.drop ?_
  refine LG.sub (LG.list4 (Z := fun ls i out l1 c => (l.drop i = ls) ∧ row_copies_l1 ls out = some R) (Of := fun _ i out l1 c => [arr (rSl rpDValue) 26 l1 c out]) (Gf := fun _ i out l1 c => [(3, tV (oslV l1 c out.length)), (6, tD (rSl (rSl rpDValue)) l), (7, tD (rI .i64) (l.length : Int)), (8, tD (rI .i64) (i : Int))]) (fun i out l1 c h => ?_) (fun e tl ih i out l1 c h => ?_) l 0 ([] : List (List DValue)) none 0 ⟨rfl, h⟩) ⟨rfl, rfl, rfl, rfl, trivial⟩
  · obtain ⟨hx, h⟩ := h
    refine LG.unfold ?_
    refine CG.seq ?_
    refine CG.region ?_
    refine RG.op (ok_lss (ht rfl) (ht rfl)) rfl ?_
    refine RG.nil ?_
    refine AT.next ?_
    refine CG.seq ?_
    refine CG.condF (ht rfl) (dropF hx) ?_
    refine CG.exit ?_
    refine AT.then_exit (AT.then_exit (AT.in_exit ?_))
    refine AT.next ?_
    refine CG.seq ?_
    refine CG.region ?_
    refine RG.op (ok_move (ht rfl)) rfl ?_
    refine RG.op (ok_assign (ht rfl)) rfl ?_
    refine RG.nil ?_
    refine AT.next ?_
    refine CG.ret ?_
    cases so h
    exact AT.retO rfl rfl
  · obtain ⟨hx, h⟩ := h
    refine LG.unfold ?_
    refine CG.seq ?_
    refine CG.region ?_
    refine RG.op (ok_lss (ht rfl) (ht rfl)) rfl ?_
    refine RG.nil ?_
    refine AT.next ?_
    refine CG.seq ?_
    refine CG.condT (ht rfl) (dropT hx) ?_
    refine CG.skip ?_
    refine AT.next ?_
    refine CG.seq ?_
    refine CG.block ?_
    refine CG.seq ?_
    refine CG.region ?_
    refine RG.op (ok_indexAddr Try.underlying22 ti26 rfl (ht rfl) (ht rfl) (dropI hx)) rfl ?_
    refine RG.op (ok_load ti26 rfl rfl (ht rfl)) rfl ?_
    refine RG.op (ok_assign (ht rfl)) rfl ?_
    refine RG.nil ?_
    refine AT.next ?_
    refine CG.region ?_
    refine RG.op (ok_move (ht rfl)) rfl ?_
    refine RG.op (ok_move (ht rfl)) rfl ?_
    obtain ⟨r, q_r, h⟩ := bs h
    refine RG.callO cb71 (f71_own _ q_r) ⟨(ht rfl), trivial⟩ rfl (fun l2 c1 => ?_)
    refine RG.freeze ?_
    refine RG.tipAt 14 rfl ?_
    refine RG.op (ok_buildSlice (r := (rSl rpDValue)) (ys := [r]) (xs := [.tmp 14]) Try.underlying22 ti26 rfl rfl rfl rfl rfl ⟨(tO_d (ht rfl)), trivial⟩) rfl ?_
    refine RG.front1 ?_
    obtain ⟨out1, q_out1, h⟩ := bs h
    refine RG.append ti26 rfl rfl rfl rfl Try.underlying22 rfl rfl (ht rfl) (ht rfl) q_out1 (fun l3 c2 => ?_)
    refine RG.op (ok_assign (ht rfl)) rfl ?_
    refine RG.nil ?_
    refine AT.in_normal ?_
    refine AT.next ?_
    refine CG.region ?_
    refine RG.op (ok_incN (dropL hx hN) (ht rfl) hI) rfl ?_
    refine RG.op (ok_move (ht rfl)) rfl ?_
    refine RG.nil ?_
    refine AT.front1 ?_
    refine AT.drop ?_
    exact AT.round (LG.sub (ih (i + 1) out1 l3 c2 ⟨dropS hx, h⟩) ⟨rfl, rfl, rfl, rfl, trivial⟩)
theorem f51_ok (l : (List (List DValue))) {R : (List (List DValue))} (h : row_copies l = some R) : Spec Try.prog 51 [tD (rSl (rSl rpDValue)) l] (tD (rSl (rSl rpDValue)) R) := (f51_own _ h).spec

set_option maxRecDepth 100000 in
theorem f53_ok (columns : (List Int)) (a1 : (List DValue)) (b : (List DValue)) {R : Int} (h : row_Groups_1 columns a1 b = some R) : Spec Try.prog 53 [tD (rSl rpDValue) a1, tD (rSl rpDValue) b, tPtr (rSl (rI .i64)) columns] (tD (rI .i64) R) := by
  refine Spec.of Try.func53 rfl rfl rfl fun w0 S0 => ?_
  refine CG.seq ?_
  refine CG.region ?_
  refine RG.op (ok_assign hI) rfl ?_
  refine RG.nil ?_
  refine AT.next ?_
  refine CG.seq ?_
  obtain ⟨r, q_r, h⟩ := bs h
  obtain ⟨r1, q_r1, h⟩ := bs h
  obtain ⟨r2, q_r2, h⟩ := bs h
  obtain ⟨r3, q_r3, h⟩ := bs h
  obtain ⟨r4, q_r4, h⟩ := bs h
  refine CG.draw (ts := [tD (rSl rpDValue) a1, tD (rSl (rI .i64)) columns, tD (rSl rpDValue) r, tD (rSl rpDValue) b, tD (rSl (rI .i64)) columns, tD (rSl rpDValue) r1, tD (rI .i64) r2, tD (rSl rpDValue) a1, tD (rSl rpDValue) b, tD (rI .i64) r3, tD (rSl (rI .i64)) ([r2, r3]), tD (rI .i64) r4, tD (rI .i64) r4]) mixed rfl rfl
    ⟨⟨[⟨0, _, none⟩], _, rfl, ⟨rfl, trivial⟩, rfl, rfl, OpG.plain rfl (ok_move (ht rfl))⟩,
    ⟨⟨[⟨2, _, none⟩], _, rfl, ⟨rfl, trivial⟩, rfl, rfl, OpG.plain rfl (ok_load ti37 rfl rfl (ht rfl))⟩,
    ⟨⟨[⟨6, _, some 0⟩, ⟨7, _, some 1⟩], _, rfl, ⟨rfl, rfl, trivial⟩, rfl, rfl, OpG.plain rfl (ok_call cb42 (f42_ok _ _ q_r) ⟨(ht rfl), (ht rfl), trivial⟩)⟩,
    ⟨⟨[⟨1, _, none⟩], _, rfl, ⟨rfl, trivial⟩, rfl, rfl, OpG.plain rfl (ok_move (ht rfl))⟩,
    ⟨⟨[⟨2, _, none⟩], _, rfl, ⟨rfl, trivial⟩, rfl, rfl, OpG.plain rfl (ok_load ti37 rfl rfl (ht rfl))⟩,
    ⟨⟨[⟨9, _, some 3⟩, ⟨10, _, some 4⟩], _, rfl, ⟨rfl, rfl, trivial⟩, rfl, rfl, OpG.plain rfl (ok_call cb42 (f42_ok _ _ q_r1) ⟨(ht rfl), (ht rfl), trivial⟩)⟩,
    ⟨⟨[⟨8, _, some 2⟩, ⟨11, _, some 5⟩], _, rfl, ⟨rfl, rfl, trivial⟩, rfl, rfl, OpG.plain rfl (ok_call cb38 (f38_ok _ _ q_r2) ⟨(ht rfl), (ht rfl), trivial⟩)⟩,
    ⟨⟨[⟨0, _, none⟩], _, rfl, ⟨rfl, trivial⟩, rfl, rfl, OpG.plain rfl (ok_move (ht rfl))⟩,
    ⟨⟨[⟨1, _, none⟩], _, rfl, ⟨rfl, trivial⟩, rfl, rfl, OpG.plain rfl (ok_move (ht rfl))⟩,
    ⟨⟨[⟨13, _, some 7⟩, ⟨14, _, some 8⟩], _, rfl, ⟨rfl, rfl, trivial⟩, rfl, rfl, OpG.plain rfl (ok_call cb38 (f38_ok _ _ q_r3) ⟨(ht rfl), (ht rfl), trivial⟩)⟩,
    ⟨⟨[⟨12, _, some 6⟩, ⟨15, _, some 9⟩], _, rfl, ⟨rfl, rfl, trivial⟩, rfl, rfl, OpG.plain rfl (ok_buildSlice (r := (rI .i64)) (ys := [r2, r3]) (xs := [.tmp 12, .tmp 15]) Try.underlying37 ti3 rfl rfl rfl rfl rfl ⟨(ht rfl), (ht rfl), trivial⟩)⟩,
    ⟨⟨[⟨16, _, some 10⟩], _, rfl, ⟨rfl, trivial⟩, rfl, rfl, OpG.plain rfl (ok_call cb54 (f54_ok _ q_r4) ⟨(ht rfl), trivial⟩)⟩,
    ⟨⟨[⟨17, _, some 11⟩], _, rfl, ⟨rfl, trivial⟩, rfl, rfl, OpG.plain rfl (ok_assign (ht rfl))⟩,
    trivial⟩⟩⟩⟩⟩⟩⟩⟩⟩⟩⟩⟩⟩ ?_
  refine AT.next ?_
  refine CG.ret ?_
  cases so h
  exact AT.ret1 rfl rfl

set_option maxRecDepth 100000 in
theorem f63_ok (s1 : (List DValue)) (s2 : (List DValue)) {R : Bool} (h : slices_Equal_api_Row_api_Value s1 s2 = some R) : Spec Try.prog 63 [tD (rSl rpDValue) s1, tD (rSl rpDValue) s2] (tD rB R) := by
  refine Spec.of Try.func63 rfl rfl rfl fun w0 S0 => ?_
  refine CG.seq ?_
  refine CG.region ?_
  refine RG.op (ok_assign hB) rfl ?_
  refine RG.nil ?_
  refine AT.next ?_
  refine CG.seq ?_
  refine CG.seq ?_
  refine CG.region ?_
  refine RG.op (ok_move (ht rfl)) rfl ?_
  refine RG.op (ok_lenSl Try.underlying26 (ht rfl)) rfl ?_
  refine RG.op (ok_move (ht rfl)) rfl ?_
  refine RG.op (ok_lenSl Try.underlying26 (ht rfl)) rfl ?_
  refine RG.op (ok_neqI (ht rfl) (ht rfl)) rfl ?_
  refine RG.nil ?_
  refine AT.next ?_
  refine CG.cond (ht rfl) (fun hc => ?_) (fun hc => ?_)
  · have h := ct h hc
    refine CG.seq ?_
    refine CG.region ?_
    refine RG.op (ok_assign hB) rfl ?_
    refine RG.nil ?_
    refine AT.next ?_
    refine CG.ret ?_
    refine AT.then_ret ?_
    cases so h
    exact AT.ret1 rfl rfl
  · have h := cf h hc
    refine CG.skip ?_
    refine AT.next ?_
    refine CG.seq ?_
    refine CG.seq ?_
    refine CG.region ?_
    refine RG.op (ok_move (ht rfl)) rfl ?_
    refine RG.op (ok_lenSl Try.underlying26 (ht rfl)) rfl ?_
    refine RG.op (ok_move hI) rfl ?_
    refine RG.nil ?_
    refine AT.next ?_
    refine CG.block ?_
    refine CG.have_len (k := 11) rfl (fun hN => ?_)
    refine CG.loop ?_
    refine LG.sub (LG.list1 (Z := fun ls i  => (s1.drop i = ls) ∧ slices_Equal_api_Row_api_Value_l1 s2 ls i  = some R) (Of := fun _ i  => []) (Gf := fun _ i  => [(0, tD (rSl rpDValue) s1), (1, tD (rSl rpDValue) s2), (12, tD (rI .i64) (s1.length : Int)), (13, tD (rI .i64) (i : Int))]) (fun i  h => ?_) (fun e tl ih i  h => ?_) s1 0  ⟨rfl, h⟩) ⟨rfl, rfl, rfl, rfl, trivial⟩
    · obtain ⟨hx, h⟩ := h
      refine LG.unfold ?_
      refine CG.seq ?_
      refine CG.region ?_
      refine RG.op (ok_lss (ht rfl) (ht rfl)) rfl ?_
      refine RG.nil ?_
      refine AT.next ?_
      refine CG.seq ?_
      refine CG.condF (ht rfl) (dropF hx) ?_
      refine CG.exit ?_
      refine AT.then_exit (AT.then_exit (AT.in_exit ?_))
      refine AT.next ?_
      refine CG.seq ?_
      refine CG.region ?_
      refine RG.op (ok_assign hB) rfl ?_
      refine RG.nil ?_
      refine AT.next ?_
      refine CG.ret ?_
      cases so h
      exact AT.ret1 rfl rfl
    · obtain ⟨hx, h⟩ := h
      refine LG.unfold ?_
      refine CG.seq ?_
      refine CG.region ?_
      refine RG.op (ok_lss (ht rfl) (ht rfl)) rfl ?_
      refine RG.nil ?_
      refine AT.next ?_
      refine CG.seq ?_
      refine CG.condT (ht rfl) (dropT hx) ?_
      refine CG.skip ?_
      refine AT.next ?_
      refine CG.seq ?_
      refine CG.block ?_
      refine CG.seq ?_
      refine CG.region ?_
      refine RG.op (ok_move (ht rfl)) rfl ?_
      refine RG.op (ok_assign (ht rfl)) rfl ?_
      refine RG.nil ?_
      refine AT.next ?_
      refine CG.seq ?_
      obtain ⟨e1, q_e1, h⟩ := bs h
      refine CG.draw (ts := [tD (rSl rpDValue) s1, tD (rI .i64) (i : Int), tPtr rpDValue e, tD rpDValue e, tD (rSl rpDValue) s2, tD (rI .i64) (i : Int), tPtr rpDValue e1, tD rpDValue e1, tD rB (!decide (e = e1))]) mixed rfl rfl
        ⟨⟨[⟨0, _, none⟩], _, rfl, ⟨rfl, trivial⟩, rfl, rfl, OpG.plain rfl (ok_move (ht rfl))⟩,
        ⟨⟨[⟨5, _, none⟩], _, rfl, ⟨rfl, trivial⟩, rfl, rfl, OpG.plain rfl (ok_move (ht rfl))⟩,
        ⟨⟨[⟨16, _, some 0⟩, ⟨17, _, some 1⟩], _, rfl, ⟨rfl, rfl, trivial⟩, rfl, rfl, OpG.plain rfl (ok_indexAddr Try.underlying26 ti33 rfl (ht rfl) (ht rfl) (dropI hx))⟩,
        ⟨⟨[⟨18, _, some 2⟩], _, rfl, ⟨rfl, trivial⟩, rfl, rfl, OpG.plain rfl (ok_load ti33 rfl rfl (ht rfl))⟩,
        ⟨⟨[⟨1, _, none⟩], _, rfl, ⟨rfl, trivial⟩, rfl, rfl, OpG.plain rfl (ok_move (ht rfl))⟩,
        ⟨⟨[⟨5, _, none⟩], _, rfl, ⟨rfl, trivial⟩, rfl, rfl, OpG.plain rfl (ok_move (ht rfl))⟩,
        ⟨⟨[⟨20, _, some 4⟩, ⟨21, _, some 5⟩], _, rfl, ⟨rfl, rfl, trivial⟩, rfl, rfl, OpG.plain rfl (ok_indexAddr Try.underlying26 ti33 rfl (ht rfl) (ht rfl) q_e1)⟩,
        ⟨⟨[⟨22, _, some 6⟩], _, rfl, ⟨rfl, trivial⟩, rfl, rfl, OpG.plain rfl (ok_load ti33 rfl rfl (ht rfl))⟩,
        ⟨⟨[⟨19, _, some 3⟩, ⟨23, _, some 7⟩], _, rfl, ⟨rfl, rfl, trivial⟩, rfl, rfl, OpG.plain rfl (ok_neqD eq33 (ht rfl) (ht rfl))⟩,
        trivial⟩⟩⟩⟩⟩⟩⟩⟩⟩ ?_
      refine AT.next ?_
      refine CG.cond (ht rfl) (fun hc => ?_) (fun hc => ?_)
      · have h := ct h hc
        refine CG.seq ?_
        refine CG.region ?_
        refine RG.op (ok_assign hB) rfl ?_
        refine RG.nil ?_
        refine AT.next ?_
        refine CG.ret ?_
        refine AT.in_ret (AT.then_ret (AT.then_ret (AT.in_ret (AT.then_ret ?_))))
        cases so h
        exact AT.ret1 rfl rfl
      · have h := cf h hc
        refine CG.skip ?_
        refine AT.in_normal ?_
        refine AT.next ?_
        refine CG.region ?_
        refine RG.op (ok_incN (dropL hx hN) (ht rfl) hI) rfl ?_
        refine RG.op (ok_move (ht rfl)) rfl ?_
        refine RG.nil ?_
        exact AT.round (LG.sub (ih (i + 1)  ⟨dropS hx, h⟩) ⟨rfl, rfl, rfl, rfl, trivial⟩)

set_option maxRecDepth 100000 in
theorem f40_ok (a1 : (List DValue)) (b : (List DValue)) {R : Bool} (h : row_equal a1 b = some R) : Spec Try.prog 40 [tD (rSl rpDValue) a1, tD (rSl rpDValue) b] (tD rB R) := by
  refine Spec.of Try.func40 rfl rfl rfl fun w0 S0 => ?_
  refine CG.seq ?_
  refine CG.region ?_
  refine RG.op (ok_assign hB) rfl ?_
  refine RG.nil ?_
  refine AT.next ?_
  refine CG.seq ?_
  refine CG.region ?_
  refine RG.op (ok_move (ht rfl)) rfl ?_
  refine RG.op (ok_move (ht rfl)) rfl ?_
  obtain ⟨r, q_r, h⟩ := bs h
  refine RG.op (ok_call cb63 (f63_ok _ _ q_r) ⟨(ht rfl), (ht rfl), trivial⟩) rfl ?_
  refine RG.op (ok_assign (ht rfl)) rfl ?_
  refine RG.nil ?_
  refine AT.next ?_
  refine CG.ret ?_
  cases so h
  exact AT.ret1 rfl rfl

set_option maxRecDepth 100000 in
theorem f55_ok (columns : (List Int)) (a1 : (List DValue)) (b : (List DValue)) {R : Bool} (h : row_Groups_2 columns a1 b = some R) : Spec Try.prog 55 [tD (rSl rpDValue) a1, tD (rSl rpDValue) b, tPtr (rSl (rI .i64)) columns] (tD rB R) := by
  refine Spec.of Try.func55 rfl rfl rfl fun w0 S0 => ?_
  refine CG.seq ?_
  refine CG.region ?_
  refine RG.op (ok_assign hB) rfl ?_
  refine RG.nil ?_
  refine AT.next ?_
  refine CG.seq ?_
  obtain ⟨r, q_r, h⟩ := bs h
  obtain ⟨r1, q_r1, h⟩ := bs h
  obtain ⟨r2, q_r2, h⟩ := bs h
  refine CG.draw (ts := [tD (rSl rpDValue) a1, tD (rSl (rI .i64)) columns, tD (rSl rpDValue) r, tD (rSl rpDValue) b, tD (rSl (rI .i64)) columns, tD (rSl rpDValue) r1, tD rB r2, tD rB r2]) mixed rfl rfl
    ⟨⟨[⟨0, _, none⟩], _, rfl, ⟨rfl, trivial⟩, rfl, rfl, OpG.plain rfl (ok_move (ht rfl))⟩,
    ⟨⟨[⟨2, _, none⟩], _, rfl, ⟨rfl, trivial⟩, rfl, rfl, OpG.plain rfl (ok_load ti37 rfl rfl (ht rfl))⟩,
    ⟨⟨[⟨6, _, some 0⟩, ⟨7, _, some 1⟩], _, rfl, ⟨rfl, rfl, trivial⟩, rfl, rfl, OpG.plain rfl (ok_call cb42 (f42_ok _ _ q_r) ⟨(ht rfl), (ht rfl), trivial⟩)⟩,
    ⟨⟨[⟨1, _, none⟩], _, rfl, ⟨rfl, trivial⟩, rfl, rfl, OpG.plain rfl (ok_move (ht rfl))⟩,
    ⟨⟨[⟨2, _, none⟩], _, rfl, ⟨rfl, trivial⟩, rfl, rfl, OpG.plain rfl (ok_load ti37 rfl rfl (ht rfl))⟩,
    ⟨⟨[⟨9, _, some 3⟩, ⟨10, _, some 4⟩], _, rfl, ⟨rfl, rfl, trivial⟩, rfl, rfl, OpG.plain rfl (ok_call cb42 (f42_ok _ _ q_r1) ⟨(ht rfl), (ht rfl), trivial⟩)⟩,
    ⟨⟨[⟨8, _, some 2⟩, ⟨11, _, some 5⟩], _, rfl, ⟨rfl, rfl, trivial⟩, rfl, rfl, OpG.plain rfl (ok_call cb40 (f40_ok _ _ q_r2) ⟨(ht rfl), (ht rfl), trivial⟩)⟩,
    ⟨⟨[⟨12, _, some 6⟩], _, rfl, ⟨rfl, trivial⟩, rfl, rfl, OpG.plain rfl (ok_assign (ht rfl))⟩,
    trivial⟩⟩⟩⟩⟩⟩⟩⟩ ?_
  refine AT.next ?_
  refine CG.ret ?_
  cases so h
  exact AT.ret1 rfl rfl

set_option maxRecDepth 100000 in
theorem f74_it (l : (List (List DValue))) (alike : ((List DValue) → (List DValue) → Option Bool)) (b : Nat) : ItSpec Try.prog 74 (fun (x : (List (List DValue))) => [tD (rSl (rSl rpDValue)) x]) (fun _ => row_runs_1 l alike) [bx (rSl (rSl rpDValue)) 22 b l] [tV (bptr b 0), tPtr (rT (tFun Try.prog (fun (x : (List DValue) × (List DValue)) => [tD (rSl rpDValue) x.1, tD (rSl rpDValue) x.2]) (fun (x : Bool) => tD rB x) (fun (x : (List DValue) × (List DValue)) => alike x.1 x.2))) ()] := by
  refine ItSpec.of Try.func74 rfl rfl rfl fun Sg yld s R h I yv hy e he w0 S0 B hB => ?_
  replace h : row_runs_1 l alike yld s = some R := h
  refine CG.block ?_
  refine CG.loop ?_
  refine LG.front1 ?_
  refine LG.sub (LG.ind3 (Z := fun n e1 s1 x => I s1 e1 ∧ row_runs_1_l1 alike yld n s1 x = some R) (Of := fun e1 s1 x => [bx (rSl (rSl rpDValue)) 22 b x, e1]) (Gf := fun e1 s1 x => [(0, tV yv), (1, tV (bptr b 0)), (2, tPtr (rT (tFun Try.prog (fun (x : (List DValue) × (List DValue)) => [tD (rSl rpDValue) x.1, tD (rSl rpDValue) x.2]) (fun (x : Bool) => tD rB x) (fun (x : (List DValue) × (List DValue)) => alike x.1 x.2))) ())]) (fun e1 s1 x h => nn h.2) (fun n ih e1 s1 x h => ?_) FUEL e s l ⟨he, h⟩) ⟨rfl, rfl, rfl, trivial⟩
  refine LG.unfold ?_
  obtain ⟨he1, h⟩ := h
  refine CG.seq ?_
  refine CG.seq ?_
  refine CG.region ?_
  refine RG.op (ok_loadB ti22 rfl rfl fld_whole (.head _) (ht rfl)) rfl ?_
  refine RG.op (ok_lenSl Try.underlying22 (ht rfl)) rfl ?_
  refine RG.op (ok_gtr (ht rfl) hI) rfl ?_
  refine RG.nil ?_
  refine AT.next ?_
  refine CG.cond (ht rfl) (fun hc => ?_) (fun hc => ?_)
  · have h := ct h hc
    refine CG.skip ?_
    refine AT.next ?_
    refine CG.block ?_
    refine CG.seq ?_
    refine CG.region ?_
    refine RG.op (ok_assign hI) rfl ?_
    refine RG.nil ?_
    refine AT.next ?_
    refine CG.seq ?_
    refine CG.block ?_
    refine CG.loop ?_
    refine LG.sub (LG.ind1 (Z := fun n2 n1 => row_runs_1_l2 alike yld (row_runs_1_l1 alike yld n) s1 x n2 n1 = some R) (Of := fun n1 => [bx (rSl (rSl rpDValue)) 22 b x, e1]) (Gf := fun n1 => [(0, tV yv), (1, tV (bptr b 0)), (2, tPtr (rT (tFun Try.prog (fun (x : (List DValue) × (List DValue)) => [tD (rSl rpDValue) x.1, tD (rSl rpDValue) x.2]) (fun (x : Bool) => tD rB x) (fun (x : (List DValue) × (List DValue)) => alike x.1 x.2))) ()), (4, tD (rI .i64) n1)]) (fun n1 h => nn h) (fun n2 ih1 n1 h => ?_) FUEL (1 : Int) h) ⟨rfl, rfl, rfl, rfl, trivial⟩
    refine LG.unfold ?_
    refine CG.seq ?_
    refine CG.seq ?_
    obtain ⟨t, q_t, h⟩ := bs h
    obtain ⟨e2, h1t, h0t⟩ := og q_t
    have q_e2g := fun hb => (h1t hb).1
    obtain ⟨e3, h1t⟩ := og2 (fun hb => (h1t hb).2)
    have q_e3g := fun hb => (h1t hb).1
    obtain ⟨r, h1t⟩ := og2 (fun hb => (h1t hb).2)
    have q_rg := fun hb => (h1t hb).1
    refine CG.draw (ts := [tD (rI .i64) n1, tD (rSl (rSl rpDValue)) x, tD (rI .i64) (x.length : Int), tD rB (decide (n1 < (x.length : Int))), tD rB (decide (n1 < (x.length : Int))), tOpt (decide (n1 < (x.length : Int))) ((tFun Try.prog (fun (x : (List DValue) × (List DValue)) => [tD (rSl rpDValue) x.1, tD (rSl rpDValue) x.2]) (fun (x : Bool) => tD rB x) (fun (x : (List DValue) × (List DValue)) => alike x.1 x.2))), tOpt (decide (n1 < (x.length : Int))) (tD (rSl (rSl rpDValue)) x), tOpt (decide (n1 < (x.length : Int))) (tPtr (rSl rpDValue) e2), tOpt (decide (n1 < (x.length : Int))) (tD (rSl rpDValue) e2), tOpt (decide (n1 < (x.length : Int))) (tD (rSl (rSl rpDValue)) x), tOpt (decide (n1 < (x.length : Int))) (tD (rI .i64) n1), tOpt (decide (n1 < (x.length : Int))) (tPtr (rSl rpDValue) e3), tOpt (decide (n1 < (x.length : Int))) (tD (rSl rpDValue) e3), tOpt (decide (n1 < (x.length : Int))) (tD rB r), tD rB t]) mixed rfl rfl
      ⟨⟨[⟨4, _, none⟩], _, rfl, ⟨rfl, trivial⟩, rfl, rfl, OpG.plain rfl (ok_move (ht rfl))⟩,
      ⟨⟨[⟨1, _, none⟩], _, rfl, ⟨rfl, trivial⟩, rfl, rfl, OpG.plain rfl (ok_loadB ti22 rfl rfl fld_whole (.head _) (ht rfl))⟩,
      ⟨⟨[⟨9, _, some 1⟩], _, rfl, ⟨rfl, trivial⟩, rfl, rfl, OpG.plain rfl (ok_lenSl Try.underlying22 (ht rfl))⟩,
      ⟨⟨[⟨8, _, some 0⟩, ⟨10, _, some 2⟩], _, rfl, ⟨rfl, rfl, trivial⟩, rfl, rfl, OpG.plain rfl (ok_lss (ht rfl) (ht rfl))⟩,
      ⟨⟨[⟨11, _, some 3⟩], _, rfl, ⟨rfl, trivial⟩, rfl, rfl, OpG.plain rfl (ok_move (ht rfl))⟩,
      ⟨⟨[⟨2, _, none⟩, ⟨12, _, some 4⟩], _, rfl, ⟨rfl, rfl, trivial⟩, rfl, rfl, OpG.gt rfl rfl rfl rfl (fun hg => ok_loadF ti67 (ht rfl))⟩,
      ⟨⟨[⟨1, _, none⟩, ⟨12, _, some 4⟩], _, rfl, ⟨rfl, rfl, trivial⟩, rfl, rfl, OpG.gt rfl rfl rfl rfl (fun hg => ok_loadB ti22 rfl rfl fld_whole (.head _) (ht rfl))⟩,
      ⟨⟨[⟨14, _, some 6⟩, ⟨12, _, some 4⟩], _, rfl, ⟨rfl, rfl, trivial⟩, rfl, rfl, OpG.gt rfl rfl rfl rfl (fun hg => ok_indexAddr Try.underlying22 ti26 rfl (htO rfl hg) hI (q_e2g hg))⟩,
      ⟨⟨[⟨15, _, some 7⟩, ⟨12, _, some 4⟩], _, rfl, ⟨rfl, rfl, trivial⟩, rfl, rfl, OpG.gt rfl rfl rfl rfl (fun hg => ok_load ti26 rfl rfl (htO rfl hg))⟩,
      ⟨⟨[⟨1, _, none⟩, ⟨12, _, some 4⟩], _, rfl, ⟨rfl, rfl, trivial⟩, rfl, rfl, OpG.gt rfl rfl rfl rfl (fun hg => ok_loadB ti22 rfl rfl fld_whole (.head _) (ht rfl))⟩,
      ⟨⟨[⟨4, _, none⟩, ⟨12, _, some 4⟩], _, rfl, ⟨rfl, rfl, trivial⟩, rfl, rfl, OpG.gt rfl rfl rfl rfl (fun hg => ok_move (ht rfl))⟩,
      ⟨⟨[⟨17, _, some 9⟩, ⟨18, _, some 10⟩, ⟨12, _, some 4⟩], _, rfl, ⟨rfl, rfl, rfl, trivial⟩, rfl, rfl, OpG.gt rfl rfl rfl rfl (fun hg => ok_indexAddr Try.underlying22 ti26 rfl (htO rfl hg) (htO rfl hg) (q_e3g hg))⟩,
      ⟨⟨[⟨19, _, some 11⟩, ⟨12, _, some 4⟩], _, rfl, ⟨rfl, rfl, trivial⟩, rfl, rfl, OpG.gt rfl rfl rfl rfl (fun hg => ok_load ti26 rfl rfl (htO rfl hg))⟩,
      ⟨⟨[⟨13, _, some 5⟩, ⟨16, _, some 8⟩, ⟨20, _, some 12⟩, ⟨12, _, some 4⟩], _, rfl, ⟨rfl, rfl, rfl, rfl, trivial⟩, rfl, rfl, OpG.gt rfl rfl rfl rfl (fun hg => ok_callV (x := ((e2, e3) : (List DValue) × (List DValue))) (htO rfl hg) (q_rg hg) ⟨(htO rfl hg), (htO rfl hg), trivial⟩)⟩,
      ⟨⟨[⟨12, _, some 4⟩, ⟨21, _, some 13⟩], _, rfl, ⟨rfl, rfl, trivial⟩, rfl, rfl, OpG.plain rfl (ok_pickAndM (ht rfl) (fun hb => (htO rfl hb)) (fun hb => (h1t hb).2) h0t)⟩,
      trivial⟩⟩⟩⟩⟩⟩⟩⟩⟩⟩⟩⟩⟩⟩⟩ ?_
    refine AT.next ?_
    refine CG.cond (ht rfl) (fun hc => ?_) (fun hc => ?_)
    · have h := ct h hc
      refine CG.skip ?_
      refine AT.next ?_
      refine CG.block ?_
      refine CG.region ?_
      refine RG.op (ok_move (ht rfl)) rfl ?_
      refine RG.op (ok_add (ht rfl) hI) rfl ?_
      refine RG.op (ok_assign (ht rfl)) rfl ?_
      refine RG.nil ?_
      refine AT.in_normal ?_
      exact AT.round (LG.sub (ih1 (IntKind.i64.wrap (n1 + (1 : Int))) h) ⟨rfl, rfl, rfl, rfl, trivial⟩)
    · have h := cf h hc
      refine CG.exit ?_
      refine AT.then_exit (AT.then_exit (AT.in_exit ?_))
      refine AT.next ?_
      refine CG.seq ?_
      refine CG.seq ?_
      refine CG.region ?_
      refine RG.op (ok_move (ht rfl)) rfl ?_
      refine RG.op (ok_loadB ti22 rfl rfl fld_whole (.head _) (ht rfl)) rfl ?_
      refine RG.op (ok_move (ht rfl)) rfl ?_
      obtain ⟨y, q_y, h⟩ := bs h
      refine RG.op (ok_sliceHi Try.underlying22 ti26 rfl (ht rfl) (ht rfl) q_y) rfl ?_
      refine RG.front1 ?_
      obtain ⟨r1, q_r1, h⟩ := bs h
      refine RG.yield hy he1 q_r1 (ht rfl) ⟨(ht rfl), trivial⟩ rfl (fun e4 he2 => ?_)
      refine RG.op (ok_not (ht rfl)) rfl ?_
      refine RG.nil ?_
      refine AT.next ?_
      refine CG.cond (ht rfl) (fun hc => ?_) (fun hc => ?_)
      · have h := ct h hc
        refine CG.ret ?_
        refine AT.then_ret (AT.in_ret (AT.then_ret (AT.in_ret ?_)))
        refine AT.front1 ?_
        refine AT.front1 ?_
        cases so h
        exact AT.retI rfl he2 hB ⟨fun _ h => h, trivial⟩
      · have h := cf h hc
        refine CG.skip ?_
        refine AT.next ?_
        refine CG.region ?_
        refine RG.op (ok_loadB ti22 rfl rfl fld_whole (.tail _ (.head _)) (ht rfl)) rfl ?_
        refine RG.op (ok_move (ht rfl)) rfl ?_
        obtain ⟨y1, q_y1, h⟩ := bs h
        refine RG.op (ok_sliceLo Try.underlying22 ti26 rfl (ht rfl) (ht rfl) q_y1) rfl ?_
        refine RG.front1 ?_
        refine RG.storeB ti22 rfl sfld_whole rfl (ht rfl) (ht rfl) ?_
        refine RG.nil ?_
        refine AT.in_normal ?_
        exact AT.round (LG.sub (ih e4 r1.2 y1 ⟨he2, h⟩) ⟨rfl, rfl, rfl, trivial⟩)
  · have h := cf h hc
    refine CG.exit ?_
    refine AT.then_exit (AT.then_exit (AT.in_exit ?_))
    refine AT.front1 ?_
    cases so h
    exact AT.normI rfl he1 hB ⟨fun _ h => h, trivial⟩

set_option maxRecDepth 100000 in
theorem f56_itr (l : (List (List DValue))) (alike : ((List DValue) → (List DValue) → Option Bool)) {R : It (List (List DValue))} (h : row_runs l alike = some R) : SpecIt Try.prog 56 [tD (rSl (rSl rpDValue)) l, (tFun Try.prog (fun (x : (List DValue) × (List DValue)) => [tD (rSl rpDValue) x.1, tD (rSl rpDValue) x.2]) (fun (x : Bool) => tD rB x) (fun (x : (List DValue) × (List DValue)) => alike x.1 x.2))] (fun (x : (List (List DValue))) => [tD (rSl (rSl rpDValue)) x]) R := by
  refine SpecIt.of Try.func56 rfl rfl rfl fun w0 S0 => ?_
  refine CG.seq ?_
  refine CG.region ?_
  refine RG.boxO (ht rfl) rfl (fun b => ?_)
  refine RG.op (ok_boxF (ht rfl)) rfl ?_
  refine RG.op (ok_assign hV) rfl ?_
  refine RG.nil ?_
  refine AT.next ?_
  refine CG.seq ?_
  refine CG.region ?_
  refine RG.makeIter (O1 := [bx (rSl (rSl rpDValue)) 22 b l]) (cts := [tV (bptr b 0), tPtr (rT (tFun Try.prog (fun (x : (List DValue) × (List DValue)) => [tD (rSl rpDValue) x.1, tD (rSl rpDValue) x.2]) (fun (x : Bool) => tD rB x) (fun (x : (List DValue) × (List DValue)) => alike x.1 x.2))) ()]) (caps := [.tmp 2, .tmp 3]) rfl cb74 (f74_it l alike b) ⟨(ht rfl), (ht rfl), trivial⟩ rfl (fun v fp => ?_)
  refine RG.op (ok_assign (ht rfl)) rfl ?_
  refine RG.nil ?_
  refine AT.next ?_
  refine CG.ret ?_
  cases so h
  exact AT.retIt rfl rfl

set_option maxRecDepth 100000 in
theorem f57_own (s : (List (List DValue))) {R : (List (List DValue))} (h : slices_Clone_api_Row_api_Row s = some R) : SpecO Try.prog 57 [tD (rSl (rSl rpDValue)) s] false (rSl rpDValue) 26 R := by
  refine SpecO.of Try.func57 rfl rfl rfl fun w0 S0 => ?_
  refine CG.seq ?_
  refine CG.region ?_
  refine RG.fresh false (rSl rpDValue) 26 ?_
  refine RG.op (ok_assign hVn) rfl ?_
  refine RG.nil ?_
  refine AT.next ?_
  refine CG.seq ?_
  refine CG.seq ?_
  refine CG.region ?_
  refine RG.op (ok_move (ht rfl)) rfl ?_
  refine RG.isNil Try.underlying22 (ht rfl) rfl (fun isnil hisnil => ?_)
  refine RG.nil ?_
  refine AT.next ?_
  refine CG.cond (ht rfl) (fun hc => ?_) (fun hc => ?_)
  · have hx := hisnil hc
    have h : some ([] : List (List DValue)) = some R := by simpa [slices_Clone_api_Row_api_Row, app, hx] using h
    refine CG.seq ?_
    refine CG.region ?_
    refine RG.fresh false (rSl rpDValue) 26 ?_
    refine RG.op (ok_assign hVn) rfl ?_
    refine RG.nil ?_
    refine AT.next ?_
    refine CG.ret ?_
    refine AT.then_ret ?_
    cases so h
    exact AT.retO rfl rfl
  · refine CG.skip ?_
    refine AT.next ?_
    refine CG.seq ?_
    refine CG.region ?_
    refine RG.buildOwn (r := (rSl rpDValue)) (ys := ([] : List (List DValue))) (xs := []) Try.underlying22 ti26 rfl rfl rfl rfl rfl trivial rfl (fun l c => ?_)
    refine RG.op (ok_move (ht rfl)) rfl ?_
    obtain ⟨x, q_x, h⟩ := bs h
    refine RG.append ti26 rfl rfl rfl rfl Try.underlying22 rfl rfl (ht rfl) (ht rfl) q_x (fun l1 c1 => ?_)
    refine RG.op (ok_assign (ht rfl)) rfl ?_
    refine RG.nil ?_
    refine AT.next ?_
    refine CG.ret ?_
    cases so h
    exact AT.retO rfl rfl
theorem f57_ok (s : (List (List DValue))) {R : (List (List DValue))} (h : slices_Clone_api_Row_api_Row s = some R) : Spec Try.prog 57 [tD (rSl (rSl rpDValue)) s] (tD (rSl (rSl rpDValue)) R) := (f57_own _ h).spec

set_option maxRecDepth 100000 in
theorem f31_ok (l : (List (List DValue))) (columns : (List Int)) {R : (List DGroup) × Int} (h : row_Groups l columns = some R) : Spec Try.prog 31 [tD (rSl (rSl rpDValue)) l, tD (rSl (rI .i64)) columns] (tT [tD (rSl rpDGroup) R.1, tD (rI .i64) R.2]) := by
  refine Spec.ofM Try.func31 rfl rfl rfl fun w0 S0 => ?_
  refine CG.seq ?_
  refine CG.region ?_
  refine RG.op (ok_box (ht rfl)) rfl ?_
  refine RG.op (ok_assign (show HasTy _ _ _ (tD (rSl rpDGroup) ([])) from hNil)) rfl ?_
  refine RG.op (ok_assign hI) rfl ?_
  refine RG.nil ?_
  refine AT.next ?_
  refine CG.seq ?_
  refine CG.seq ?_
  refine CG.region ?_
  refine RG.op (ok_move (ht rfl)) rfl ?_
  refine RG.op (ok_load ti37 rfl rfl (ht rfl)) rfl ?_
  obtain ⟨r, q_r, h⟩ := bs h
  refine RG.op (ok_call cb41 (f41_ok _ _ q_r) ⟨(ht rfl), (ht rfl), trivial⟩) rfl ?_
  refine RG.op (ok_assign (ht rfl)) rfl ?_
  refine RG.nil ?_
  refine AT.next ?_
  refine CG.seq ?_
  refine CG.region ?_
  refine RG.op (ok_move (ht rfl)) rfl ?_
  refine RG.op (ok_neqI (ht rfl) hI) rfl ?_
  refine RG.nil ?_
  refine AT.next ?_
  refine CG.cond (ht rfl) (fun hc => ?_) (fun hc => ?_)
  · have h := ct h hc
    refine CG.seq ?_
    refine CG.region ?_
    refine RG.op (ok_move (ht rfl)) rfl ?_
    refine RG.op (ok_assign (show HasTy _ _ _ (tD (rSl rpDGroup) ([])) from hNil)) rfl ?_
    refine RG.op (ok_assign (ht rfl)) rfl ?_
    refine RG.nil ?_
    refine AT.next ?_
    refine CG.ret ?_
    refine AT.then_ret ?_
    refine AT.shut0 ?_
    cases so h
    exact AT.ret2 rfl rfl rfl
  · have h := cf h hc
    refine CG.skip ?_
    refine AT.next ?_
    refine CG.seq ?_
    refine CG.region ?_
    refine RG.op (ok_move (ht rfl)) rfl ?_
    obtain ⟨r1, q_r1, h⟩ := bs h
    refine RG.callO cb51 (f51_own _ q_r1) ⟨(ht rfl), trivial⟩ rfl (fun l1 c => ?_)
    refine RG.op (ok_assign (ht rfl)) rfl ?_
    refine RG.nil ?_
    refine AT.next ?_
    refine CG.seq ?_
    refine CG.region ?_
    refine RG.op (ok_move (ht rfl)) rfl ?_
    refine RG.op ((show OpOK _ _ _ _ ((tFun Try.prog (fun (x : (List DValue) × (List DValue)) => [tD (rSl rpDValue) x.1, tD (rSl rpDValue) x.2]) (fun (x : Int) => tD (rI .i64) x) (fun (x : (List DValue) × (List DValue)) => (row_Groups_1 columns) x.1 x.2))) from ok_makeFunc (cts := [tPtr (rSl (rI .i64)) columns]) (caps := [.tmp 3]) cb53 ⟨(ht rfl), trivial⟩ (fun x y h => f53_ok _ _ _ h))) rfl ?_
    obtain ⟨srt, q_srt, h⟩ := bs h
    refine RG.sortO (n := r1.length) Try.sort52 ?_ cb52 ?_ q_srt ?_ ?_ ?_ ?_ ?_
    · rfl
    · rfl
    · exact (ht rfl)
    · rfl
    · exact (ht rfl)
    · rfl
    intro hl
    refine RG.relen hl 18 rfl ?_
    refine RG.relen hl 7 rfl ?_
    refine RG.relen hl 19 rfl ?_
    refine RG.nil ?_
    refine AT.next ?_
    refine CG.seq ?_
    refine CG.region ?_
    refine RG.op ((show OpOK _ _ _ _ ((tFun Try.prog (fun (x : (List DValue) × (List DValue)) => [tD (rSl rpDValue) x.1, tD (rSl rpDValue) x.2]) (fun (x : Bool) => tD rB x) (fun (x : (List DValue) × (List DValue)) => (row_Groups_2 columns) x.1 x.2))) from ok_makeFunc (cts := [tPtr (rSl (rI .i64)) columns]) (caps := [.tmp 3]) cb55 ⟨(ht rfl), trivial⟩ (fun x y h => f55_ok _ _ _ h))) rfl ?_
    refine RG.op (ok_assign (ht rfl)) rfl ?_
    refine RG.nil ?_
    refine AT.next ?_
    refine CG.seq ?_
    refine CG.region ?_
    refine RG.fresh false rpDGroup 57 ?_
    refine RG.alloc (x := oslV none 0 0) ti53 (fun _ => rV_osl) rfl (fun b => ?_)
    refine RG.nil ?_
    refine AT.next ?_
    refine CG.seq ?_
    refine CG.seq ?_
    refine CG.region ?_
    refine RG.op (ok_move (ht rfl)) rfl ?_
    refine RG.op (ok_move (ht rfl)) rfl ?_
    refine RG.front2 ?_
    refine RG.freeze ?_
    refine RG.tipAt 18 rfl ?_
    refine RG.tipAt 7 rfl ?_
    refine RG.tipAt 19 rfl ?_
    refine RG.tipAt 23 rfl ?_
    obtain ⟨it, q_it, h⟩ := bs h
    refine RG.callIt cb56 (f56_itr _ _ q_it) ⟨(tO_d (ht rfl)), (ht rfl), trivial⟩ rfl (fun v fp => ?_)
    refine RG.nil ?_
    refine AT.next ?_
    refine CG.block ?_
    obtain ⟨s, q_s, h⟩ := bs h
    refine CG.rangeF (fun (i : Option Nat × Nat × List DGroup) => [tip (rSl rpDValue) 26 l1 c srt, bx rV 53 b (oslV i.1 i.2.1 i.2.2.length), arr rpDGroup 57 i.1 i.2.1 i.2.2]) (fun (i : Option Nat × Nat × List DGroup) => (i.2.2)) rfl (ht rfl) (none, 0, ([] : List DGroup)) rfl q_s (fun _ => rfl) rfl (fun i x s2 h lp rec _ _ _ => ?_) (fun i hi bd => ?_)
    · obtain ⟨l2, c1, xs⟩ := i
      replace h : row_Groups_b1 columns x xs = some s2 := h
      refine (show CG _ _ _ [recE lp rec .ready, tip (rSl rpDValue) 26 l1 c srt, bx rV 53 b (oslV l2 c1 xs.length), arr rpDGroup 57 l2 c1 xs] _ from ?_)
      refine CG.sub (G' := [(0, tD (rSl (rSl rpDValue)) l), (1, tD (rSl (rI .i64)) columns), (3, tPtr (rSl (rI .i64)) columns), (4, tD (rSl rpDGroup) ([])), (5, tD (rI .i64) (0 : Int)), (6, tD (rI .i64) r), (7, tO (rSl rpDValue) l1 c srt), (8, (tFun Try.prog (fun (x : (List DValue) × (List DValue)) => [tD (rSl rpDValue) x.1, tD (rSl rpDValue) x.2]) (fun (x : Bool) => tD rB x) (fun (x : (List DValue) × (List DValue)) => (row_Groups_2 columns) x.1 x.2))), (9, tV (bptr b 0)), (11, tD (rSl (rSl rpDValue)) l), (12, tD (rSl (rI .i64)) columns), (13, tD (rI .i64) r), (14, tD (rI .i64) r), (15, tD rB (r != (0 : Int))), (17, tD (rSl (rSl rpDValue)) l), (18, tO (rSl rpDValue) l1 c srt), (19, tO (rSl rpDValue) l1 c srt), (20, (tFun Try.prog (fun (x : (List DValue) × (List DValue)) => [tD (rSl rpDValue) x.1, tD (rSl rpDValue) x.2]) (fun (x : Int) => tD (rI .i64) x) (fun (x : (List DValue) × (List DValue)) => (row_Groups_1 columns) x.1 x.2))), (22, (tFun Try.prog (fun (x : (List DValue) × (List DValue)) => [tD (rSl rpDValue) x.1, tD (rSl rpDValue) x.2]) (fun (x : Bool) => tD rB x) (fun (x : (List DValue) × (List DValue)) => (row_Groups_2 columns) x.1 x.2))), (23, tO (rSl rpDValue) l1 c srt), (24, (tFun Try.prog (fun (x : (List DValue) × (List DValue)) => [tD (rSl rpDValue) x.1, tD (rSl rpDValue) x.2]) (fun (x : Bool) => tD rB x) (fun (x : (List DValue) × (List DValue)) => (row_Groups_2 columns) x.1 x.2))), (26, tD (rSl (rSl rpDValue)) x)]) ?_ ⟨rfl, rfl, rfl, rfl, rfl, rfl, rfl, rfl, rfl, rfl, rfl, rfl, rfl, rfl, rfl, rfl, rfl, rfl, rfl, rfl, rfl, rfl, trivial⟩
      refine CG.region ?_
      refine RG.op (ok_assign (ht rfl)) rfl ?_
      refine RG.nil ?_
      refine AT.begin ?_
      refine CG.block ?_
      obtain ⟨e, q_e, h⟩ := bs h
      obtain ⟨r2, q_r2, h⟩ := bs h
      obtain ⟨r3, q_r3, h⟩ := bs h
      refine CG.drawM 10 (ts := [tV (oslV l2 c1 xs.length), tD (rSl (rSl rpDValue)) x, tPtr (rSl rpDValue) e, tD (rSl rpDValue) e, tD (rSl (rI .i64)) columns, tD (rSl rpDValue) r2, tD (rSl (rSl rpDValue)) x, tD (rSl (rSl rpDValue)) r3, tD rpDGroup (⟨r2, r3⟩ : DGroup), tD (rSl rpDGroup) ([(⟨r2, r3⟩ : DGroup)])]) mixed rfl rfl rfl
        ⟨⟨[⟨9, _, none⟩], _, rfl, ⟨rfl, trivial⟩, rfl, rfl, OpG.plain rfl (ok_loadA ti53 (.tail _ (.tail _ (.head _))) (ht rfl))⟩,
        ⟨⟨[⟨10, _, none⟩], _, rfl, ⟨rfl, trivial⟩, rfl, rfl, OpG.plain rfl (ok_move (ht rfl))⟩,
        ⟨⟨[⟨28, _, some 1⟩], _, rfl, ⟨rfl, trivial⟩, rfl, rfl, OpG.plain rfl (ok_indexAddr Try.underlying22 ti26 rfl (ht rfl) hI q_e)⟩,
        ⟨⟨[⟨29, _, some 2⟩], _, rfl, ⟨rfl, trivial⟩, rfl, rfl, OpG.plain rfl (ok_load ti26 rfl rfl (ht rfl))⟩,
        ⟨⟨[⟨3, _, none⟩], _, rfl, ⟨rfl, trivial⟩, rfl, rfl, OpG.plain rfl (ok_load ti37 rfl rfl (ht rfl))⟩,
        ⟨⟨[⟨30, _, some 3⟩, ⟨31, _, some 4⟩], _, rfl, ⟨rfl, rfl, trivial⟩, rfl, rfl, OpG.plain rfl (ok_call cb42 (f42_ok _ _ q_r2) ⟨(ht rfl), (ht rfl), trivial⟩)⟩,
        ⟨⟨[⟨10, _, none⟩], _, rfl, ⟨rfl, trivial⟩, rfl, rfl, OpG.plain rfl (ok_move (ht rfl))⟩,
        ⟨⟨[⟨33, _, some 6⟩], _, rfl, ⟨rfl, trivial⟩, rfl, rfl, OpG.plain rfl (ok_call cb57 (f57_ok _ q_r3) ⟨(ht rfl), trivial⟩)⟩,
        ⟨⟨[⟨32, _, some 5⟩, ⟨34, _, some 7⟩], _, rfl, ⟨rfl, rfl, trivial⟩, rfl, rfl, OpG.plain rfl (ok_build (y := (⟨r2, r3⟩ : DGroup)) ti57 fs57 zrDGroup (⟨_, _, _, _, _, rfl, sfDGroup_0, rfl, (ht rfl), ⟨_, _, _, _, _, rfl, sfDGroup_1, rfl, (ht rfl), rfl⟩⟩))⟩,
        ⟨⟨[⟨35, _, some 8⟩], _, rfl, ⟨rfl, trivial⟩, rfl, rfl, OpG.plain rfl (ok_buildSlice (r := rpDGroup) (ys := [(⟨r2, r3⟩ : DGroup)]) (xs := [.tmp 35]) Try.underlying53 ti57 rfl rfl rfl rfl rfl ⟨(ht rfl), trivial⟩)⟩,
        trivial⟩⟩⟩⟩⟩⟩⟩⟩⟩⟩ ?_
      refine RG.front3 ?_
      obtain ⟨l3, q_l3, h⟩ := bs h
      refine RG.append ti57 rfl rfl rfl rfl Try.underlying53 rfl rfl (ht rfl) (ht rfl) q_l3 (fun l4 c2 => ?_)
      refine RG.front3 ?_
      refine RG.storeB ti53 rfl sfld_whole rfl (ht rfl) (hRV (ht rfl)) ?_
      refine RG.nil ?_
      refine AT.in_normal ?_
      refine AT.front1 ?_
      refine AT.front1 ?_
      refine AT.front3 ?_
      refine AT.front3 ?_
      exact AT.endRound (l4, c2, l3) (so h) rfl
    · skip
      obtain ⟨l5, c3, xs1⟩ := i
      have hi : xs1 = s := hi
      subst hi
      refine (show AT _ _ _ [dfb bd, tip (rSl rpDValue) 26 l1 c srt, bx rV 53 b (oslV l5 c3 xs1.length), arr rpDGroup 57 l5 c3 xs1] _ from ?_)
      refine AT.sub (G' := [(0, tD (rSl (rSl rpDValue)) l), (1, tD (rSl (rI .i64)) columns), (3, tPtr (rSl (rI .i64)) columns), (4, tD (rSl rpDGroup) ([])), (5, tD (rI .i64) (0 : Int)), (6, tD (rI .i64) r), (7, tO (rSl rpDValue) l1 c srt), (8, (tFun Try.prog (fun (x : (List DValue) × (List DValue)) => [tD (rSl rpDValue) x.1, tD (rSl rpDValue) x.2]) (fun (x : Bool) => tD rB x) (fun (x : (List DValue) × (List DValue)) => (row_Groups_2 columns) x.1 x.2))), (9, tV (bptr b 0)), (11, tD (rSl (rSl rpDValue)) l), (12, tD (rSl (rI .i64)) columns), (13, tD (rI .i64) r), (14, tD (rI .i64) r), (15, tD rB (r != (0 : Int))), (17, tD (rSl (rSl rpDValue)) l), (18, tO (rSl rpDValue) l1 c srt), (19, tO (rSl rpDValue) l1 c srt), (20, (tFun Try.prog (fun (x : (List DValue) × (List DValue)) => [tD (rSl rpDValue) x.1, tD (rSl rpDValue) x.2]) (fun (x : Int) => tD (rI .i64) x) (fun (x : (List DValue) × (List DValue)) => (row_Groups_1 columns) x.1 x.2))), (22, (tFun Try.prog (fun (x : (List DValue) × (List DValue)) => [tD (rSl rpDValue) x.1, tD (rSl rpDValue) x.2]) (fun (x : Bool) => tD rB x) (fun (x : (List DValue) × (List DValue)) => (row_Groups_2 columns) x.1 x.2))), (23, tO (rSl rpDValue) l1 c srt), (24, (tFun Try.prog (fun (x : (List DValue) × (List DValue)) => [tD (rSl rpDValue) x.1, tD (rSl rpDValue) x.2]) (fun (x : Bool) => tD rB x) (fun (x : (List DValue) × (List DValue)) => (row_Groups_2 columns) x.1 x.2)))]) ?_ ⟨rfl, rfl, rfl, rfl, rfl, rfl, rfl, rfl, rfl, rfl, rfl, rfl, rfl, rfl, rfl, rfl, rfl, rfl, rfl, rfl, rfl, trivial⟩
      refine AT.in_normal ?_
      refine AT.next ?_
      refine CG.seq ?_
      refine CG.region ?_
      refine RG.op (ok_loadA ti53 (.tail _ (.tail _ (.head _))) (ht rfl)) rfl ?_
      refine RG.op (ok_assign (ht rfl)) rfl ?_
      refine RG.op (ok_assign hI) rfl ?_
      refine RG.nil ?_
      refine AT.next ?_
      refine CG.ret ?_
      refine AT.front3 ?_
      refine AT.freeze ?_
      refine AT.tipAt 4 rfl ?_
      refine AT.tipAt 38 rfl ?_
      refine AT.dataAt 4 rfl ?_
      refine AT.drop ?_
      refine AT.front1 ?_
      refine AT.drop ?_
      refine AT.front1 ?_
      refine AT.drop ?_
      refine AT.shut ?_
      refine AT.shut0 ?_
      cases so h
      exact AT.ret2 rfl rfl rfl

set_option maxRecDepth 100000 in
theorem f33_own (l : (List Int)) {R : (List DValue)} (h : law05_of l = some R) : SpecO Try.prog 33 [tD (rSl (rI .i64)) l] false rpDValue 33 R := by
  refine SpecO.of Try.func33 rfl rfl rfl fun w0 S0 => ?_
  refine CG.seq ?_
  refine CG.region ?_
  refine RG.fresh false rpDValue 33 ?_
  refine RG.op (ok_assign hVn) rfl ?_
  refine RG.nil ?_
  refine AT.next ?_
  refine CG.seq ?_
  refine CG.region ?_
  refine RG.fresh false rpDValue 33 ?_
  refine RG.op (ok_assign hVn) rfl ?_
  refine RG.nil ?_
  refine AT.next ?_
  refine CG.seq ?_
  refine CG.seq ?_
  refine CG.region ?_
  refine RG.op (ok_move (ht rfl)) rfl ?_
  refine RG.op (ok_lenSl Try.underlying82 (ht rfl)) rfl ?_
  refine RG.op (ok_move hI) rfl ?_
  refine RG.nil ?_
  refine AT.next ?_
  refine CG.block ?_
  refine CG.have_len (k := 6) rfl (fun hN => ?_)
  refine CG.loop ?_
  refine LG.front1 ?_
  refine LG.drop ?_
  refine LG.sub (LG.list4 (Z := fun ls i out l1 c => (l.drop i = ls) ∧ law05_of_l1 ls out = some R) (Of := fun _ i out l1 c => [arr rpDValue 33 l1 c out]) (Gf := fun _ i out l1 c => [(3, tV (oslV l1 c out.length)), (6, tD (rSl (rI .i64)) l), (7, tD (rI .i64) (l.length : Int)), (8, tD (rI .i64) (i : Int))]) (fun i out l1 c h => ?_) (fun e tl ih i out l1 c h => ?_) l 0 ([] : List DValue) none 0 ⟨rfl, h⟩) ⟨rfl, rfl, rfl, rfl, trivial⟩
  · obtain ⟨hx, h⟩ := h
    refine LG.unfold ?_
    refine CG.seq ?_
    refine CG.region ?_
    refine RG.op (ok_lss (ht rfl) (ht rfl)) rfl ?_
    refine RG.nil ?_
    refine AT.next ?_
    refine CG.seq ?_
    refine CG.condF (ht rfl) (dropF hx) ?_
    refine CG.exit ?_
    refine AT.then_exit (AT.then_exit (AT.in_exit ?_))
    refine AT.next ?_
    refine CG.seq ?_
    refine CG.region ?_
    refine RG.op (ok_move (ht rfl)) rfl ?_
    refine RG.op (ok_assign (ht rfl)) rfl ?_
    refine RG.nil ?_
    refine AT.next ?_
    refine CG.ret ?_
    cases so h
    exact AT.retO rfl rfl
  · obtain ⟨hx, h⟩ := h
    refine LG.unfold ?_
    refine CG.seq ?_
    refine CG.region ?_
    refine RG.op (ok_lss (ht rfl) (ht rfl)) rfl ?_
    refine RG.nil ?_
    refine AT.next ?_
    refine CG.seq ?_
    refine CG.condT (ht rfl) (dropT hx) ?_
    refine CG.skip ?_
    refine AT.next ?_
    refine CG.seq ?_
    refine CG.block ?_
    refine CG.seq ?_
    refine CG.region ?_
    refine RG.op (ok_indexAddr Try.underlying82 ti2 rfl (ht rfl) (ht rfl) (dropI hx)) rfl ?_
    refine RG.op (ok_load ti2 rfl rfl (ht rfl)) rfl ?_
    refine RG.op (ok_assign (ht rfl)) rfl ?_
    refine RG.nil ?_
    refine AT.next ?_
    refine CG.region ?_
    refine RG.op (ok_move (ht rfl)) rfl ?_
    refine RG.op (ok_move (ht rfl)) rfl ?_
    refine RG.op (ok_build (y := (⟨(2 : Int), e, (0 : Int), []⟩ : DValue)) ti33 fs33 zrDValue (⟨_, _, _, _, _, rfl, sfDValue_0, rfl, hI, ⟨_, _, _, _, _, rfl, sfDValue_1, rfl, (ht rfl), rfl⟩⟩)) rfl ?_
    refine RG.op (ok_buildSlice (r := rpDValue) (ys := [(⟨(2 : Int), e, (0 : Int), []⟩ : DValue)]) (xs := [.tmp 14]) Try.underlying26 ti33 rfl rfl rfl rfl rfl ⟨(ht rfl), trivial⟩) rfl ?_
    obtain ⟨out1, q_out1, h⟩ := bs h
    refine RG.append ti33 rfl rfl rfl rfl Try.underlying26 rfl rfl (ht rfl) (ht rfl) q_out1 (fun l2 c1 => ?_)
    refine RG.op (ok_assign (ht rfl)) rfl ?_
    refine RG.nil ?_
    refine AT.in_normal ?_
    refine AT.next ?_
    refine CG.region ?_
    refine RG.op (ok_incN (dropL hx hN) (ht rfl) hI) rfl ?_
    refine RG.op (ok_move (ht rfl)) rfl ?_
    refine RG.nil ?_
    exact AT.round (LG.sub (ih (i + 1) out1 l2 c1 ⟨dropS hx, h⟩) ⟨rfl, rfl, rfl, rfl, trivial⟩)
theorem f33_ok (l : (List Int)) {R : (List DValue)} (h : law05_of l = some R) : Spec Try.prog 33 [tD (rSl (rI .i64)) l] (tD (rSl rpDValue) R) := (f33_own _ h).spec

end Go.Proofs.Ytchjhcgkfglgiaa
