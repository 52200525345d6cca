/- Facts of this claim: P6. -/
import Derived.Test.YtbhkincjkpeaoaaDoT
import Derived.Test.YtbhkincjkpeaoaaDoP5
namespace Go.Proofs.Ytbhkincjkpeaoaa
open Go

set_option maxRecDepth 100000 in
theorem f56_ok (s : (List DENode)) (f : (DENode → Option Bool)) {R : Int} (h : slices_IndexFunc_api_ENode_api_ENode s f = some R) : Spec Try.prog 56 [tD (rSl rpDENode) s, (tFun Try.prog (fun (x : DENode) => [tD rpDENode x]) (fun (x : Bool) => tD rB x) (fun (x : DENode) => f x))] (tD (rI .i64) R) := by
  refine Spec.of Try.func56 rfl rfl rfl fun w0 S0 => ?_
  refine CG.seq ?_
  refine CG.region ?_
  refine RG.op (ok_assign hI) rfl ?_
  refine RG.nil ?_
  refine AT.next ?_
  refine CG.seq ?_
  refine CG.seq ?_
  refine CG.region ?_
  refine RG.op (ok_move (ht rfl)) rfl ?_
  refine RG.op (ok_lenSl Try.underlying26 (ht rfl)) rfl ?_
  refine RG.op (ok_move hI) rfl ?_
  refine RG.nil ?_
  refine AT.next ?_
  refine CG.block ?_
  refine CG.have_len (k := 6) rfl (fun hN => ?_)
  refine CG.loop ?_
  refine LG.sub (LG.list1 (Z := fun ls i  => (s.drop i = ls) ∧ slices_IndexFunc_api_ENode_api_ENode_l1 f ls i  = some R) (Of := fun _ i  => []) (Gf := fun _ i  => [(0, tD (rSl rpDENode) s), (1, (tFun Try.prog (fun (x : DENode) => [tD rpDENode x]) (fun (x : Bool) => tD rB x) (fun (x : DENode) => f x))), (7, tD (rI .i64) (s.length : Int)), (8, tD (rI .i64) (i : Int))]) (fun i  h => ?_) (fun e tl ih i  h => ?_) s 0  ⟨rfl, h⟩) ⟨rfl, rfl, rfl, rfl, trivial⟩
  · obtain ⟨hx, h⟩ := h
    refine LG.unfold ?_
    refine CG.seq ?_
    refine CG.region ?_
    refine RG.op (ok_lss (ht rfl) (ht rfl)) rfl ?_
    refine RG.nil ?_
    refine AT.next ?_
    refine CG.seq ?_
    refine CG.condF (ht rfl) (dropF hx) ?_
    refine CG.exit ?_
    refine AT.then_exit (AT.then_exit (AT.in_exit ?_))
    refine AT.next ?_
    refine CG.seq ?_
    refine CG.region ?_
    refine RG.op (ok_assign hI) rfl ?_
    refine RG.nil ?_
    refine AT.next ?_
    refine CG.ret ?_
    cases so h
    exact AT.ret1 rfl rfl
  · obtain ⟨hx, h⟩ := h
    refine LG.unfold ?_
    refine CG.seq ?_
    refine CG.region ?_
    refine RG.op (ok_lss (ht rfl) (ht rfl)) rfl ?_
    refine RG.nil ?_
    refine AT.next ?_
    refine CG.seq ?_
    refine CG.condT (ht rfl) (dropT hx) ?_
    refine CG.skip ?_
    refine AT.next ?_
    refine CG.seq ?_
    refine CG.block ?_
    refine CG.seq ?_
    refine CG.region ?_
    refine RG.op (ok_move (ht rfl)) rfl ?_
    refine RG.op (ok_assign (ht rfl)) rfl ?_
    refine RG.nil ?_
    refine AT.next ?_
    refine CG.seq ?_
    refine CG.region ?_
    refine RG.op (ok_move (ht rfl)) rfl ?_
    refine RG.op (ok_move (ht rfl)) rfl ?_
    refine RG.op (ok_move (ht rfl)) rfl ?_
    refine RG.op (ok_indexAddr Try.underlying26 ti64 rfl (ht rfl) (ht rfl) (dropI hx)) rfl ?_
    refine RG.op (ok_load ti64 rfl rfl (ht rfl)) rfl ?_
    obtain ⟨r, q_r, h⟩ := bs h
    refine RG.op (ok_callV (args := (fun (x : DENode) => [tD rpDENode x])) (res := (fun (x : Bool) => tD rB x)) (f := (fun (x : DENode) => f x)) (x := ((e) : DENode)) (ht rfl) q_r ⟨(ht rfl), trivial⟩) rfl ?_
    refine RG.nil ?_
    refine AT.next ?_
    refine CG.cond (ht rfl) (fun hc => ?_) (fun hc => ?_)
    · have h := ct h hc
      refine CG.seq ?_
      refine CG.region ?_
      refine RG.op (ok_move (ht rfl)) rfl ?_
      refine RG.op (ok_assign (ht rfl)) rfl ?_
      refine RG.nil ?_
      refine AT.next ?_
      refine CG.ret ?_
      refine AT.in_ret (AT.then_ret (AT.then_ret (AT.in_ret (AT.then_ret ?_))))
      cases so h
      exact AT.ret1 rfl rfl
    · have h := cf h hc
      refine CG.skip ?_
      refine AT.in_normal ?_
      refine AT.next ?_
      refine CG.region ?_
      refine RG.op (ok_incN (dropL hx hN) (ht rfl) hI) rfl ?_
      refine RG.op (ok_move (ht rfl)) rfl ?_
      refine RG.nil ?_
      exact AT.round (LG.sub (ih (i + 1)  ⟨dropS hx, h⟩) ⟨rfl, rfl, rfl, rfl, trivial⟩)

set_option maxRecDepth 100000 in
theorem f32_ok (s : (List DENode)) (f : (DENode → Option Bool)) {R : Bool} (h : slices_ContainsFunc_api_ENode_api_ENode s f = some R) : Spec Try.prog 32 [tD (rSl rpDENode) s, (tFun Try.prog (fun (x : DENode) => [tD rpDENode x]) (fun (x : Bool) => tD rB x) (fun (x : DENode) => f x))] (tD rB R) := by
  refine Spec.of Try.func32 rfl rfl rfl fun w0 S0 => ?_
  refine CG.seq ?_
  refine CG.region ?_
  refine RG.op (ok_assign hB) rfl ?_
  refine RG.nil ?_
  refine AT.next ?_
  refine CG.seq ?_
  refine CG.region ?_
  refine RG.op (ok_move (ht rfl)) rfl ?_
  refine RG.op (ok_move (ht rfl)) rfl ?_
  obtain ⟨r, q_r, h⟩ := bs h
  refine RG.op (ok_call cb56 (f56_ok _ _ q_r) ⟨(ht rfl), (ht rfl), trivial⟩) rfl ?_
  refine RG.op (ok_geq (ht rfl) hI) rfl ?_
  refine RG.op (ok_assign (ht rfl)) rfl ?_
  refine RG.nil ?_
  refine AT.next ?_
  refine CG.ret ?_
  cases so h
  exact AT.ret1 rfl rfl

set_option maxRecDepth 100000 in
theorem f33_ok (n : DENode) {R : Bool} (h : expr_Safe_1 n = some R) : Spec Try.prog 33 [tD rpDENode n] (tD rB R) := by
  refine Spec.of Try.func33 rfl rfl rfl fun w0 S0 => ?_
  refine CG.seq ?_
  refine CG.region ?_
  refine RG.op (ok_box (ht rfl)) rfl ?_
  refine RG.op (ok_assign hB) rfl ?_
  refine RG.nil ?_
  refine AT.next ?_
  refine CG.seq ?_
  refine CG.region ?_
  refine RG.op (ok_fieldAddr fd64_0 rfl flDENode_0 rfl (ht rfl)) rfl ?_
  refine RG.op (ok_load ti3 rfl rfl (ht rfl)) rfl ?_
  obtain ⟨r, q_r, h⟩ := bs h
  refine RG.op (ok_call cb34 (f34_ok _ q_r) ⟨(ht rfl), trivial⟩) rfl ?_
  refine RG.op (ok_assign (ht rfl)) rfl ?_
  refine RG.nil ?_
  refine AT.next ?_
  refine CG.ret ?_
  cases so h
  exact AT.ret1 rfl rfl

set_option maxRecDepth 100000 in
theorem f23_ok (e : DExpr) {R : Bool} (h : expr_Safe e = some R) : Spec Try.prog 23 [tD rpDExpr e] (tD rB R) := by
  refine Spec.of Try.func23 rfl rfl rfl fun w0 S0 => ?_
  refine CG.seq ?_
  refine CG.region ?_
  refine RG.op (ok_box (ht rfl)) rfl ?_
  refine RG.op (ok_assign hB) rfl ?_
  refine RG.nil ?_
  refine AT.next ?_
  refine CG.seq ?_
  refine CG.region ?_
  refine RG.op (ok_load ti28 rfl rfl (ht rfl)) rfl ?_
  obtain ⟨r, q_r, h⟩ := bs h
  refine RG.op (ok_call cb31 (f31_ok _ q_r) ⟨(ht rfl), trivial⟩) rfl ?_
  refine RG.op (ok_eqlI (ht rfl) hI) rfl ?_
  refine RG.op (ok_move (ht rfl)) rfl ?_
  obtain ⟨t, q_t, h⟩ := bs h
  refine RG.opGt rfl rfl rfl rfl (fun hg => ok_fieldAddr fd28_0 rfl flDExpr_0 rfl (ht rfl)) ?_
  refine RG.opGt rfl rfl rfl rfl (fun hg => ok_load ti26 rfl rfl (htO rfl hg)) ?_
  obtain ⟨r1, h1t, h0t⟩ := og q_t
  have q_r1g := fun hb => (h1t hb).1
  refine RG.opGt rfl rfl rfl rfl (fun hg => ok_call cb32 (f32_ok _ _ (q_r1g hg)) ⟨(htO rfl hg), (hFn cb33 fun x y h => f33_ok _ h), trivial⟩) ?_
  refine RG.opGt rfl rfl rfl rfl (fun hg => ok_not (htO rfl hg)) ?_
  refine RG.op (ok_pickAndM (ht rfl) (fun hb => (htO rfl hb)) (fun hb => (h1t hb).2) h0t) rfl ?_
  refine RG.op (ok_assign (ht rfl)) rfl ?_
  refine RG.nil ?_
  refine AT.next ?_
  refine CG.ret ?_
  cases so h
  exact AT.ret1 rfl rfl

set_option maxRecDepth 100000 in
theorem f22_ok (e : DExpr) {R : Bool} (h : logic_Safe_1 e = some R) : Spec Try.prog 22 [tD rpDExpr e] (tD rB R) := by
  refine Spec.of Try.func22 rfl rfl rfl fun w0 S0 => ?_
  refine CG.seq ?_
  refine CG.region ?_
  refine RG.op (ok_box (ht rfl)) rfl ?_
  refine RG.op (ok_assign hB) rfl ?_
  refine RG.nil ?_
  refine AT.next ?_
  refine CG.seq ?_
  refine CG.region ?_
  refine RG.op (ok_fieldAddr fd28_0 rfl flDExpr_0 rfl (ht rfl)) rfl ?_
  refine RG.op (ok_load ti26 rfl rfl (ht rfl)) rfl ?_
  refine RG.op (ok_lenSl Try.underlying26 (ht rfl)) rfl ?_
  refine RG.op (ok_gtr (ht rfl) hI) rfl ?_
  refine RG.op (ok_move (ht rfl)) rfl ?_
  obtain ⟨t, q_t, h⟩ := bs h
  refine RG.opGt rfl rfl rfl rfl (fun hg => ok_load ti28 rfl rfl (ht rfl)) ?_
  obtain ⟨r, h1t, h0t⟩ := og q_t
  have q_rg := fun hb => (h1t hb).1
  refine RG.opGt rfl rfl rfl rfl (fun hg => ok_call cb23 (f23_ok _ (q_rg hg)) ⟨(htO rfl hg), trivial⟩) ?_
  refine RG.opGt rfl rfl rfl rfl (fun hg => ok_not (htO rfl hg)) ?_
  refine RG.op (ok_pickAndM (ht rfl) (fun hb => (htO rfl hb)) (fun hb => (h1t hb).2) h0t) rfl ?_
  refine RG.op (ok_assign (ht rfl)) rfl ?_
  refine RG.nil ?_
  refine AT.next ?_
  refine CG.ret ?_
  cases so h
  exact AT.ret1 rfl rfl

set_option maxRecDepth 100000 in
theorem f24_ok (unsafe1 : (DExpr → Option Bool)) (a1 : DAgg) {R : Bool} (h : logic_Safe_2 unsafe1 a1 = some R) : Spec Try.prog 24 [tD rpDAgg a1, tPtr (rT (tFun Try.prog (fun (x : DExpr) => [tD rpDExpr x]) (fun (x : Bool) => tD rB x) (fun (x : DExpr) => unsafe1 x))) ()] (tD rB R) := by
  refine Spec.of Try.func24 rfl rfl rfl fun w0 S0 => ?_
  refine CG.seq ?_
  refine CG.region ?_
  refine RG.op (ok_box (ht rfl)) rfl ?_
  refine RG.op (ok_assign hB) rfl ?_
  refine RG.nil ?_
  refine AT.next ?_
  refine CG.seq ?_
  refine CG.region ?_
  refine RG.op (ok_fieldAddr fd51_0 rfl flDAgg_0 rfl (ht rfl)) rfl ?_
  refine RG.op (ok_load ti3 rfl rfl (ht rfl)) rfl ?_
  refine RG.op (ok_eqlI (ht rfl) hI) rfl ?_
  refine RG.op (ok_move (ht rfl)) rfl ?_
  obtain ⟨t, q_t, h⟩ := bs h
  refine RG.opGf rfl rfl rfl rfl (fun hg => ok_loadF ti49 (ht rfl)) ?_
  refine RG.opGf rfl rfl rfl rfl (fun hg => ok_fieldAddr fd51_1 rfl flDAgg_1 rfl (ht rfl)) ?_
  refine RG.opGf rfl rfl rfl rfl (fun hg => ok_load ti28 rfl rfl (htO rfl hg)) ?_
  obtain ⟨r, h1t, h0t⟩ := og q_t
  have q_rg := fun hb => (h1t hb).1
  refine RG.opGf rfl rfl rfl rfl (fun hg => ok_callV (args := (fun (x : DExpr) => [tD rpDExpr x])) (res := (fun (x : Bool) => tD rB x)) (f := (fun (x : DExpr) => unsafe1 x)) (x := ((a1.Arg) : DExpr)) (htO rfl hg) (q_rg hg) ⟨(htO rfl hg), trivial⟩) ?_
  refine RG.op (ok_pickOrM (ht rfl) (fun hb => (htO rfl (noti hb))) (fun hb => (h1t hb).2) h0t) rfl ?_
  refine RG.op (ok_assign (ht rfl)) rfl ?_
  refine RG.nil ?_
  refine AT.next ?_
  refine CG.ret ?_
  cases so h
  exact AT.ret1 rfl rfl

set_option maxRecDepth 100000 in
theorem f35_ok (s : (List DExpr)) (f : (DExpr → Option Bool)) {R : Int} (h : slices_IndexFunc_api_Expr_api_Expr s f = some R) : Spec Try.prog 35 [tD (rSl rpDExpr) s, (tFun Try.prog (fun (x : DExpr) => [tD rpDExpr x]) (fun (x : Bool) => tD rB x) (fun (x : DExpr) => f x))] (tD (rI .i64) R) := by
  refine Spec.of Try.func35 rfl rfl rfl fun w0 S0 => ?_
  refine CG.seq ?_
  refine CG.region ?_
  refine RG.op (ok_assign hI) rfl ?_
  refine RG.nil ?_
  refine AT.next ?_
  refine CG.seq ?_
  refine CG.seq ?_
  refine CG.region ?_
  refine RG.op (ok_move (ht rfl)) rfl ?_
  refine RG.op (ok_lenSl Try.underlying30 (ht rfl)) rfl ?_
  refine RG.op (ok_move hI) rfl ?_
  refine RG.nil ?_
  refine AT.next ?_
  refine CG.block ?_
  refine CG.have_len (k := 6) rfl (fun hN => ?_)
  refine CG.loop ?_
  refine LG.sub (LG.list1 (Z := fun ls i  => (s.drop i = ls) ∧ slices_IndexFunc_api_Expr_api_Expr_l1 f ls i  = some R) (Of := fun _ i  => []) (Gf := fun _ i  => [(0, tD (rSl rpDExpr) s), (1, (tFun Try.prog (fun (x : DExpr) => [tD rpDExpr x]) (fun (x : Bool) => tD rB x) (fun (x : DExpr) => f x))), (7, tD (rI .i64) (s.length : Int)), (8, tD (rI .i64) (i : Int))]) (fun i  h => ?_) (fun e tl ih i  h => ?_) s 0  ⟨rfl, h⟩) ⟨rfl, rfl, rfl, rfl, trivial⟩
  · obtain ⟨hx, h⟩ := h
    refine LG.unfold ?_
    refine CG.seq ?_
    refine CG.region ?_
    refine RG.op (ok_lss (ht rfl) (ht rfl)) rfl ?_
    refine RG.nil ?_
    refine AT.next ?_
    refine CG.seq ?_
    refine CG.condF (ht rfl) (dropF hx) ?_
    refine CG.exit ?_
    refine AT.then_exit (AT.then_exit (AT.in_exit ?_))
    refine AT.next ?_
    refine CG.seq ?_
    refine CG.region ?_
    refine RG.op (ok_assign hI) rfl ?_
    refine RG.nil ?_
    refine AT.next ?_
    refine CG.ret ?_
    cases so h
    exact AT.ret1 rfl rfl
  · obtain ⟨hx, h⟩ := h
    refine LG.unfold ?_
    refine CG.seq ?_
    refine CG.region ?_
    refine RG.op (ok_lss (ht rfl) (ht rfl)) rfl ?_
    refine RG.nil ?_
    refine AT.next ?_
    refine CG.seq ?_
    refine CG.condT (ht rfl) (dropT hx) ?_
    refine CG.skip ?_
    refine AT.next ?_
    refine CG.seq ?_
    refine CG.block ?_
    refine CG.seq ?_
    refine CG.region ?_
    refine RG.op (ok_move (ht rfl)) rfl ?_
    refine RG.op (ok_assign (ht rfl)) rfl ?_
    refine RG.nil ?_
    refine AT.next ?_
    refine CG.seq ?_
    refine CG.region ?_
    refine RG.op (ok_move (ht rfl)) rfl ?_
    refine RG.op (ok_move (ht rfl)) rfl ?_
    refine RG.op (ok_move (ht rfl)) rfl ?_
    refine RG.op (ok_indexAddr Try.underlying30 ti28 rfl (ht rfl) (ht rfl) (dropI hx)) rfl ?_
    refine RG.op (ok_load ti28 rfl rfl (ht rfl)) rfl ?_
    obtain ⟨r, q_r, h⟩ := bs h
    refine RG.op (ok_callV (args := (fun (x : DExpr) => [tD rpDExpr x])) (res := (fun (x : Bool) => tD rB x)) (f := (fun (x : DExpr) => f x)) (x := ((e) : DExpr)) (ht rfl) q_r ⟨(ht rfl), trivial⟩) rfl ?_
    refine RG.nil ?_
    refine AT.next ?_
    refine CG.cond (ht rfl) (fun hc => ?_) (fun hc => ?_)
    · have h := ct h hc
      refine CG.seq ?_
      refine CG.region ?_
      refine RG.op (ok_move (ht rfl)) rfl ?_
      refine RG.op (ok_assign (ht rfl)) rfl ?_
      refine RG.nil ?_
      refine AT.next ?_
      refine CG.ret ?_
      refine AT.in_ret (AT.then_ret (AT.then_ret (AT.in_ret (AT.then_ret ?_))))
      cases so h
      exact AT.ret1 rfl rfl
    · have h := cf h hc
      refine CG.skip ?_
      refine AT.in_normal ?_
      refine AT.next ?_
      refine CG.region ?_
      refine RG.op (ok_incN (dropL hx hN) (ht rfl) hI) rfl ?_
      refine RG.op (ok_move (ht rfl)) rfl ?_
      refine RG.nil ?_
      exact AT.round (LG.sub (ih (i + 1)  ⟨dropS hx, h⟩) ⟨rfl, rfl, rfl, rfl, trivial⟩)

set_option maxRecDepth 100000 in
theorem f25_ok (s : (List DExpr)) (f : (DExpr → Option Bool)) {R : Bool} (h : slices_ContainsFunc_api_Expr_api_Expr s f = some R) : Spec Try.prog 25 [tD (rSl rpDExpr) s, (tFun Try.prog (fun (x : DExpr) => [tD rpDExpr x]) (fun (x : Bool) => tD rB x) (fun (x : DExpr) => f x))] (tD rB R) := by
  refine Spec.of Try.func25 rfl rfl rfl fun w0 S0 => ?_
  refine CG.seq ?_
  refine CG.region ?_
  refine RG.op (ok_assign hB) rfl ?_
  refine RG.nil ?_
  refine AT.next ?_
  refine CG.seq ?_
  refine CG.region ?_
  refine RG.op (ok_move (ht rfl)) rfl ?_
  refine RG.op (ok_move (ht rfl)) rfl ?_
  obtain ⟨r, q_r, h⟩ := bs h
  refine RG.op (ok_call cb35 (f35_ok _ _ q_r) ⟨(ht rfl), (ht rfl), trivial⟩) rfl ?_
  refine RG.op (ok_geq (ht rfl) hI) rfl ?_
  refine RG.op (ok_assign (ht rfl)) rfl ?_
  refine RG.nil ?_
  refine AT.next ?_
  refine CG.ret ?_
  cases so h
  exact AT.ret1 rfl rfl

set_option maxRecDepth 100000 in
theorem f36_ok (s : (List DAgg)) (f : (DAgg → Option Bool)) {R : Int} (h : slices_IndexFunc_api_Agg_api_Agg s f = some R) : Spec Try.prog 36 [tD (rSl rpDAgg) s, (tFun Try.prog (fun (x : DAgg) => [tD rpDAgg x]) (fun (x : Bool) => tD rB x) (fun (x : DAgg) => f x))] (tD (rI .i64) R) := by
  refine Spec.of Try.func36 rfl rfl rfl fun w0 S0 => ?_
  refine CG.seq ?_
  refine CG.region ?_
  refine RG.op (ok_assign hI) rfl ?_
  refine RG.nil ?_
  refine AT.next ?_
  refine CG.seq ?_
  refine CG.seq ?_
  refine CG.region ?_
  refine RG.op (ok_move (ht rfl)) rfl ?_
  refine RG.op (ok_lenSl Try.underlying29 (ht rfl)) rfl ?_
  refine RG.op (ok_move hI) rfl ?_
  refine RG.nil ?_
  refine AT.next ?_
  refine CG.block ?_
  refine CG.have_len (k := 6) rfl (fun hN => ?_)
  refine CG.loop ?_
  refine LG.sub (LG.list1 (Z := fun ls i  => (s.drop i = ls) ∧ slices_IndexFunc_api_Agg_api_Agg_l1 f ls i  = some R) (Of := fun _ i  => []) (Gf := fun _ i  => [(0, tD (rSl rpDAgg) s), (1, (tFun Try.prog (fun (x : DAgg) => [tD rpDAgg x]) (fun (x : Bool) => tD rB x) (fun (x : DAgg) => f x))), (7, tD (rI .i64) (s.length : Int)), (8, tD (rI .i64) (i : Int))]) (fun i  h => ?_) (fun e tl ih i  h => ?_) s 0  ⟨rfl, h⟩) ⟨rfl, rfl, rfl, rfl, trivial⟩
  · obtain ⟨hx, h⟩ := h
    refine LG.unfold ?_
    refine CG.seq ?_
    refine CG.region ?_
    refine RG.op (ok_lss (ht rfl) (ht rfl)) rfl ?_
    refine RG.nil ?_
    refine AT.next ?_
    refine CG.seq ?_
    refine CG.condF (ht rfl) (dropF hx) ?_
    refine CG.exit ?_
    refine AT.then_exit (AT.then_exit (AT.in_exit ?_))
    refine AT.next ?_
    refine CG.seq ?_
    refine CG.region ?_
    refine RG.op (ok_assign hI) rfl ?_
    refine RG.nil ?_
    refine AT.next ?_
    refine CG.ret ?_
    cases so h
    exact AT.ret1 rfl rfl
  · obtain ⟨hx, h⟩ := h
    refine LG.unfold ?_
    refine CG.seq ?_
    refine CG.region ?_
    refine RG.op (ok_lss (ht rfl) (ht rfl)) rfl ?_
    refine RG.nil ?_
    refine AT.next ?_
    refine CG.seq ?_
    refine CG.condT (ht rfl) (dropT hx) ?_
    refine CG.skip ?_
    refine AT.next ?_
    refine CG.seq ?_
    refine CG.block ?_
    refine CG.seq ?_
    refine CG.region ?_
    refine RG.op (ok_move (ht rfl)) rfl ?_
    refine RG.op (ok_assign (ht rfl)) rfl ?_
    refine RG.nil ?_
    refine AT.next ?_
    refine CG.seq ?_
    refine CG.region ?_
    refine RG.op (ok_move (ht rfl)) rfl ?_
    refine RG.op (ok_move (ht rfl)) rfl ?_
    refine RG.op (ok_move (ht rfl)) rfl ?_
    refine RG.op (ok_indexAddr Try.underlying29 ti51 rfl (ht rfl) (ht rfl) (dropI hx)) rfl ?_
    refine RG.op (ok_load ti51 rfl rfl (ht rfl)) rfl ?_
    obtain ⟨r, q_r, h⟩ := bs h
    refine RG.op (ok_callV (args := (fun (x : DAgg) => [tD rpDAgg x])) (res := (fun (x : Bool) => tD rB x)) (f := (fun (x : DAgg) => f x)) (x := ((e) : DAgg)) (ht rfl) q_r ⟨(ht rfl), trivial⟩) rfl ?_
    refine RG.nil ?_
    refine AT.next ?_
    refine CG.cond (ht rfl) (fun hc => ?_) (fun hc => ?_)
    · have h := ct h hc
      refine CG.seq ?_
      refine CG.region ?_
      refine RG.op (ok_move (ht rfl)) rfl ?_
      refine RG.op (ok_assign (ht rfl)) rfl ?_
      refine RG.nil ?_
      refine AT.next ?_
      refine CG.ret ?_
      refine AT.in_ret (AT.then_ret (AT.then_ret (AT.in_ret (AT.then_ret ?_))))
      cases so h
      exact AT.ret1 rfl rfl
    · have h := cf h hc
      refine CG.skip ?_
      refine AT.in_normal ?_
      refine AT.next ?_
      refine CG.region ?_
      refine RG.op (ok_incN (dropL hx hN) (ht rfl) hI) rfl ?_
      refine RG.op (ok_move (ht rfl)) rfl ?_
      refine RG.nil ?_
      exact AT.round (LG.sub (ih (i + 1)  ⟨dropS hx, h⟩) ⟨rfl, rfl, rfl, rfl, trivial⟩)

set_option maxRecDepth 100000 in
theorem f26_ok (s : (List DAgg)) (f : (DAgg → Option Bool)) {R : Bool} (h : slices_ContainsFunc_api_Agg_api_Agg s f = some R) : Spec Try.prog 26 [tD (rSl rpDAgg) s, (tFun Try.prog (fun (x : DAgg) => [tD rpDAgg x]) (fun (x : Bool) => tD rB x) (fun (x : DAgg) => f x))] (tD rB R) := by
  refine Spec.of Try.func26 rfl rfl rfl fun w0 S0 => ?_
  refine CG.seq ?_
  refine CG.region ?_
  refine RG.op (ok_assign hB) rfl ?_
  refine RG.nil ?_
  refine AT.next ?_
  refine CG.seq ?_
  refine CG.region ?_
  refine RG.op (ok_move (ht rfl)) rfl ?_
  refine RG.op (ok_move (ht rfl)) rfl ?_
  obtain ⟨r, q_r, h⟩ := bs h
  refine RG.op (ok_call cb36 (f36_ok _ _ q_r) ⟨(ht rfl), (ht rfl), trivial⟩) rfl ?_
  refine RG.op (ok_geq (ht rfl) hI) rfl ?_
  refine RG.op (ok_assign (ht rfl)) rfl ?_
  refine RG.nil ?_
  refine AT.next ?_
  refine CG.ret ?_
  cases so h
  exact AT.ret1 rfl rfl

set_option maxRecDepth 100000 in
theorem f13_ok (l : DLogic) {R : Bool} (h : logic_Safe l = some R) : Spec Try.prog 13 [tD rpDLogic l] (tD rB R) := by
  refine Spec.of Try.func13 rfl rfl rfl fun w0 S0 => ?_
  refine CG.seq ?_
  refine CG.region ?_
  refine RG.op (ok_box (ht rfl)) rfl ?_
  refine RG.op (ok_assign hB) rfl ?_
  refine RG.nil ?_
  refine AT.next ?_
  refine CG.seq ?_
  refine CG.seq ?_
  refine CG.region ?_
  refine RG.op (ok_load ti24 rfl rfl (ht rfl)) rfl ?_
  obtain ⟨r, q_r, h⟩ := bs h
  refine RG.op (ok_call cb21 (f21_ok _ q_r) ⟨(ht rfl), trivial⟩) rfl ?_
  refine RG.op (ok_move (ht rfl)) rfl ?_
  refine RG.op (ok_extract rfl (ht rfl)) rfl ?_
  refine RG.op (ok_extract rfl (ht rfl)) rfl ?_
  refine RG.op (ok_assign (ht rfl)) rfl ?_
  refine RG.op (ok_assign (ht rfl)) rfl ?_
  refine RG.nil ?_
  refine AT.next ?_
  refine CG.seq ?_
  refine CG.region ?_
  refine RG.op (ok_move (ht rfl)) rfl ?_
  refine RG.op (ok_neqI (ht rfl) hI) rfl ?_
  refine RG.nil ?_
  refine AT.next ?_
  refine CG.cond (ht rfl) (fun hc => ?_) (fun hc => ?_)
  · have h := ct h hc
    refine CG.seq ?_
    refine CG.region ?_
    refine RG.op (ok_assign hB) rfl ?_
    refine RG.nil ?_
    refine AT.next ?_
    refine CG.ret ?_
    refine AT.then_ret ?_
    cases so h
    exact AT.ret1 rfl rfl
  · have h := cf h hc
    refine CG.skip ?_
    refine AT.next ?_
    refine CG.seq ?_
    refine CG.region ?_
    refine RG.alloc (r := rV) (x := .nilFunc) ti49 (fun _ => ⟨rfl, rfl⟩) rfl (fun b => ?_)
    refine RG.eff0 (eff_storeX (r' := rT ((tFun Try.prog (fun (x : DExpr) => [tD rpDExpr x]) (fun (x : Bool) => tD rB x) (fun (x : DExpr) => logic_Safe_1 x)))) (x' := ()) (q := rT ((tFun Try.prog (fun (x : DExpr) => [tD rpDExpr x]) (fun (x : Bool) => tD rB x) (fun (x : DExpr) => logic_Safe_1 x)))) (y := ()) ti49 rfl (sfx_whole rfl) rfl (ht rfl) (hTT one_fun (show HasTy _ _ _ ((tFun Try.prog (fun (x : DExpr) => [tD rpDExpr x]) (fun (x : Bool) => tD rB x) (fun (x : DExpr) => logic_Safe_1 x))) from (hFn cb22 fun x y h => f22_ok _ h)))) (fun _ => ?_)
    refine (show RG _ _ _ _ (bx (rT ((tFun Try.prog (fun (x : DExpr) => [tD rpDExpr x]) (fun (x : Bool) => tD rB x) (fun (x : DExpr) => logic_Safe_1 x)))) 49 b () :: _) _ from ?_)
    refine RG.settleB 5 rfl ?_
    refine RG.nil ?_
    refine AT.next ?_
    refine CG.seq ?_
    refine CG.seq ?_
    refine CG.region ?_
    refine RG.op (ok_fieldAddr fd24_0 rfl flDLogic_0 rfl (ht rfl)) rfl ?_
    refine RG.op (ok_load ti22 rfl rfl (ht rfl)) rfl ?_
    refine RG.op (ok_lenSl Try.underlying22 (ht rfl)) rfl ?_
    refine RG.op (ok_move hI) rfl ?_
    refine RG.nil ?_
    refine AT.next ?_
    refine CG.block ?_
    refine CG.have_len (k := 17) rfl (fun hN => ?_)
    refine CG.loop ?_
    refine LG.sub (LG.list1 (Z := fun ls i  => (l.Nodes.drop i = ls) ∧ logic_Safe_l1 ls  = some R) (Of := fun _ i  => []) (Gf := fun _ i  => [(5, tPtr (rT (tFun Try.prog (fun (x : DExpr) => [tD rpDExpr x]) (fun (x : Bool) => tD rB x) (fun (x : DExpr) => logic_Safe_1 x))) ()), (17, tD (rSl rpDLNode) l.Nodes), (18, tD (rI .i64) (l.Nodes.length : Int)), (19, tD (rI .i64) (i : Int))]) (fun i  h => ?_) (fun e tl ih i  h => ?_) l.Nodes 0  ⟨rfl, h⟩) ⟨rfl, rfl, rfl, rfl, trivial⟩
    · obtain ⟨hx, h⟩ := h
      refine LG.unfold ?_
      refine CG.seq ?_
      refine CG.region ?_
      refine RG.op (ok_lss (ht rfl) (ht rfl)) rfl ?_
      refine RG.nil ?_
      refine AT.next ?_
      refine CG.seq ?_
      refine CG.condF (ht rfl) (dropF hx) ?_
      refine CG.exit ?_
      refine AT.then_exit (AT.then_exit (AT.in_exit ?_))
      refine AT.next ?_
      refine CG.seq ?_
      refine CG.region ?_
      refine RG.op (ok_assign hB) rfl ?_
      refine RG.nil ?_
      refine AT.next ?_
      refine CG.ret ?_
      cases so h
      exact AT.ret1 rfl rfl
    · obtain ⟨hx, h⟩ := h
      refine LG.unfold ?_
      refine CG.seq ?_
      refine CG.region ?_
      refine RG.op (ok_lss (ht rfl) (ht rfl)) rfl ?_
      refine RG.nil ?_
      refine AT.next ?_
      refine CG.seq ?_
      refine CG.condT (ht rfl) (dropT hx) ?_
      refine CG.skip ?_
      refine AT.next ?_
      refine CG.seq ?_
      refine CG.block ?_
      refine CG.seq ?_
      refine CG.region ?_
      refine RG.op (ok_indexAddr Try.underlying22 ti33 rfl (ht rfl) (ht rfl) (dropI hx)) rfl ?_
      refine RG.op (ok_load ti33 rfl rfl (ht rfl)) rfl ?_
      refine RG.alloc (r := rpDLNode) (x := (⟨(0 : Int), (0 : Int), (0 : Int), (0 : Int), [], false, (⟨[]⟩ : DExpr), [], [], [], [], (0 : Int)⟩ : DLNode)) ti33 (fun _ => zrDLNode _) rfl (fun b1 => ?_)
      refine RG.storeB ti33 rfl sfld_whole rfl (ht rfl) (ht rfl) ?_
      refine RG.settleB 7 rfl ?_
      refine RG.nil ?_
      refine AT.next ?_
      refine CG.seq ?_
      refine CG.region ?_
      refine RG.op ((show OpOK _ _ _ _ ((tFun Try.prog (fun (x : DAgg) => [tD rpDAgg x]) (fun (x : Bool) => tD rB x) (fun (x : DAgg) => (logic_Safe_2 logic_Safe_1) x))) from ok_makeFunc (cts := [tPtr (rT (tFun Try.prog (fun (x : DExpr) => [tD rpDExpr x]) (fun (x : Bool) => tD rB x) (fun (x : DExpr) => logic_Safe_1 x))) ()]) (caps := [.tmp 5]) cb24 ⟨(ht rfl), trivial⟩ (fun x y h => f24_ok _ _ h))) rfl ?_
      refine RG.op (ok_assign (ht rfl)) rfl ?_
      refine RG.nil ?_
      refine AT.next ?_
      refine CG.seq ?_
      refine CG.region ?_
      refine RG.op (ok_loadF ti49 (ht rfl)) rfl ?_
      refine RG.op (ok_fieldAddr fd33_6 rfl flDLNode_6 rfl (ht rfl)) rfl ?_
      refine RG.op (ok_load ti28 rfl rfl (ht rfl)) rfl ?_
      obtain ⟨r1, q_r1, h⟩ := bs h
      refine RG.op (ok_callV (args := (fun (x : DExpr) => [tD rpDExpr x])) (res := (fun (x : Bool) => tD rB x)) (f := (fun (x : DExpr) => logic_Safe_1 x)) (x := ((e.Cond) : DExpr)) (ht rfl) q_r1 ⟨(ht rfl), trivial⟩) rfl ?_
      refine RG.op (ok_move (ht rfl)) rfl ?_
      obtain ⟨t, q_t, h⟩ := bs h
      refine RG.opGf rfl rfl rfl rfl (fun hg => ok_fieldAddr fd33_9 rfl flDLNode_9 rfl (ht rfl)) ?_
      refine RG.opGf rfl rfl rfl rfl (fun hg => ok_load ti30 rfl rfl (htO rfl hg)) ?_
      refine RG.opGf rfl rfl rfl rfl (fun hg => ok_loadF ti49 (ht rfl)) ?_
      obtain ⟨r2, h1t, h0t⟩ := og q_t
      have q_r2g := fun hb => (h1t hb).1
      refine RG.opGf rfl rfl rfl rfl (fun hg => ok_call cb25 (f25_ok _ _ (q_r2g hg)) ⟨(htO rfl hg), (htO rfl hg), trivial⟩) ?_
      refine RG.op (ok_pickOrM (ht rfl) (fun hb => (htO rfl (noti hb))) (fun hb => (h1t hb).2) h0t) rfl ?_
      refine RG.op (ok_move (ht rfl)) rfl ?_
      obtain ⟨t1, q_t1, h⟩ := bs h
      refine RG.opGf rfl rfl rfl rfl (fun hg => ok_fieldAddr fd33_8 rfl flDLNode_8 rfl (ht rfl)) ?_
      refine RG.opGf rfl rfl rfl rfl (fun hg => ok_load ti29 rfl rfl (htO rfl hg)) ?_
      refine RG.opGf rfl rfl rfl rfl (fun hg => ok_move (ht rfl)) ?_
      obtain ⟨r3, h1t1, h0t1⟩ := og q_t1
      have q_r3g := fun hb => (h1t1 hb).1
      refine RG.opGf rfl rfl rfl rfl (fun hg => ok_call cb26 (f26_ok _ _ (q_r3g hg)) ⟨(htO rfl hg), (htO rfl hg), trivial⟩) ?_
      refine RG.op (ok_pickOrM (ht rfl) (fun hb => (htO rfl (noti hb))) (fun hb => (h1t1 hb).2) h0t1) rfl ?_
      refine RG.nil ?_
      refine AT.next ?_
      refine CG.cond (ht rfl) (fun hc => ?_) (fun hc => ?_)
      · have h := ct h hc
        refine CG.seq ?_
        refine CG.region ?_
        refine RG.op (ok_assign hB) rfl ?_
        refine RG.nil ?_
        refine AT.next ?_
        refine CG.ret ?_
        refine AT.in_ret (AT.then_ret (AT.then_ret (AT.in_ret (AT.then_ret ?_))))
        cases so h
        exact AT.ret1 rfl rfl
      · have h := cf h hc
        refine CG.skip ?_
        refine AT.in_normal ?_
        refine AT.next ?_
        refine CG.region ?_
        refine RG.op (ok_incN (dropL hx hN) (ht rfl) hI) rfl ?_
        refine RG.op (ok_move (ht rfl)) rfl ?_
        refine RG.nil ?_
        exact AT.round (LG.sub (ih (i + 1)  ⟨dropS hx, h⟩) ⟨rfl, rfl, rfl, rfl, trivial⟩)

set_option maxRecDepth 100000 in
theorem f14_own (l : DLogic) {R : (List Int)} (h : logic_Tables l = some R) : SpecO Try.prog 14 [tD rpDLogic l] false (rI .i64) 3 R := by
  refine SpecO.of Try.func14 rfl rfl rfl fun w0 S0 => ?_
  refine CG.seq ?_
  refine CG.region ?_
  refine RG.op (ok_box (ht rfl)) rfl ?_
  refine RG.fresh false (rI .i64) 3 ?_
  refine RG.op (ok_assign hVn) rfl ?_
  refine RG.nil ?_
  refine AT.next ?_
  refine CG.seq ?_
  refine CG.seq ?_
  refine CG.region ?_
  refine RG.op (ok_load ti24 rfl rfl (ht rfl)) rfl ?_
  obtain ⟨r, q_r, h⟩ := bs h
  refine RG.op (ok_call cb21 (f21_ok _ q_r) ⟨(ht rfl), trivial⟩) rfl ?_
  refine RG.op (ok_move (ht rfl)) rfl ?_
  refine RG.op (ok_extract rfl (ht rfl)) rfl ?_
  refine RG.op (ok_extract rfl (ht rfl)) rfl ?_
  refine RG.op (ok_assign (ht rfl)) rfl ?_
  refine RG.op (ok_assign (ht rfl)) rfl ?_
  refine RG.nil ?_
  refine AT.next ?_
  refine CG.seq ?_
  refine CG.region ?_
  refine RG.op (ok_move (ht rfl)) rfl ?_
  refine RG.op (ok_neqI (ht rfl) hI) rfl ?_
  refine RG.nil ?_
  refine AT.next ?_
  refine CG.cond (ht rfl) (fun hc => ?_) (fun hc => ?_)
  · have h := ct h hc
    refine CG.seq ?_
    refine CG.region ?_
    refine RG.fresh false (rI .i64) 3 ?_
    refine RG.op (ok_assign hVn) rfl ?_
    refine RG.nil ?_
    refine AT.next ?_
    refine CG.ret ?_
    refine AT.then_ret ?_
    cases so h
    exact AT.retO rfl rfl
  · have h := cf h hc
    refine CG.skip ?_
    refine AT.next ?_
    refine CG.seq ?_
    refine CG.region ?_
    refine RG.fresh false (rI .i64) 3 ?_
    refine RG.op (ok_assign hVn) rfl ?_
    refine RG.nil ?_
    refine AT.next ?_
    refine CG.seq ?_
    refine CG.seq ?_
    refine CG.region ?_
    refine RG.op (ok_fieldAddr fd24_0 rfl flDLogic_0 rfl (ht rfl)) rfl ?_
    refine RG.op (ok_load ti22 rfl rfl (ht rfl)) rfl ?_
    refine RG.op (ok_lenSl Try.underlying22 (ht rfl)) rfl ?_
    refine RG.op (ok_move hI) rfl ?_
    refine RG.nil ?_
    refine AT.next ?_
    refine CG.block ?_
    refine CG.have_len (k := 16) rfl (fun hN => ?_)
    refine CG.loop ?_
    refine LG.front1 ?_
    refine LG.drop ?_
    refine LG.sub (LG.list4 (Z := fun ls i out l1 c => (l.Nodes.drop i = ls) ∧ logic_Tables_l1 ls out = some R) (Of := fun _ i out l1 c => [arr (rI .i64) 3 l1 c out]) (Gf := fun _ i out l1 c => [(5, tV (oslV l1 c out.length)), (16, tD (rSl rpDLNode) l.Nodes), (17, tD (rI .i64) (l.Nodes.length : Int)), (18, tD (rI .i64) (i : Int))]) (fun i out l1 c h => ?_) (fun e tl ih i out l1 c h => ?_) l.Nodes 0 ([] : List Int) none 0 ⟨rfl, h⟩) ⟨rfl, rfl, rfl, rfl, trivial⟩
    · obtain ⟨hx, h⟩ := h
      refine LG.unfold ?_
      refine CG.seq ?_
      refine CG.region ?_
      refine RG.op (ok_lss (ht rfl) (ht rfl)) rfl ?_
      refine RG.nil ?_
      refine AT.next ?_
      refine CG.seq ?_
      refine CG.condF (ht rfl) (dropF hx) ?_
      refine CG.exit ?_
      refine AT.then_exit (AT.then_exit (AT.in_exit ?_))
      refine AT.next ?_
      refine CG.seq ?_
      refine CG.region ?_
      refine RG.op (ok_move (ht rfl)) rfl ?_
      obtain ⟨srt, q_srt, h⟩ := bs h
      refine RG.sortI (n := out.length) (ys := srt) Try.sortI27 ?_ cb27 ?_ ?_ ?_ ?_ ?_
      · rfl
      · exact q_srt
      · exact (ht rfl)
      · rfl
      · rfl
      intro hl
      refine RG.relen hl 5 rfl ?_
      refine RG.relen hl 31 rfl ?_
      refine RG.nil ?_
      refine AT.next ?_
      refine CG.seq ?_
      refine CG.region ?_
      refine RG.op (ok_move (ht rfl)) rfl ?_
      obtain ⟨r1, q_r1, h⟩ := bs h
      refine RG.callM [arr (rI .i64) 3 l1 c srt] _ rfl cb28 (f28_m l1 c _ q_r1) ⟨(ht rfl), trivial⟩ rfl (fun i1 => ?_)
      refine (show RG _ _ _ _ [arr (rI .i64) 3 (i1.h 0).1 (i1.h 0).2 r1] ((34, tV (oslV (i1.h 0).1 (i1.h 0).2 r1.length)) :: _) from ?_)
      refine RG.op (ok_assign (ht rfl)) rfl ?_
      refine RG.nil ?_
      refine AT.next ?_
      refine CG.ret ?_
      cases so h
      exact AT.retO rfl rfl
    · obtain ⟨hx, h⟩ := h
      refine LG.unfold ?_
      refine CG.seq ?_
      refine CG.region ?_
      refine RG.op (ok_lss (ht rfl) (ht rfl)) rfl ?_
      refine RG.nil ?_
      refine AT.next ?_
      refine CG.seq ?_
      refine CG.condT (ht rfl) (dropT hx) ?_
      refine CG.skip ?_
      refine AT.next ?_
      refine CG.seq ?_
      refine CG.block ?_
      refine CG.seq ?_
      refine CG.region ?_
      refine RG.op (ok_indexAddr Try.underlying22 ti33 rfl (ht rfl) (ht rfl) (dropI hx)) rfl ?_
      refine RG.op (ok_load ti33 rfl rfl (ht rfl)) rfl ?_
      refine RG.alloc (r := rpDLNode) (x := (⟨(0 : Int), (0 : Int), (0 : Int), (0 : Int), [], false, (⟨[]⟩ : DExpr), [], [], [], [], (0 : Int)⟩ : DLNode)) ti33 (fun _ => zrDLNode _) rfl (fun b => ?_)
      refine RG.storeB ti33 rfl sfld_whole rfl (ht rfl) (ht rfl) ?_
      refine RG.settleB 7 rfl ?_
      refine RG.nil ?_
      refine AT.next ?_
      refine CG.seq ?_
      refine CG.region ?_
      refine RG.op (ok_fieldAddr fd33_0 rfl flDLNode_0 rfl (ht rfl)) rfl ?_
      refine RG.op (ok_load ti3 rfl rfl (ht rfl)) rfl ?_
      refine RG.op (ok_eqlI (ht rfl) hI) rfl ?_
      refine RG.nil ?_
      refine AT.next ?_
      refine CG.cond (ht rfl) (fun hc => ?_) (fun hc => ?_)
      · have h := ct h hc
        refine CG.region ?_
        refine RG.op (ok_move (ht rfl)) rfl ?_
        refine RG.op (ok_fieldAddr fd33_3 rfl flDLNode_3 rfl (ht rfl)) rfl ?_
        refine RG.op (ok_load ti3 rfl rfl (ht rfl)) rfl ?_
        refine RG.op (ok_buildSlice (r := (rI .i64)) (ys := [e.Table]) (xs := [.tmp 27]) Try.underlying25 ti3 rfl rfl rfl rfl rfl ⟨(ht rfl), trivial⟩) rfl ?_
        obtain ⟨out1, q_out1, h⟩ := bs h
        refine RG.append ti3 rfl rfl rfl rfl Try.underlying25 rfl rfl (ht rfl) (ht rfl) q_out1 (fun l3 c2 => ?_)
        refine RG.op (ok_assign (ht rfl)) rfl ?_
        refine RG.nil ?_
        refine AT.in_normal ?_
        refine AT.next ?_
        refine CG.region ?_
        refine RG.op (ok_incN (dropL hx hN) (ht rfl) hI) rfl ?_
        refine RG.op (ok_move (ht rfl)) rfl ?_
        refine RG.nil ?_
        exact AT.round (LG.sub (ih (i + 1) out1 l3 c2 ⟨dropS hx, h⟩) ⟨rfl, rfl, rfl, rfl, trivial⟩)
      · have h := cf h hc
        refine CG.skip ?_
        refine AT.in_normal ?_
        refine AT.next ?_
        refine CG.region ?_
        refine RG.op (ok_incN (dropL hx hN) (ht rfl) hI) rfl ?_
        refine RG.op (ok_move (ht rfl)) rfl ?_
        refine RG.nil ?_
        exact AT.round (LG.sub (ih (i + 1) out l1 c ⟨dropS hx, h⟩) ⟨rfl, rfl, rfl, rfl, trivial⟩)
theorem f14_ok (l : DLogic) {R : (List Int)} (h : logic_Tables l = some R) : Spec Try.prog 14 [tD rpDLogic l] (tD (rSl (rI .i64)) R) := (f14_own _ h).spec

set_option maxRecDepth 100000 in
theorem f4_ok (l : DLogic) {R : Bool} (h : law13_LogicDoubles l = some R) : Spec Try.prog 4 [tD rpDLogic l] (tD rB R) := by
  refine Spec.of Try.func4 rfl rfl rfl fun w0 S0 => ?_
  refine CG.seq ?_
  refine CG.region ?_
  refine RG.op (ok_box (ht rfl)) rfl ?_
  refine RG.op (ok_assign hB) rfl ?_
  refine RG.nil ?_
  refine AT.next ?_
  refine CG.seq ?_
  refine CG.seq ?_
  refine CG.region ?_
  obtain ⟨r, q_r, h⟩ := bs h
  refine RG.op (ok_call cb5 (f5_ok  q_r) trivial) rfl ?_
  refine RG.op (ok_not (ht rfl)) rfl ?_
  refine RG.nil ?_
  refine AT.next ?_
  refine CG.cond (ht rfl) (fun hc => ?_) (fun hc => ?_)
  · have h := ct h hc
    refine CG.seq ?_
    refine CG.region ?_
    refine RG.op (ok_assign hB) rfl ?_
    refine RG.nil ?_
    refine AT.next ?_
    refine CG.ret ?_
    refine AT.then_ret ?_
    cases so h
    exact AT.ret1 rfl rfl
  · have h := cf h hc
    refine CG.skip ?_
    refine AT.next ?_
    refine CG.seq ?_
    refine CG.seq ?_
    refine CG.region ?_
    refine RG.op (ok_load ti24 rfl rfl (ht rfl)) rfl ?_
    obtain ⟨r1, q_r1, h⟩ := bs h
    refine RG.op (ok_call cb6 (f6_ok _ q_r1) ⟨(ht rfl), trivial⟩) rfl ?_
    refine RG.nil ?_
    refine AT.next ?_
    refine CG.cond (ht rfl) (fun hc => ?_) (fun hc => ?_)
    · have h := ct h hc
      refine CG.seq ?_
      refine CG.region ?_
      refine RG.op (ok_assign hB) rfl ?_
      refine RG.nil ?_
      refine AT.next ?_
      refine CG.ret ?_
      refine AT.then_ret ?_
      cases so h
      exact AT.ret1 rfl rfl
    · have h := cf h hc
      refine CG.skip ?_
      refine AT.next ?_
      refine CG.seq ?_
      refine CG.region ?_
      refine RG.op (ok_load ti24 rfl rfl (ht rfl)) rfl ?_
      obtain ⟨r2, q_r2, h⟩ := bs h
      refine RG.op (ok_call cb9 (f9_ok _ q_r2) ⟨(ht rfl), trivial⟩) rfl ?_
      refine RG.op (ok_move (ht rfl)) rfl ?_
      refine RG.op (ok_extract rfl (ht rfl)) rfl ?_
      refine RG.op (ok_extract rfl (ht rfl)) rfl ?_
      refine RG.op (ok_assign (ht rfl)) rfl ?_
      refine RG.op (ok_assign (ht rfl)) rfl ?_
      refine RG.nil ?_
      refine AT.next ?_
      refine CG.seq ?_
      refine CG.region ?_
      refine RG.op (ok_build (y := (⟨(7 : Int), (0 : Int), (0 : Int), (0 : Int), [], false, (⟨[]⟩ : DExpr), [], [], [], [], (0 : Int)⟩ : DLNode)) ti33 fs33 zrDLNode (⟨_, _, _, _, _, rfl, sfDLNode_0, rfl, hI, rfl⟩)) rfl ?_
      refine RG.op (ok_load ti24 rfl rfl (ht rfl)) rfl ?_
      refine RG.op (ok_load ti24 rfl rfl (ht rfl)) rfl ?_
      obtain ⟨r3, q_r3, h⟩ := bs h
      refine RG.op (ok_call cb10 (f10_ok _ _ _ q_r3) ⟨(ht rfl), (ht rfl), (ht rfl), trivial⟩) rfl ?_
      refine RG.op (ok_move (ht rfl)) rfl ?_
      refine RG.op (ok_extract rfl (ht rfl)) rfl ?_
      refine RG.op (ok_extract rfl (ht rfl)) rfl ?_
      refine RG.alloc (r := rpDLogic) (x := (⟨[]⟩ : DLogic)) ti24 (fun _ => zrDLogic _) rfl (fun b => ?_)
      refine RG.storeB ti24 rfl sfld_whole rfl (ht rfl) (ht rfl) ?_
      refine RG.settleB 5 rfl ?_
      refine RG.op (ok_assign (ht rfl)) rfl ?_
      refine RG.nil ?_
      refine AT.next ?_
      refine CG.seq ?_
      refine CG.seq ?_
      refine CG.region ?_
      refine RG.op (ok_move (ht rfl)) rfl ?_
      refine RG.op (ok_neqI (ht rfl) hI) rfl ?_
      refine RG.op (ok_move (ht rfl)) rfl ?_
      obtain ⟨t, q_t, h⟩ := bs h
      refine RG.opGf rfl rfl rfl rfl (fun hg => ok_fieldAddr fd24_0 rfl flDLogic_0 rfl (ht rfl)) ?_
      refine RG.opGf rfl rfl rfl rfl (fun hg => ok_load ti22 rfl rfl (htO rfl hg)) ?_
      refine RG.opGf rfl rfl rfl rfl (fun hg => ok_fieldAddr fd24_0 rfl flDLogic_0 rfl (ht rfl)) ?_
      refine RG.opGf rfl rfl rfl rfl (fun hg => ok_load ti22 rfl rfl (htO rfl hg)) ?_
      refine RG.opGf rfl rfl rfl rfl (fun hg => ok_lenSl Try.underlying22 (htO rfl hg)) ?_
      refine RG.opGf rfl rfl rfl rfl (fun hg => ok_sub (htO rfl hg) hI) ?_
      obtain ⟨e, h1t, h0t⟩ := og q_t
      have q_eg := fun hb => (h1t hb).1
      refine RG.opGf rfl rfl rfl rfl (fun hg => ok_indexAddr Try.underlying22 ti33 rfl (htO rfl hg) (htO rfl hg) (q_eg hg)) ?_
      refine RG.opGf rfl rfl rfl rfl (fun hg => ok_fieldAddr fd33_0 rfl flDLNode_0 rfl (htO rfl hg)) ?_
      refine RG.opGf rfl rfl rfl rfl (fun hg => ok_load ti3 rfl rfl (htO rfl hg)) ?_
      refine RG.opGf rfl rfl rfl rfl (fun hg => ok_eqlI (htO rfl hg) hI) ?_
      refine RG.op (ok_pickOrM (ht rfl) (fun hb => (htO rfl (noti hb))) (fun hb => (h1t hb).2) h0t) rfl ?_
      refine RG.op (ok_move (ht rfl)) rfl ?_
      refine RG.opGf rfl rfl rfl rfl (fun hg => ok_fieldAddr fd24_0 rfl flDLogic_0 rfl (ht rfl)) ?_
      refine RG.opGf rfl rfl rfl rfl (fun hg => ok_load ti22 rfl rfl (htO rfl hg)) ?_
      refine RG.opGf rfl rfl rfl rfl (fun hg => ok_lenSl Try.underlying22 (htO rfl hg)) ?_
      refine RG.opGf rfl rfl rfl rfl (fun hg => ok_mul hI (htO rfl hg)) ?_
      refine RG.opGf rfl rfl rfl rfl (fun hg => ok_add (htO rfl hg) hI) ?_
      refine RG.opGf rfl rfl rfl rfl (fun hg => ok_gtr (htO rfl hg) hI) ?_
      refine RG.op (ok_pickOr (ht rfl) (fun hb => (htO rfl (noti hb)))) rfl ?_
      refine RG.nil ?_
      refine AT.next ?_
      refine CG.cond (ht rfl) (fun hc => ?_) (fun hc => ?_)
      · have h := ct h hc
        refine CG.seq ?_
        refine CG.region ?_
        refine RG.op (ok_move (ht rfl)) rfl ?_
        refine RG.op (ok_eqlI (ht rfl) hI) rfl ?_
        refine RG.op (ok_assign (ht rfl)) rfl ?_
        refine RG.nil ?_
        refine AT.next ?_
        refine CG.ret ?_
        refine AT.then_ret ?_
        cases so h
        exact AT.ret1 rfl rfl
      · have h := cf h hc
        refine CG.skip ?_
        refine AT.next ?_
        refine CG.seq ?_
        refine CG.region ?_
        refine RG.op (ok_load ti24 rfl rfl (ht rfl)) rfl ?_
        obtain ⟨r4, q_r4, h⟩ := bs h
        refine RG.op (ok_call cb9 (f9_ok _ q_r4) ⟨(ht rfl), trivial⟩) rfl ?_
        refine RG.op (ok_move (ht rfl)) rfl ?_
        refine RG.op (ok_extract rfl (ht rfl)) rfl ?_
        refine RG.op (ok_extract rfl (ht rfl)) rfl ?_
        refine RG.op (ok_assign (ht rfl)) rfl ?_
        refine RG.op (ok_assign (ht rfl)) rfl ?_
        refine RG.nil ?_
        refine AT.next ?_
        refine CG.seq ?_
        refine CG.seq ?_
        obtain ⟨t1, q_t1, h⟩ := bs h
        obtain ⟨r5, h1t1, h0t1⟩ := og q_t1
        have q_r5g := fun hb => (h1t1 hb).1
        obtain ⟨r6, h1t1⟩ := og2 (fun hb => (h1t1 hb).2)
        have q_r6g := fun hb => (h1t1 hb).1
        obtain ⟨t2, q_t2, h⟩ := bs h
        obtain ⟨r7, h1t2, h0t2⟩ := og q_t2
        have q_r7g := fun hb => (h1t2 hb).1
        obtain ⟨r8, h1t2⟩ := og2 (fun hb => (h1t2 hb).2)
        have q_r8g := fun hb => (h1t2 hb).1
        refine CG.draw (ts := [tD (rI .i64) r3.2, tD rB (r3.2 != (0 : Int)), tD rB (r3.2 != (0 : Int)), tOpt (!(r3.2 != (0 : Int))) (tD (rI .i64) r4.2), tOpt (!(r3.2 != (0 : Int))) (tD rB (r4.2 != (0 : Int))), tD rB ((r3.2 != (0 : Int)) || (r4.2 != (0 : Int))), tD rB ((r3.2 != (0 : Int)) || (r4.2 != (0 : Int))), tOpt (!((r3.2 != (0 : Int)) || (r4.2 != (0 : Int)))) (tD (rSl (rI .i64)) r4.1), tOpt (!((r3.2 != (0 : Int)) || (r4.2 != (0 : Int)))) (tD (rI .i64) (r4.1.length : Int)), tOpt (!((r3.2 != (0 : Int)) || (r4.2 != (0 : Int)))) (tD (rSl (rI .i64)) r2.1), tOpt (!((r3.2 != (0 : Int)) || (r4.2 != (0 : Int)))) (tD (rI .i64) (r2.1.length : Int)), tOpt (!((r3.2 != (0 : Int)) || (r4.2 != (0 : Int)))) (tD rB ((r4.1.length : Int) != (r2.1.length : Int))), tD rB (((r3.2 != (0 : Int)) || (r4.2 != (0 : Int))) || ((r4.1.length : Int) != (r2.1.length : Int))), tD rB (((r3.2 != (0 : Int)) || (r4.2 != (0 : Int))) || ((r4.1.length : Int) != (r2.1.length : Int))), tOpt (!(((r3.2 != (0 : Int)) || (r4.2 != (0 : Int))) || ((r4.1.length : Int) != (r2.1.length : Int)))) (tD rpDLogic r3.1), tOpt (!(((r3.2 != (0 : Int)) || (r4.2 != (0 : Int))) || ((r4.1.length : Int) != (r2.1.length : Int)))) (tD rB r5), tOpt (!(((r3.2 != (0 : Int)) || (r4.2 != (0 : Int))) || ((r4.1.length : Int) != (r2.1.length : Int)))) (tD rpDLogic l), tOpt (!(((r3.2 != (0 : Int)) || (r4.2 != (0 : Int))) || ((r4.1.length : Int) != (r2.1.length : Int)))) (tD rB r6), tOpt (!(((r3.2 != (0 : Int)) || (r4.2 != (0 : Int))) || ((r4.1.length : Int) != (r2.1.length : Int)))) (tD rB (r5 != r6)), tD rB t1, tD rB t1, tOpt (!t1) (tD rpDLogic r3.1), tOpt (!t1) (tD (rSl (rI .i64)) r7), tOpt (!t1) (tD (rI .i64) (r7.length : Int)), tOpt (!t1) (tD rpDLogic l), tOpt (!t1) (tD (rSl (rI .i64)) r8), tOpt (!t1) (tD (rI .i64) (r8.length : Int)), tOpt (!t1) (tD rB ((r7.length : Int) != (r8.length : Int))), tD rB t2]) mixed rfl rfl
          ⟨⟨[⟨6, _, none⟩], _, rfl, ⟨rfl, trivial⟩, rfl, rfl, OpG.plain rfl (ok_move (ht rfl))⟩,
          ⟨⟨[⟨55, _, some 0⟩], _, rfl, ⟨rfl, trivial⟩, rfl, rfl, OpG.plain rfl (ok_neqI (ht rfl) hI)⟩,
          ⟨⟨[⟨56, _, some 1⟩], _, rfl, ⟨rfl, trivial⟩, rfl, rfl, OpG.plain rfl (ok_move (ht rfl))⟩,
          ⟨⟨[⟨8, _, none⟩, ⟨57, _, some 2⟩], _, rfl, ⟨rfl, rfl, trivial⟩, rfl, rfl, OpG.gf rfl rfl rfl rfl (fun hg => ok_move (ht rfl))⟩,
          ⟨⟨[⟨58, _, some 3⟩, ⟨57, _, some 2⟩], _, rfl, ⟨rfl, rfl, trivial⟩, rfl, rfl, OpG.gf rfl rfl rfl rfl (fun hg => ok_neqI (htO rfl hg) hI)⟩,
          ⟨⟨[⟨57, _, some 2⟩, ⟨59, _, some 4⟩], _, rfl, ⟨rfl, rfl, trivial⟩, rfl, rfl, OpG.plain rfl (ok_pickOr (ht rfl) (fun hb => (htO rfl (noti hb))))⟩,
          ⟨⟨[⟨60, _, some 5⟩], _, rfl, ⟨rfl, trivial⟩, rfl, rfl, OpG.plain rfl (ok_move (ht rfl))⟩,
          ⟨⟨[⟨7, _, none⟩, ⟨61, _, some 6⟩], _, rfl, ⟨rfl, rfl, trivial⟩, rfl, rfl, OpG.gf rfl rfl rfl rfl (fun hg => ok_move (ht rfl))⟩,
          ⟨⟨[⟨62, _, some 7⟩, ⟨61, _, some 6⟩], _, rfl, ⟨rfl, rfl, trivial⟩, rfl, rfl, OpG.gf rfl rfl rfl rfl (fun hg => ok_lenSl Try.underlying25 (htO rfl hg))⟩,
          ⟨⟨[⟨3, _, none⟩, ⟨61, _, some 6⟩], _, rfl, ⟨rfl, rfl, trivial⟩, rfl, rfl, OpG.gf rfl rfl rfl rfl (fun hg => ok_move (ht rfl))⟩,
          ⟨⟨[⟨64, _, some 9⟩, ⟨61, _, some 6⟩], _, rfl, ⟨rfl, rfl, trivial⟩, rfl, rfl, OpG.gf rfl rfl rfl rfl (fun hg => ok_lenSl Try.underlying25 (htO rfl hg))⟩,
          ⟨⟨[⟨63, _, some 8⟩, ⟨65, _, some 10⟩, ⟨61, _, some 6⟩], _, rfl, ⟨rfl, rfl, rfl, trivial⟩, rfl, rfl, OpG.gf rfl rfl rfl rfl (fun hg => ok_neqI (htO rfl hg) (htO rfl hg))⟩,
          ⟨⟨[⟨61, _, some 6⟩, ⟨66, _, some 11⟩], _, rfl, ⟨rfl, rfl, trivial⟩, rfl, rfl, OpG.plain rfl (ok_pickOr (ht rfl) (fun hb => (htO rfl (noti hb))))⟩,
          ⟨⟨[⟨67, _, some 12⟩], _, rfl, ⟨rfl, trivial⟩, rfl, rfl, OpG.plain rfl (ok_move (ht rfl))⟩,
          ⟨⟨[⟨5, _, none⟩, ⟨68, _, some 13⟩], _, rfl, ⟨rfl, rfl, trivial⟩, rfl, rfl, OpG.gf rfl rfl rfl rfl (fun hg => ok_load ti24 rfl rfl (ht rfl))⟩,
          ⟨⟨[⟨69, _, some 14⟩, ⟨68, _, some 13⟩], _, rfl, ⟨rfl, rfl, trivial⟩, rfl, rfl, OpG.gf rfl rfl rfl rfl (fun hg => ok_call cb13 (f13_ok _ (q_r5g hg)) ⟨(htO rfl hg), trivial⟩)⟩,
          ⟨⟨[⟨1, _, none⟩, ⟨68, _, some 13⟩], _, rfl, ⟨rfl, rfl, trivial⟩, rfl, rfl, OpG.gf rfl rfl rfl rfl (fun hg => ok_load ti24 rfl rfl (ht rfl))⟩,
          ⟨⟨[⟨71, _, some 16⟩, ⟨68, _, some 13⟩], _, rfl, ⟨rfl, rfl, trivial⟩, rfl, rfl, OpG.gf rfl rfl rfl rfl (fun hg => ok_call cb13 (f13_ok _ (q_r6g hg)) ⟨(htO rfl hg), trivial⟩)⟩,
          ⟨⟨[⟨70, _, some 15⟩, ⟨72, _, some 17⟩, ⟨68, _, some 13⟩], _, rfl, ⟨rfl, rfl, rfl, trivial⟩, rfl, rfl, OpG.gf rfl rfl rfl rfl (fun hg => ok_neqB Try.underlying4 (htO rfl hg) (htO rfl hg))⟩,
          ⟨⟨[⟨68, _, some 13⟩, ⟨73, _, some 18⟩], _, rfl, ⟨rfl, rfl, trivial⟩, rfl, rfl, OpG.plain rfl (ok_pickOrM (ht rfl) (fun hb => (htO rfl (noti hb))) (fun hb => (h1t1 hb).2) h0t1)⟩,
          ⟨⟨[⟨74, _, some 19⟩], _, rfl, ⟨rfl, trivial⟩, rfl, rfl, OpG.plain rfl (ok_move (ht rfl))⟩,
          ⟨⟨[⟨5, _, none⟩, ⟨75, _, some 20⟩], _, rfl, ⟨rfl, rfl, trivial⟩, rfl, rfl, OpG.gf rfl rfl rfl rfl (fun hg => ok_load ti24 rfl rfl (ht rfl))⟩,
          ⟨⟨[⟨76, _, some 21⟩, ⟨75, _, some 20⟩], _, rfl, ⟨rfl, rfl, trivial⟩, rfl, rfl, OpG.gf rfl rfl rfl rfl (fun hg => ok_call cb14 (f14_ok _ (q_r7g hg)) ⟨(htO rfl hg), trivial⟩)⟩,
          ⟨⟨[⟨77, _, some 22⟩, ⟨75, _, some 20⟩], _, rfl, ⟨rfl, rfl, trivial⟩, rfl, rfl, OpG.gf rfl rfl rfl rfl (fun hg => ok_lenSl Try.underlying25 (htO rfl hg))⟩,
          ⟨⟨[⟨1, _, none⟩, ⟨75, _, some 20⟩], _, rfl, ⟨rfl, rfl, trivial⟩, rfl, rfl, OpG.gf rfl rfl rfl rfl (fun hg => ok_load ti24 rfl rfl (ht rfl))⟩,
          ⟨⟨[⟨79, _, some 24⟩, ⟨75, _, some 20⟩], _, rfl, ⟨rfl, rfl, trivial⟩, rfl, rfl, OpG.gf rfl rfl rfl rfl (fun hg => ok_call cb14 (f14_ok _ (q_r8g hg)) ⟨(htO rfl hg), trivial⟩)⟩,
          ⟨⟨[⟨80, _, some 25⟩, ⟨75, _, some 20⟩], _, rfl, ⟨rfl, rfl, trivial⟩, rfl, rfl, OpG.gf rfl rfl rfl rfl (fun hg => ok_lenSl Try.underlying25 (htO rfl hg))⟩,
          ⟨⟨[⟨78, _, some 23⟩, ⟨81, _, some 26⟩, ⟨75, _, some 20⟩], _, rfl, ⟨rfl, rfl, rfl, trivial⟩, rfl, rfl, OpG.gf rfl rfl rfl rfl (fun hg => ok_neqI (htO rfl hg) (htO rfl hg))⟩,
          ⟨⟨[⟨75, _, some 20⟩, ⟨82, _, some 27⟩], _, rfl, ⟨rfl, rfl, trivial⟩, rfl, rfl, OpG.plain rfl (ok_pickOrM (ht rfl) (fun hb => (htO rfl (noti hb))) (fun hb => (h1t2 hb).2) h0t2)⟩,
          trivial⟩⟩⟩⟩⟩⟩⟩⟩⟩⟩⟩⟩⟩⟩⟩⟩⟩⟩⟩⟩⟩⟩⟩⟩⟩⟩⟩⟩⟩ ?_
        refine AT.next ?_
        refine CG.cond (ht rfl) (fun hc => ?_) (fun hc => ?_)
        · have h := ct h hc
          refine CG.seq ?_
          refine CG.region ?_
          refine RG.op (ok_assign hB) rfl ?_
          refine RG.nil ?_
          refine AT.next ?_
          refine CG.ret ?_
          refine AT.then_ret ?_
          cases so h
          exact AT.ret1 rfl rfl
        · have h := cf h hc
          refine CG.skip ?_
          refine AT.next ?_
          refine CG.seq ?_
          refine CG.seq ?_
          refine CG.region ?_
          refine RG.op (ok_move (ht rfl)) rfl ?_
          refine RG.op (ok_lenSl Try.underlying25 (ht rfl)) rfl ?_
          refine RG.op (ok_move hI) rfl ?_
          refine RG.nil ?_
          refine AT.next ?_
          refine CG.block ?_
          refine CG.have_len (k := 84) rfl (fun hN => ?_)
          refine CG.loop ?_
          refine LG.sub (LG.list1 (Z := fun ls i  => (r2.1.drop i = ls) ∧ law13_LogicDoubles_l1 r4 ls i  = some R) (Of := fun _ i  => []) (Gf := fun _ i  => [(3, tD (rSl (rI .i64)) r2.1), (7, tD (rSl (rI .i64)) r4.1), (85, tD (rI .i64) (r2.1.length : Int)), (86, tD (rI .i64) (i : Int))]) (fun i  h => ?_) (fun e1 tl ih i  h => ?_) r2.1 0  ⟨rfl, h⟩) ⟨rfl, rfl, rfl, rfl, trivial⟩
          · obtain ⟨hx, h⟩ := h
            refine LG.unfold ?_
            refine CG.seq ?_
            refine CG.region ?_
            refine RG.op (ok_lss (ht rfl) (ht rfl)) rfl ?_
            refine RG.nil ?_
            refine AT.next ?_
            refine CG.seq ?_
            refine CG.condF (ht rfl) (dropF hx) ?_
            refine CG.exit ?_
            refine AT.then_exit (AT.then_exit (AT.in_exit ?_))
            refine AT.next ?_
            refine CG.seq ?_
            refine CG.region ?_
            refine RG.op (ok_assign hB) rfl ?_
            refine RG.nil ?_
            refine AT.next ?_
            refine CG.ret ?_
            cases so h
            exact AT.ret1 rfl rfl
          · obtain ⟨hx, h⟩ := h
            refine LG.unfold ?_
            refine CG.seq ?_
            refine CG.region ?_
            refine RG.op (ok_lss (ht rfl) (ht rfl)) rfl ?_
            refine RG.nil ?_
            refine AT.next ?_
            refine CG.seq ?_
            refine CG.condT (ht rfl) (dropT hx) ?_
            refine CG.skip ?_
            refine AT.next ?_
            refine CG.seq ?_
            refine CG.block ?_
            refine CG.seq ?_
            refine CG.region ?_
            refine RG.op (ok_move (ht rfl)) rfl ?_
            refine RG.op (ok_assign (ht rfl)) rfl ?_
            refine RG.nil ?_
            refine AT.next ?_
            refine CG.seq ?_
            obtain ⟨e2, q_e2, h⟩ := bs h
            refine CG.draw (ts := [tD (rSl (rI .i64)) r2.1, tD (rI .i64) (i : Int), tPtr (rI .i64) e1, tD (rI .i64) e1, tD (rSl (rI .i64)) r4.1, tD (rI .i64) (i : Int), tPtr (rI .i64) e2, tD (rI .i64) e2, tD rB (e1 != e2)]) mixed rfl rfl
              ⟨⟨[⟨3, _, none⟩], _, rfl, ⟨rfl, trivial⟩, rfl, rfl, OpG.plain rfl (ok_move (ht rfl))⟩,
              ⟨⟨[⟨9, _, none⟩], _, rfl, ⟨rfl, trivial⟩, rfl, rfl, OpG.plain rfl (ok_move (ht rfl))⟩,
              ⟨⟨[⟨89, _, some 0⟩, ⟨90, _, some 1⟩], _, rfl, ⟨rfl, rfl, trivial⟩, rfl, rfl, OpG.plain rfl (ok_indexAddr Try.underlying25 ti3 rfl (ht rfl) (ht rfl) (dropI hx))⟩,
              ⟨⟨[⟨91, _, some 2⟩], _, rfl, ⟨rfl, trivial⟩, rfl, rfl, OpG.plain rfl (ok_load ti3 rfl rfl (ht rfl))⟩,
              ⟨⟨[⟨7, _, none⟩], _, rfl, ⟨rfl, trivial⟩, rfl, rfl, OpG.plain rfl (ok_move (ht rfl))⟩,
              ⟨⟨[⟨9, _, none⟩], _, rfl, ⟨rfl, trivial⟩, rfl, rfl, OpG.plain rfl (ok_move (ht rfl))⟩,
              ⟨⟨[⟨93, _, some 4⟩, ⟨94, _, some 5⟩], _, rfl, ⟨rfl, rfl, trivial⟩, rfl, rfl, OpG.plain rfl (ok_indexAddr Try.underlying25 ti3 rfl (ht rfl) (ht rfl) q_e2)⟩,
              ⟨⟨[⟨95, _, some 6⟩], _, rfl, ⟨rfl, trivial⟩, rfl, rfl, OpG.plain rfl (ok_load ti3 rfl rfl (ht rfl))⟩,
              ⟨⟨[⟨92, _, some 3⟩, ⟨96, _, some 7⟩], _, rfl, ⟨rfl, rfl, trivial⟩, rfl, rfl, OpG.plain rfl (ok_neqI (ht rfl) (ht rfl))⟩,
              trivial⟩⟩⟩⟩⟩⟩⟩⟩⟩ ?_
            refine AT.next ?_
            refine CG.cond (ht rfl) (fun hc => ?_) (fun hc => ?_)
            · have h := ct h hc
              refine CG.seq ?_
              refine CG.region ?_
              refine RG.op (ok_assign hB) rfl ?_
              refine RG.nil ?_
              refine AT.next ?_
              refine CG.ret ?_
              refine AT.in_ret (AT.then_ret (AT.then_ret (AT.in_ret (AT.then_ret ?_))))
              cases so h
              exact AT.ret1 rfl rfl
            · have h := cf h hc
              refine CG.skip ?_
              refine AT.in_normal ?_
              refine AT.next ?_
              refine CG.region ?_
              refine RG.op (ok_incN (dropL hx hN) (ht rfl) hI) rfl ?_
              refine RG.op (ok_move (ht rfl)) rfl ?_
              refine RG.nil ?_
              exact AT.round (LG.sub (ih (i + 1)  ⟨dropS hx, h⟩) ⟨rfl, rfl, rfl, rfl, trivial⟩)

end Go.Proofs.Ytbhkincjkpeaoaa

