/- Facts of this claim: P11. -/
import Derived.Test.YtbhkincjkpeaoaaGreatPaT
import Derived.Test.YtbhkincjkpeaoaaGreatPaP10
namespace Go.Proofs.YtbhkincjkpeaoaaGreat
open Go

set_option maxRecDepth 100000 in
theorem f69_ok (s1 : (List DAgg)) (s2 : (List DAgg)) (eq : (DAgg → DAgg → Option Bool)) {R : Bool} (h : slices_EqualFunc_api_Agg_api_Agg_api_Agg_api_Agg s1 s2 eq = some R) : Spec Tryz.prog 69 [tD (rSl rpDAgg) s1, tD (rSl rpDAgg) s2, (tFun Tryz.prog (fun (x : DAgg × DAgg) => [tD rpDAgg x.1, tD rpDAgg x.2]) (fun (x : Bool) => tD rB x) (fun (x : DAgg × DAgg) => eq x.1 x.2))] (tD rB R) := by
  refine Spec.of Tryz.func69 rfl rfl rfl fun w0 S0 => ?_
  refine CG.seq ?_
  refine CG.region ?_
  refine RG.op (ok_assign hB) rfl ?_
  refine RG.nil ?_
  refine AT.next ?_
  refine CG.seq ?_
  refine CG.seq ?_
  refine CG.region ?_
  refine RG.op (ok_move (ht rfl)) rfl ?_
  refine RG.op (ok_lenSl Tryz.underlying26 (ht rfl)) rfl ?_
  refine RG.op (ok_move (ht rfl)) rfl ?_
  refine RG.op (ok_lenSl Tryz.underlying26 (ht rfl)) rfl ?_
  refine RG.op (ok_neqI (ht rfl) (ht rfl)) rfl ?_
  refine RG.nil ?_
  refine AT.next ?_
  refine CG.cond (ht rfl) (fun hc => ?_) (fun hc => ?_)
  · have h := ct h hc
    refine CG.seq ?_
    refine CG.region ?_
    refine RG.op (ok_assign hB) rfl ?_
    refine RG.nil ?_
    refine AT.next ?_
    refine CG.ret ?_
    refine AT.then_ret ?_
    cases so h
    exact AT.ret1 rfl rfl
  · have h := cf h hc
    refine CG.skip ?_
    refine AT.next ?_
    refine CG.seq ?_
    refine CG.seq ?_
    refine CG.region ?_
    refine RG.op (ok_move (ht rfl)) rfl ?_
    refine RG.op (ok_lenSl Tryz.underlying26 (ht rfl)) rfl ?_
    refine RG.op (ok_move hI) rfl ?_
    refine RG.nil ?_
    refine AT.next ?_
    refine CG.block ?_
    refine CG.have_len (k := 15) rfl (fun hN => ?_)
    refine CG.loop ?_
    refine LG.sub (LG.list1 (Z := fun ls i  => (s1.drop i = ls) ∧ slices_EqualFunc_api_Agg_api_Agg_api_Agg_api_Agg_l1 s2 eq ls i  = some R) (Of := fun _ i  => []) (Gf := fun _ i  => [(1, tD (rSl rpDAgg) s2), (2, (tFun Tryz.prog (fun (x : DAgg × DAgg) => [tD rpDAgg x.1, tD rpDAgg x.2]) (fun (x : Bool) => tD rB x) (fun (x : DAgg × DAgg) => eq x.1 x.2))), (15, tD (rSl rpDAgg) s1), (16, tD (rI .i64) (s1.length : Int)), (17, tD (rI .i64) (i : Int))]) (fun i  h => ?_) (fun e tl ih i  h => ?_) s1 0  ⟨rfl, h⟩) ⟨rfl, rfl, rfl, rfl, rfl, trivial⟩
    · obtain ⟨hx, h⟩ := h
      refine LG.unfold ?_
      refine CG.seq ?_
      refine CG.region ?_
      refine RG.op (ok_lss (ht rfl) (ht rfl)) rfl ?_
      refine RG.nil ?_
      refine AT.next ?_
      refine CG.seq ?_
      refine CG.condF (ht rfl) (dropF hx) ?_
      refine CG.exit ?_
      refine AT.then_exit (AT.then_exit (AT.in_exit ?_))
      refine AT.next ?_
      refine CG.seq ?_
      refine CG.region ?_
      refine RG.op (ok_assign hB) rfl ?_
      refine RG.nil ?_
      refine AT.next ?_
      refine CG.ret ?_
      cases so h
      exact AT.ret1 rfl rfl
    · obtain ⟨hx, h⟩ := h
      refine LG.unfold ?_
      refine CG.seq ?_
      refine CG.region ?_
      refine RG.op (ok_lss (ht rfl) (ht rfl)) rfl ?_
      refine RG.nil ?_
      refine AT.next ?_
      refine CG.seq ?_
      refine CG.condT (ht rfl) (dropT hx) ?_
      refine CG.skip ?_
      refine AT.next ?_
      refine CG.seq ?_
      refine CG.block ?_
      refine CG.seq ?_
      refine CG.region ?_
      refine RG.op (ok_move (ht rfl)) rfl ?_
      refine RG.op (ok_indexAddr Tryz.underlying26 ti61 rfl (ht rfl) (ht rfl) (dropI hx)) rfl ?_
      refine RG.op (ok_load ti61 rfl rfl (ht rfl)) rfl ?_
      refine RG.alloc (r := rpDAgg) (x := (⟨(0 : Int), (⟨[]⟩ : DExpr)⟩ : DAgg)) ti61 (fun _ => zrDAgg _) rfl (fun b => ?_)
      refine RG.op (ok_assign (ht rfl)) rfl ?_
      refine RG.storeB ti61 rfl sfld_whole rfl (ht rfl) (ht rfl) ?_
      refine RG.settleB 8 rfl ?_
      refine RG.nil ?_
      refine AT.next ?_
      refine CG.seq ?_
      refine CG.region ?_
      refine RG.op (ok_move (ht rfl)) rfl ?_
      refine RG.op (ok_move (ht rfl)) rfl ?_
      obtain ⟨e1, q_e1, h⟩ := bs h
      refine RG.op (ok_indexAddr Tryz.underlying26 ti61 rfl (ht rfl) (ht rfl) q_e1) rfl ?_
      refine RG.op (ok_load ti61 rfl rfl (ht rfl)) rfl ?_
      refine RG.alloc (r := rpDAgg) (x := (⟨(0 : Int), (⟨[]⟩ : DExpr)⟩ : DAgg)) ti61 (fun _ => zrDAgg _) rfl (fun b1 => ?_)
      refine RG.storeB ti61 rfl sfld_whole rfl (ht rfl) (ht rfl) ?_
      refine RG.settleB 9 rfl ?_
      refine RG.nil ?_
      refine AT.next ?_
      refine CG.seq ?_
      refine CG.region ?_
      refine RG.op (ok_move (ht rfl)) rfl ?_
      refine RG.op (ok_load ti61 rfl rfl (ht rfl)) rfl ?_
      refine RG.op (ok_load ti61 rfl rfl (ht rfl)) rfl ?_
      obtain ⟨r, q_r, h⟩ := bs h
      refine RG.op (ok_callV (args := (fun (x : DAgg × DAgg) => [tD rpDAgg x.1, tD rpDAgg x.2])) (res := (fun (x : Bool) => tD rB x)) (f := (fun (x : DAgg × DAgg) => eq x.1 x.2)) (x := ((e, e1) : DAgg × DAgg)) (ht rfl) q_r ⟨(ht rfl), (ht rfl), trivial⟩) rfl ?_
      refine RG.op (ok_not (ht rfl)) rfl ?_
      refine RG.nil ?_
      refine AT.next ?_
      refine CG.cond (ht rfl) (fun hc => ?_) (fun hc => ?_)
      · have h := ct h hc
        refine CG.seq ?_
        refine CG.region ?_
        refine RG.op (ok_assign hB) rfl ?_
        refine RG.nil ?_
        refine AT.next ?_
        refine CG.ret ?_
        refine AT.in_ret (AT.then_ret (AT.then_ret (AT.in_ret (AT.then_ret ?_))))
        cases so h
        exact AT.ret1 rfl rfl
      · have h := cf h hc
        refine CG.skip ?_
        refine AT.in_normal ?_
        refine AT.next ?_
        refine CG.region ?_
        refine RG.op (ok_incN (dropL hx hN) (ht rfl) hI) rfl ?_
        refine RG.op (ok_move (ht rfl)) rfl ?_
        refine RG.nil ?_
        exact AT.round (LG.sub (ih (i + 1)  ⟨dropS hx, h⟩) ⟨rfl, rfl, rfl, rfl, rfl, trivial⟩)

set_option maxRecDepth 100000 in
theorem f70_ok (s1 : (List DExpr)) (s2 : (List DExpr)) (eq : (DExpr → DExpr → Option Bool)) {R : Bool} (h : slices_EqualFunc_api_Expr_api_Expr_api_Expr_api_Expr s1 s2 eq = some R) : Spec Tryz.prog 70 [tD (rSl rpDExpr) s1, tD (rSl rpDExpr) s2, (tFun Tryz.prog (fun (x : DExpr × DExpr) => [tD rpDExpr x.1, tD rpDExpr x.2]) (fun (x : Bool) => tD rB x) (fun (x : DExpr × DExpr) => eq x.1 x.2))] (tD rB R) := by
  refine Spec.of Tryz.func70 rfl rfl rfl fun w0 S0 => ?_
  refine CG.seq ?_
  refine CG.region ?_
  refine RG.op (ok_assign hB) rfl ?_
  refine RG.nil ?_
  refine AT.next ?_
  refine CG.seq ?_
  refine CG.seq ?_
  refine CG.region ?_
  refine RG.op (ok_move (ht rfl)) rfl ?_
  refine RG.op (ok_lenSl Tryz.underlying27 (ht rfl)) rfl ?_
  refine RG.op (ok_move (ht rfl)) rfl ?_
  refine RG.op (ok_lenSl Tryz.underlying27 (ht rfl)) rfl ?_
  refine RG.op (ok_neqI (ht rfl) (ht rfl)) rfl ?_
  refine RG.nil ?_
  refine AT.next ?_
  refine CG.cond (ht rfl) (fun hc => ?_) (fun hc => ?_)
  · have h := ct h hc
    refine CG.seq ?_
    refine CG.region ?_
    refine RG.op (ok_assign hB) rfl ?_
    refine RG.nil ?_
    refine AT.next ?_
    refine CG.ret ?_
    refine AT.then_ret ?_
    cases so h
    exact AT.ret1 rfl rfl
  · have h := cf h hc
    refine CG.skip ?_
    refine AT.next ?_
    refine CG.seq ?_
    refine CG.seq ?_
    refine CG.region ?_
    refine RG.op (ok_move (ht rfl)) rfl ?_
    refine RG.op (ok_lenSl Tryz.underlying27 (ht rfl)) rfl ?_
    refine RG.op (ok_move hI) rfl ?_
    refine RG.nil ?_
    refine AT.next ?_
    refine CG.block ?_
    refine CG.have_len (k := 15) rfl (fun hN => ?_)
    refine CG.loop ?_
    refine LG.sub (LG.list1 (Z := fun ls i  => (s1.drop i = ls) ∧ slices_EqualFunc_api_Expr_api_Expr_api_Expr_api_Expr_l1 s2 eq ls i  = some R) (Of := fun _ i  => []) (Gf := fun _ i  => [(1, tD (rSl rpDExpr) s2), (2, (tFun Tryz.prog (fun (x : DExpr × DExpr) => [tD rpDExpr x.1, tD rpDExpr x.2]) (fun (x : Bool) => tD rB x) (fun (x : DExpr × DExpr) => eq x.1 x.2))), (15, tD (rSl rpDExpr) s1), (16, tD (rI .i64) (s1.length : Int)), (17, tD (rI .i64) (i : Int))]) (fun i  h => ?_) (fun e tl ih i  h => ?_) s1 0  ⟨rfl, h⟩) ⟨rfl, rfl, rfl, rfl, rfl, trivial⟩
    · obtain ⟨hx, h⟩ := h
      refine LG.unfold ?_
      refine CG.seq ?_
      refine CG.region ?_
      refine RG.op (ok_lss (ht rfl) (ht rfl)) rfl ?_
      refine RG.nil ?_
      refine AT.next ?_
      refine CG.seq ?_
      refine CG.condF (ht rfl) (dropF hx) ?_
      refine CG.exit ?_
      refine AT.then_exit (AT.then_exit (AT.in_exit ?_))
      refine AT.next ?_
      refine CG.seq ?_
      refine CG.region ?_
      refine RG.op (ok_assign hB) rfl ?_
      refine RG.nil ?_
      refine AT.next ?_
      refine CG.ret ?_
      cases so h
      exact AT.ret1 rfl rfl
    · obtain ⟨hx, h⟩ := h
      refine LG.unfold ?_
      refine CG.seq ?_
      refine CG.region ?_
      refine RG.op (ok_lss (ht rfl) (ht rfl)) rfl ?_
      refine RG.nil ?_
      refine AT.next ?_
      refine CG.seq ?_
      refine CG.condT (ht rfl) (dropT hx) ?_
      refine CG.skip ?_
      refine AT.next ?_
      refine CG.seq ?_
      refine CG.block ?_
      refine CG.seq ?_
      refine CG.region ?_
      refine RG.op (ok_move (ht rfl)) rfl ?_
      refine RG.op (ok_indexAddr Tryz.underlying27 ti25 rfl (ht rfl) (ht rfl) (dropI hx)) rfl ?_
      refine RG.op (ok_load ti25 rfl rfl (ht rfl)) rfl ?_
      refine RG.alloc (r := rpDExpr) (x := (⟨[]⟩ : DExpr)) ti25 (fun _ => zrDExpr _) rfl (fun b => ?_)
      refine RG.op (ok_assign (ht rfl)) rfl ?_
      refine RG.storeB ti25 rfl sfld_whole rfl (ht rfl) (ht rfl) ?_
      refine RG.settleB 8 rfl ?_
      refine RG.nil ?_
      refine AT.next ?_
      refine CG.seq ?_
      refine CG.region ?_
      refine RG.op (ok_move (ht rfl)) rfl ?_
      refine RG.op (ok_move (ht rfl)) rfl ?_
      obtain ⟨e1, q_e1, h⟩ := bs h
      refine RG.op (ok_indexAddr Tryz.underlying27 ti25 rfl (ht rfl) (ht rfl) q_e1) rfl ?_
      refine RG.op (ok_load ti25 rfl rfl (ht rfl)) rfl ?_
      refine RG.alloc (r := rpDExpr) (x := (⟨[]⟩ : DExpr)) ti25 (fun _ => zrDExpr _) rfl (fun b1 => ?_)
      refine RG.storeB ti25 rfl sfld_whole rfl (ht rfl) (ht rfl) ?_
      refine RG.settleB 9 rfl ?_
      refine RG.nil ?_
      refine AT.next ?_
      refine CG.seq ?_
      refine CG.region ?_
      refine RG.op (ok_move (ht rfl)) rfl ?_
      refine RG.op (ok_load ti25 rfl rfl (ht rfl)) rfl ?_
      refine RG.op (ok_load ti25 rfl rfl (ht rfl)) rfl ?_
      obtain ⟨r, q_r, h⟩ := bs h
      refine RG.op (ok_callV (args := (fun (x : DExpr × DExpr) => [tD rpDExpr x.1, tD rpDExpr x.2])) (res := (fun (x : Bool) => tD rB x)) (f := (fun (x : DExpr × DExpr) => eq x.1 x.2)) (x := ((e, e1) : DExpr × DExpr)) (ht rfl) q_r ⟨(ht rfl), (ht rfl), trivial⟩) rfl ?_
      refine RG.op (ok_not (ht rfl)) rfl ?_
      refine RG.nil ?_
      refine AT.next ?_
      refine CG.cond (ht rfl) (fun hc => ?_) (fun hc => ?_)
      · have h := ct h hc
        refine CG.seq ?_
        refine CG.region ?_
        refine RG.op (ok_assign hB) rfl ?_
        refine RG.nil ?_
        refine AT.next ?_
        refine CG.ret ?_
        refine AT.in_ret (AT.then_ret (AT.then_ret (AT.in_ret (AT.then_ret ?_))))
        cases so h
        exact AT.ret1 rfl rfl
      · have h := cf h hc
        refine CG.skip ?_
        refine AT.in_normal ?_
        refine AT.next ?_
        refine CG.region ?_
        refine RG.op (ok_incN (dropL hx hN) (ht rfl) hI) rfl ?_
        refine RG.op (ok_move (ht rfl)) rfl ?_
        refine RG.nil ?_
        exact AT.round (LG.sub (ih (i + 1)  ⟨dropS hx, h⟩) ⟨rfl, rfl, rfl, rfl, rfl, trivial⟩)

set_option maxRecDepth 100000 in
theorem f45_ok (a1 : DLNode) (b : DLNode) {R : Bool} (h : logic_same a1 b = some R) : Spec Tryz.prog 45 [tD rpDLNode a1, tD rpDLNode b] (tD rB R) := by
  refine Spec.of Tryz.func45 rfl rfl rfl fun w0 S0 => ?_
  refine CG.seq ?_
  refine CG.region ?_
  refine RG.op (ok_box (ht rfl)) rfl ?_
  refine RG.op (ok_box (ht rfl)) rfl ?_
  refine RG.op (ok_assign hB) rfl ?_
  refine RG.nil ?_
  refine AT.next ?_
  refine CG.seq ?_
  refine CG.region ?_
  refine RG.op (ok_assign (show HasTy _ _ _ ((tFun Tryz.prog (fun (x : DAgg × DAgg) => [tD rpDAgg x.1, tD rpDAgg x.2]) (fun (x : Bool) => tD rB x) (fun (x : DAgg × DAgg) => logic_same_1 x.1 x.2))) from (hFn cb65 fun x y h => f65_ok _ _ h))) rfl ?_
  refine RG.nil ?_
  refine AT.next ?_
  refine CG.seq ?_
  refine CG.region ?_
  refine RG.op (ok_fieldAddr fd30_4 rfl flDLNode_4 rfl (ht rfl)) rfl ?_
  refine RG.op (ok_load ti22 rfl rfl (ht rfl)) rfl ?_
  refine RG.op (ok_fieldAddr fd30_4 rfl flDLNode_4 rfl (ht rfl)) rfl ?_
  refine RG.op (ok_load ti22 rfl rfl (ht rfl)) rfl ?_
  obtain ⟨r, q_r, h⟩ := bs h
  refine RG.op (ok_call cb67 (f67_ok _ _ q_r) ⟨(ht rfl), (ht rfl), trivial⟩) rfl ?_
  refine RG.op (ok_move (ht rfl)) rfl ?_
  obtain ⟨t, q_t, h⟩ := bs h
  refine RG.opGt rfl rfl rfl rfl (fun hg => ok_fieldAddr fd30_7 rfl flDLNode_7 rfl (ht rfl)) ?_
  refine RG.opGt rfl rfl rfl rfl (fun hg => ok_load ti22 rfl rfl (htO rfl hg)) ?_
  refine RG.opGt rfl rfl rfl rfl (fun hg => ok_fieldAddr fd30_7 rfl flDLNode_7 rfl (ht rfl)) ?_
  refine RG.opGt rfl rfl rfl rfl (fun hg => ok_load ti22 rfl rfl (htO rfl hg)) ?_
  obtain ⟨r1, h1t, h0t⟩ := og q_t
  have q_r1g := fun hb => (h1t hb).1
  refine RG.opGt rfl rfl rfl rfl (fun hg => ok_call cb67 (f67_ok _ _ (q_r1g hg)) ⟨(htO rfl hg), (htO rfl hg), trivial⟩) ?_
  refine RG.op (ok_pickAndM (ht rfl) (fun hb => (htO rfl hb)) (fun hb => (h1t hb).2) h0t) rfl ?_
  refine RG.op (ok_move (ht rfl)) rfl ?_
  obtain ⟨t1, q_t1, h⟩ := bs h
  refine RG.opGt rfl rfl rfl rfl (fun hg => ok_fieldAddr fd30_10 rfl flDLNode_10 rfl (ht rfl)) ?_
  refine RG.opGt rfl rfl rfl rfl (fun hg => ok_load ti28 rfl rfl (htO rfl hg)) ?_
  refine RG.opGt rfl rfl rfl rfl (fun hg => ok_fieldAddr fd30_10 rfl flDLNode_10 rfl (ht rfl)) ?_
  refine RG.opGt rfl rfl rfl rfl (fun hg => ok_load ti28 rfl rfl (htO rfl hg)) ?_
  obtain ⟨r2, h1t1, h0t1⟩ := og q_t1
  have q_r2g := fun hb => (h1t1 hb).1
  refine RG.opGt rfl rfl rfl rfl (fun hg => ok_call cb68 (f68_ok _ _ (q_r2g hg)) ⟨(htO rfl hg), (htO rfl hg), trivial⟩) ?_
  refine RG.op (ok_pickAndM (ht rfl) (fun hb => (htO rfl hb)) (fun hb => (h1t1 hb).2) h0t1) rfl ?_
  refine RG.op (ok_assign (ht rfl)) rfl ?_
  refine RG.nil ?_
  refine AT.next ?_
  refine CG.seq ?_
  refine CG.region ?_
  refine RG.op (ok_fieldAddr fd30_6 rfl flDLNode_6 rfl (ht rfl)) rfl ?_
  refine RG.op (ok_load ti25 rfl rfl (ht rfl)) rfl ?_
  refine RG.op (ok_fieldAddr fd30_6 rfl flDLNode_6 rfl (ht rfl)) rfl ?_
  refine RG.op (ok_load ti25 rfl rfl (ht rfl)) rfl ?_
  obtain ⟨r3, q_r3, h⟩ := bs h
  refine RG.op (ok_call cb66 (f66_ok _ _ q_r3) ⟨(ht rfl), (ht rfl), trivial⟩) rfl ?_
  refine RG.op (ok_move (ht rfl)) rfl ?_
  obtain ⟨t2, q_t2, h⟩ := bs h
  refine RG.opGt rfl rfl rfl rfl (fun hg => ok_fieldAddr fd30_8 rfl flDLNode_8 rfl (ht rfl)) ?_
  refine RG.opGt rfl rfl rfl rfl (fun hg => ok_load ti26 rfl rfl (htO rfl hg)) ?_
  refine RG.opGt rfl rfl rfl rfl (fun hg => ok_fieldAddr fd30_8 rfl flDLNode_8 rfl (ht rfl)) ?_
  refine RG.opGt rfl rfl rfl rfl (fun hg => ok_load ti26 rfl rfl (htO rfl hg)) ?_
  refine RG.opGt rfl rfl rfl rfl (fun hg => ok_move (ht rfl)) ?_
  obtain ⟨r4, h1t2, h0t2⟩ := og q_t2
  have q_r4g := fun hb => (h1t2 hb).1
  refine RG.opGt rfl rfl rfl rfl (fun hg => ok_call cb69 (f69_ok _ _ _ (q_r4g hg)) ⟨(htO rfl hg), (htO rfl hg), (htO rfl hg), trivial⟩) ?_
  refine RG.op (ok_pickAndM (ht rfl) (fun hb => (htO rfl hb)) (fun hb => (h1t2 hb).2) h0t2) rfl ?_
  refine RG.op (ok_move (ht rfl)) rfl ?_
  obtain ⟨t3, q_t3, h⟩ := bs h
  refine RG.opGt rfl rfl rfl rfl (fun hg => ok_fieldAddr fd30_9 rfl flDLNode_9 rfl (ht rfl)) ?_
  refine RG.opGt rfl rfl rfl rfl (fun hg => ok_load ti27 rfl rfl (htO rfl hg)) ?_
  refine RG.opGt rfl rfl rfl rfl (fun hg => ok_fieldAddr fd30_9 rfl flDLNode_9 rfl (ht rfl)) ?_
  refine RG.opGt rfl rfl rfl rfl (fun hg => ok_load ti27 rfl rfl (htO rfl hg)) ?_
  obtain ⟨r5, h1t3, h0t3⟩ := og q_t3
  have q_r5g := fun hb => (h1t3 hb).1
  refine RG.opGt rfl rfl rfl rfl (fun hg => ok_call cb70 (f70_ok _ _ _ (q_r5g hg)) ⟨(htO rfl hg), (htO rfl hg), (hFn cb66 fun x y h => f66_ok _ _ h), trivial⟩) ?_
  refine RG.op (ok_pickAndM (ht rfl) (fun hb => (htO rfl hb)) (fun hb => (h1t3 hb).2) h0t3) rfl ?_
  refine RG.op (ok_assign (ht rfl)) rfl ?_
  refine RG.nil ?_
  refine AT.next ?_
  refine CG.seq ?_
  refine CG.region ?_
  refine RG.op (ok_fieldAddr fd30_0 rfl flDLNode_0 rfl (ht rfl)) rfl ?_
  refine RG.op (ok_load ti3 rfl rfl (ht rfl)) rfl ?_
  refine RG.op (ok_fieldAddr fd30_0 rfl flDLNode_0 rfl (ht rfl)) rfl ?_
  refine RG.op (ok_load ti3 rfl rfl (ht rfl)) rfl ?_
  refine RG.op (ok_eqlI (ht rfl) (ht rfl)) rfl ?_
  refine RG.op (ok_move (ht rfl)) rfl ?_
  refine RG.opGt rfl rfl rfl rfl (fun hg => ok_fieldAddr fd30_1 rfl flDLNode_1 rfl (ht rfl)) ?_
  refine RG.opGt rfl rfl rfl rfl (fun hg => ok_load ti3 rfl rfl (htO rfl hg)) ?_
  refine RG.opGt rfl rfl rfl rfl (fun hg => ok_fieldAddr fd30_1 rfl flDLNode_1 rfl (ht rfl)) ?_
  refine RG.opGt rfl rfl rfl rfl (fun hg => ok_load ti3 rfl rfl (htO rfl hg)) ?_
  refine RG.opGt rfl rfl rfl rfl (fun hg => ok_eqlI (htO rfl hg) (htO rfl hg)) ?_
  refine RG.op (ok_pickAnd (ht rfl) (fun hb => (htO rfl hb))) rfl ?_
  refine RG.op (ok_move (ht rfl)) rfl ?_
  refine RG.opGt rfl rfl rfl rfl (fun hg => ok_fieldAddr fd30_2 rfl flDLNode_2 rfl (ht rfl)) ?_
  refine RG.opGt rfl rfl rfl rfl (fun hg => ok_load ti3 rfl rfl (htO rfl hg)) ?_
  refine RG.opGt rfl rfl rfl rfl (fun hg => ok_fieldAddr fd30_2 rfl flDLNode_2 rfl (ht rfl)) ?_
  refine RG.opGt rfl rfl rfl rfl (fun hg => ok_load ti3 rfl rfl (htO rfl hg)) ?_
  refine RG.opGt rfl rfl rfl rfl (fun hg => ok_eqlI (htO rfl hg) (htO rfl hg)) ?_
  refine RG.op (ok_pickAnd (ht rfl) (fun hb => (htO rfl hb))) rfl ?_
  refine RG.op (ok_move (ht rfl)) rfl ?_
  refine RG.opGt rfl rfl rfl rfl (fun hg => ok_fieldAddr fd30_3 rfl flDLNode_3 rfl (ht rfl)) ?_
  refine RG.opGt rfl rfl rfl rfl (fun hg => ok_load ti3 rfl rfl (htO rfl hg)) ?_
  refine RG.opGt rfl rfl rfl rfl (fun hg => ok_fieldAddr fd30_3 rfl flDLNode_3 rfl (ht rfl)) ?_
  refine RG.opGt rfl rfl rfl rfl (fun hg => ok_load ti3 rfl rfl (htO rfl hg)) ?_
  refine RG.opGt rfl rfl rfl rfl (fun hg => ok_eqlI (htO rfl hg) (htO rfl hg)) ?_
  refine RG.op (ok_pickAnd (ht rfl) (fun hb => (htO rfl hb))) rfl ?_
  refine RG.op (ok_move (ht rfl)) rfl ?_
  refine RG.opGt rfl rfl rfl rfl (fun hg => ok_fieldAddr fd30_5 rfl flDLNode_5 rfl (ht rfl)) ?_
  refine RG.opGt rfl rfl rfl rfl (fun hg => ok_load ti4 rfl rfl (htO rfl hg)) ?_
  refine RG.opGt rfl rfl rfl rfl (fun hg => ok_fieldAddr fd30_5 rfl flDLNode_5 rfl (ht rfl)) ?_
  refine RG.opGt rfl rfl rfl rfl (fun hg => ok_load ti4 rfl rfl (htO rfl hg)) ?_
  refine RG.opGt rfl rfl rfl rfl (fun hg => ok_eqlB Tryz.underlying4 (htO rfl hg) (htO rfl hg)) ?_
  refine RG.op (ok_pickAnd (ht rfl) (fun hb => (htO rfl hb))) rfl ?_
  refine RG.op (ok_move (ht rfl)) rfl ?_
  refine RG.opGt rfl rfl rfl rfl (fun hg => ok_fieldAddr fd30_11 rfl flDLNode_11 rfl (ht rfl)) ?_
  refine RG.opGt rfl rfl rfl rfl (fun hg => ok_load ti3 rfl rfl (htO rfl hg)) ?_
  refine RG.opGt rfl rfl rfl rfl (fun hg => ok_fieldAddr fd30_11 rfl flDLNode_11 rfl (ht rfl)) ?_
  refine RG.opGt rfl rfl rfl rfl (fun hg => ok_load ti3 rfl rfl (htO rfl hg)) ?_
  refine RG.opGt rfl rfl rfl rfl (fun hg => ok_eqlI (htO rfl hg) (htO rfl hg)) ?_
  refine RG.op (ok_pickAnd (ht rfl) (fun hb => (htO rfl hb))) rfl ?_
  refine RG.op (ok_move (ht rfl)) rfl ?_
  refine RG.opGt rfl rfl rfl rfl (fun hg => ok_move (ht rfl)) ?_
  refine RG.op (ok_pickAnd (ht rfl) (fun hb => (htO rfl hb))) rfl ?_
  refine RG.op (ok_move (ht rfl)) rfl ?_
  refine RG.opGt rfl rfl rfl rfl (fun hg => ok_move (ht rfl)) ?_
  refine RG.op (ok_pickAnd (ht rfl) (fun hb => (htO rfl hb))) rfl ?_
  refine RG.op (ok_assign (ht rfl)) rfl ?_
  refine RG.nil ?_
  refine AT.next ?_
  refine CG.ret ?_
  cases so h
  exact AT.ret1 rfl rfl

set_option maxRecDepth 100000 in
theorem f24_ok (a1 : DLogic) (b : DLogic) {R : Bool} (h : logic_Same a1 b = some R) : Spec Tryz.prog 24 [tD rpDLogic a1, tD rpDLogic b] (tD rB R) := by
  refine Spec.of Tryz.func24 rfl rfl rfl fun w0 S0 => ?_
  refine CG.seq ?_
  refine CG.region ?_
  refine RG.op (ok_box (ht rfl)) rfl ?_
  refine RG.op (ok_box (ht rfl)) rfl ?_
  refine RG.op (ok_assign hB) rfl ?_
  refine RG.nil ?_
  refine AT.next ?_
  refine CG.seq ?_
  refine CG.region ?_
  refine RG.op (ok_fieldAddr fd33_0 rfl flDLogic_0 rfl (ht rfl)) rfl ?_
  refine RG.op (ok_load ti31 rfl rfl (ht rfl)) rfl ?_
  refine RG.op (ok_fieldAddr fd33_0 rfl flDLogic_0 rfl (ht rfl)) rfl ?_
  refine RG.op (ok_load ti31 rfl rfl (ht rfl)) rfl ?_
  obtain ⟨r, q_r, h⟩ := bs h
  refine RG.op (ok_call cb44 (f44_ok _ _ _ q_r) ⟨(ht rfl), (ht rfl), (hFn cb45 fun x y h => f45_ok _ _ h), trivial⟩) rfl ?_
  refine RG.op (ok_assign (ht rfl)) rfl ?_
  refine RG.nil ?_
  refine AT.next ?_
  refine CG.ret ?_
  cases so h
  exact AT.ret1 rfl rfl

set_option maxRecDepth 100000 in
theorem f5_ok (l : DLogic) {R : Bool} (h : law13_LogicParts l = some R) : Spec Tryz.prog 5 [tD rpDLogic l] (tD rB R) := by
  refine Spec.of Tryz.func5 rfl rfl rfl fun w0 S0 => ?_
  refine CG.seq ?_
  refine CG.region ?_
  refine RG.op (ok_box (ht rfl)) rfl ?_
  refine RG.op (ok_assign hB) rfl ?_
  refine RG.nil ?_
  refine AT.next ?_
  refine CG.seq ?_
  refine CG.seq ?_
  refine CG.region ?_
  obtain ⟨r, q_r, h⟩ := bs h
  refine RG.op (ok_call cb6 (f6_ok  q_r) trivial) rfl ?_
  refine RG.op (ok_not (ht rfl)) rfl ?_
  refine RG.nil ?_
  refine AT.next ?_
  refine CG.cond (ht rfl) (fun hc => ?_) (fun hc => ?_)
  · have h := ct h hc
    refine CG.seq ?_
    refine CG.region ?_
    refine RG.op (ok_assign hB) rfl ?_
    refine RG.nil ?_
    refine AT.next ?_
    refine CG.ret ?_
    refine AT.then_ret ?_
    cases so h
    exact AT.ret1 rfl rfl
  · have h := cf h hc
    refine CG.skip ?_
    refine AT.next ?_
    refine CG.seq ?_
    refine CG.seq ?_
    refine CG.region ?_
    refine RG.op (ok_load ti33 rfl rfl (ht rfl)) rfl ?_
    obtain ⟨r1, q_r1, h⟩ := bs h
    refine RG.op (ok_call cb8 (f8_ok _ q_r1) ⟨(ht rfl), trivial⟩) rfl ?_
    refine RG.nil ?_
    refine AT.next ?_
    refine CG.cond (ht rfl) (fun hc => ?_) (fun hc => ?_)
    · have h := ct h hc
      refine CG.seq ?_
      refine CG.region ?_
      refine RG.op (ok_assign hB) rfl ?_
      refine RG.nil ?_
      refine AT.next ?_
      refine CG.ret ?_
      refine AT.then_ret ?_
      cases so h
      exact AT.ret1 rfl rfl
    · have h := cf h hc
      refine CG.skip ?_
      refine AT.next ?_
      refine CG.seq ?_
      refine CG.seq ?_
      refine CG.region ?_
      refine RG.op (ok_load ti33 rfl rfl (ht rfl)) rfl ?_
      obtain ⟨r2, q_r2, h⟩ := bs h
      refine RG.op (ok_call cb23 (f23_ok _ q_r2) ⟨(ht rfl), trivial⟩) rfl ?_
      refine RG.op (ok_move (ht rfl)) rfl ?_
      refine RG.op (ok_extract rfl (ht rfl)) rfl ?_
      refine RG.op (ok_extract rfl (ht rfl)) rfl ?_
      refine RG.op (ok_assign (ht rfl)) rfl ?_
      refine RG.op (ok_assign (ht rfl)) rfl ?_
      refine RG.nil ?_
      refine AT.next ?_
      refine CG.seq ?_
      refine CG.region ?_
      refine RG.op (ok_move (ht rfl)) rfl ?_
      refine RG.op (ok_neqI (ht rfl) hI) rfl ?_
      refine RG.nil ?_
      refine AT.next ?_
      refine CG.cond (ht rfl) (fun hc => ?_) (fun hc => ?_)
      · have h := ct h hc
        refine CG.seq ?_
        refine CG.region ?_
        refine RG.op (ok_assign hB) rfl ?_
        refine RG.nil ?_
        refine AT.next ?_
        refine CG.ret ?_
        refine AT.then_ret ?_
        cases so h
        exact AT.ret1 rfl rfl
      · have h := cf h hc
        refine CG.skip ?_
        refine AT.next ?_
        refine CG.seq ?_
        refine CG.region ?_
        refine RG.op (ok_load ti33 rfl rfl (ht rfl)) rfl ?_
        obtain ⟨r3, q_r3, h⟩ := bs h
        refine RG.op (ok_call cb16 (f16_ok _ q_r3) ⟨(ht rfl), trivial⟩) rfl ?_
        refine RG.op (ok_assign (ht rfl)) rfl ?_
        refine RG.nil ?_
        refine AT.next ?_
        refine CG.seq ?_
        refine CG.seq ?_
        refine CG.region ?_
        refine RG.op (ok_fieldAddr fd33_0 rfl flDLogic_0 rfl (ht rfl)) rfl ?_
        refine RG.op (ok_load ti31 rfl rfl (ht rfl)) rfl ?_
        refine RG.op (ok_lenSl Tryz.underlying31 (ht rfl)) rfl ?_
        refine RG.op (ok_move hI) rfl ?_
        refine RG.nil ?_
        refine AT.next ?_
        refine CG.block ?_
        refine CG.have_len (k := 35) rfl (fun hN => ?_)
        refine CG.loop ?_
        refine LG.sub (LG.list1 (Z := fun ls i  => (l.Nodes.drop i = ls) ∧ law13_LogicParts_l1 l r3 ls i  = some R) (Of := fun _ i  => []) (Gf := fun _ i  => [(1, tPtr rpDLogic l), (5, tD rB r3), (36, tD (rI .i64) (l.Nodes.length : Int)), (37, tD (rI .i64) (i : Int))]) (fun i  h => ?_) (fun e tl ih i  h => ?_) l.Nodes 0  ⟨rfl, h⟩) ⟨rfl, rfl, rfl, rfl, trivial⟩
        · obtain ⟨hx, h⟩ := h
          refine LG.unfold ?_
          refine CG.seq ?_
          refine CG.region ?_
          refine RG.op (ok_lss (ht rfl) (ht rfl)) rfl ?_
          refine RG.nil ?_
          refine AT.next ?_
          refine CG.seq ?_
          refine CG.condF (ht rfl) (dropF hx) ?_
          refine CG.exit ?_
          refine AT.then_exit (AT.then_exit (AT.in_exit ?_))
          refine AT.next ?_
          refine CG.seq ?_
          refine CG.region ?_
          refine RG.op (ok_fieldAddr fd33_0 rfl flDLogic_0 rfl (ht rfl)) rfl ?_
          refine RG.op (ok_load ti31 rfl rfl (ht rfl)) rfl ?_
          refine RG.op (ok_lenSl Tryz.underlying31 (ht rfl)) rfl ?_
          refine RG.op (ok_sub (ht rfl) hI) rfl ?_
          refine RG.op (ok_assign (ht rfl)) rfl ?_
          refine RG.nil ?_
          refine AT.next ?_
          refine CG.seq ?_
          refine CG.region ?_
          refine RG.op (ok_fieldAddr fd33_0 rfl flDLogic_0 rfl (ht rfl)) rfl ?_
          refine RG.op (ok_load ti31 rfl rfl (ht rfl)) rfl ?_
          refine RG.op (ok_move (ht rfl)) rfl ?_
          obtain ⟨e1, q_e1, h⟩ := bs h
          refine RG.op (ok_indexAddr Tryz.underlying31 ti30 rfl (ht rfl) (ht rfl) q_e1) rfl ?_
          refine RG.op (ok_load ti30 rfl rfl (ht rfl)) rfl ?_
          refine RG.alloc (r := rpDLNode) (x := (⟨(0 : Int), (0 : Int), (0 : Int), (0 : Int), [], false, (⟨[]⟩ : DExpr), [], [], [], [], (0 : Int)⟩ : DLNode)) ti30 (fun _ => zrDLNode _) rfl (fun b => ?_)
          refine RG.storeB ti30 rfl sfld_whole rfl (ht rfl) (ht rfl) ?_
          refine RG.settleB 12 rfl ?_
          refine RG.nil ?_
          refine AT.next ?_
          refine CG.seq ?_
          refine CG.region ?_
          refine RG.alloc (r := rpDLogic) (x := (⟨[]⟩ : DLogic)) ti33 (fun _ => zrDLogic _) rfl (fun b1 => ?_)
          refine RG.nil ?_
          refine AT.next ?_
          refine CG.seq ?_
          refine CG.region ?_
          refine RG.op (ok_assign hI) rfl ?_
          refine RG.nil ?_
          refine AT.next ?_
          refine CG.seq ?_
          refine CG.block ?_
          refine CG.seq ?_
          refine CG.region ?_
          refine RG.op (ok_fieldAddr fd30_1 rfl flDLNode_1 rfl (ht rfl)) rfl ?_
          refine RG.op (ok_load ti3 rfl rfl (ht rfl)) rfl ?_
          refine RG.op (ok_lss (ht rfl) hI) rfl ?_
          refine RG.op (ok_assign (ht rfl)) rfl ?_
          refine RG.nil ?_
          refine AT.next ?_
          refine CG.cond (ht rfl) (fun hc => ?_) (fun hc => ?_)
          · have h := ct h hc
            refine CG.region ?_
            refine RG.op (ok_load ti30 rfl rfl (ht rfl)) rfl ?_
            obtain ⟨r4, q_r4, h⟩ := bs h
            refine RG.op (ok_call cb9 (f9_ok _ q_r4) ⟨(ht rfl), trivial⟩) rfl ?_
            refine RG.op (ok_move (ht rfl)) rfl ?_
            refine RG.op (ok_extract rfl (ht rfl)) rfl ?_
            refine RG.op (ok_extract rfl (ht rfl)) rfl ?_
            refine RG.storeB ti33 rfl sfld_whole rfl (ht rfl) (ht rfl) ?_
            refine RG.op (ok_assign (ht rfl)) rfl ?_
            refine RG.nil ?_
            refine AT.in_normal ?_
            refine AT.next ?_
            refine CG.seq ?_
            refine CG.region ?_
            refine RG.op (ok_move (ht rfl)) rfl ?_
            refine RG.op (ok_eqlI (ht rfl) hI) rfl ?_
            refine RG.op (ok_move (ht rfl)) rfl ?_
            obtain ⟨t, q_t, h⟩ := bs h
            refine RG.opGt rfl rfl rfl rfl (fun hg => ok_loadB ti33 rfl rfl fld_whole (.head _) (ht rfl)) ?_
            refine RG.opGt rfl rfl rfl rfl (fun hg => ok_load ti33 rfl rfl (ht rfl)) ?_
            obtain ⟨r5, h1t, h0t⟩ := og q_t
            have q_r5g := fun hb => (h1t hb).1
            refine RG.opGt rfl rfl rfl rfl (fun hg => ok_call cb24 (f24_ok _ _ (q_r5g hg)) ⟨(htO rfl hg), (htO rfl hg), trivial⟩) ?_
            refine RG.op (ok_pickAndM (ht rfl) (fun hb => (htO rfl hb)) (fun hb => (h1t hb).2) h0t) rfl ?_
            refine RG.op (ok_assign (ht rfl)) rfl ?_
            refine RG.nil ?_
            refine AT.next ?_
            refine CG.ret ?_
            refine AT.drop ?_
            cases so h
            exact AT.ret1 rfl rfl
          · have h := cf h hc
            refine CG.seq ?_
            refine CG.region ?_
            refine RG.op (ok_fieldAddr fd30_2 rfl flDLNode_2 rfl (ht rfl)) rfl ?_
            refine RG.op (ok_load ti3 rfl rfl (ht rfl)) rfl ?_
            refine RG.op (ok_lss (ht rfl) hI) rfl ?_
            refine RG.op (ok_assign (ht rfl)) rfl ?_
            refine RG.nil ?_
            refine AT.next ?_
            refine CG.cond (ht rfl) (fun hc => ?_) (fun hc => ?_)
            · have h := ct h hc
              refine CG.seq ?_
              refine CG.region ?_
              refine RG.op (ok_load ti33 rfl rfl (ht rfl)) rfl ?_
              refine RG.op (ok_fieldAddr fd30_1 rfl flDLNode_1 rfl (ht rfl)) rfl ?_
              refine RG.op (ok_load ti3 rfl rfl (ht rfl)) rfl ?_
              obtain ⟨r6, q_r6, h⟩ := bs h
              refine RG.op (ok_call cb15 (f15_ok _ _ q_r6) ⟨(ht rfl), (ht rfl), trivial⟩) rfl ?_
              refine RG.op (ok_move (ht rfl)) rfl ?_
              refine RG.op (ok_extract rfl (ht rfl)) rfl ?_
              refine RG.op (ok_extract rfl (ht rfl)) rfl ?_
              refine RG.alloc (r := rpDLogic) (x := (⟨[]⟩ : DLogic)) ti33 (fun _ => zrDLogic _) rfl (fun b2 => ?_)
              refine RG.storeB ti33 rfl sfld_whole rfl (ht rfl) (ht rfl) ?_
              refine RG.settleB 15 rfl ?_
              refine RG.op (ok_assign (ht rfl)) rfl ?_
              refine RG.nil ?_
              refine AT.next ?_
              refine CG.seq ?_
              refine CG.seq ?_
              refine CG.region ?_
              refine RG.op (ok_move (ht rfl)) rfl ?_
              refine RG.op (ok_neqI (ht rfl) hI) rfl ?_
              refine RG.nil ?_
              refine AT.next ?_
              refine CG.cond (ht rfl) (fun hc => ?_) (fun hc => ?_)
              · have h := ct h hc
                refine CG.seq ?_
                refine CG.region ?_
                refine RG.op (ok_assign hB) rfl ?_
                refine RG.nil ?_
                refine AT.next ?_
                refine CG.ret ?_
                refine AT.then_ret (AT.in_ret (AT.then_ret ?_))
                refine AT.drop ?_
                cases so h
                exact AT.ret1 rfl rfl
              · have h := cf h hc
                refine CG.skip ?_
                refine AT.next ?_
                refine CG.region ?_
                refine RG.op (ok_load ti30 rfl rfl (ht rfl)) rfl ?_
                refine RG.op (ok_load ti33 rfl rfl (ht rfl)) rfl ?_
                obtain ⟨r7, q_r7, h⟩ := bs h
                refine RG.op (ok_call cb10 (f10_ok _ _ q_r7) ⟨(ht rfl), (ht rfl), trivial⟩) rfl ?_
                refine RG.op (ok_move (ht rfl)) rfl ?_
                refine RG.op (ok_extract rfl (ht rfl)) rfl ?_
                refine RG.op (ok_extract rfl (ht rfl)) rfl ?_
                refine RG.storeB ti33 rfl sfld_whole rfl (ht rfl) (ht rfl) ?_
                refine RG.op (ok_assign (ht rfl)) rfl ?_
                refine RG.nil ?_
                refine AT.in_normal ?_
                refine AT.next ?_
                refine CG.seq ?_
                refine CG.region ?_
                refine RG.op (ok_move (ht rfl)) rfl ?_
                refine RG.op (ok_eqlI (ht rfl) hI) rfl ?_
                refine RG.op (ok_move (ht rfl)) rfl ?_
                obtain ⟨t1, q_t1, h⟩ := bs h
                refine RG.opGt rfl rfl rfl rfl (fun hg => ok_loadB ti33 rfl rfl fld_whole (.head _) (ht rfl)) ?_
                refine RG.opGt rfl rfl rfl rfl (fun hg => ok_load ti33 rfl rfl (ht rfl)) ?_
                obtain ⟨r8, h1t1, h0t1⟩ := og q_t1
                have q_r8g := fun hb => (h1t1 hb).1
                refine RG.opGt rfl rfl rfl rfl (fun hg => ok_call cb24 (f24_ok _ _ (q_r8g hg)) ⟨(htO rfl hg), (htO rfl hg), trivial⟩) ?_
                refine RG.op (ok_pickAndM (ht rfl) (fun hb => (htO rfl hb)) (fun hb => (h1t1 hb).2) h0t1) rfl ?_
                refine RG.op (ok_assign (ht rfl)) rfl ?_
                refine RG.nil ?_
                refine AT.next ?_
                refine CG.ret ?_
                refine AT.drop ?_
                cases so h
                exact AT.ret1 rfl rfl
            · have h := cf h hc
              refine CG.seq ?_
              refine CG.region ?_
              refine RG.op (ok_load ti33 rfl rfl (ht rfl)) rfl ?_
              refine RG.op (ok_fieldAddr fd30_1 rfl flDLNode_1 rfl (ht rfl)) rfl ?_
              refine RG.op (ok_load ti3 rfl rfl (ht rfl)) rfl ?_
              obtain ⟨r9, q_r9, h⟩ := bs h
              refine RG.op (ok_call cb15 (f15_ok _ _ q_r9) ⟨(ht rfl), (ht rfl), trivial⟩) rfl ?_
              refine RG.op (ok_move (ht rfl)) rfl ?_
              refine RG.op (ok_extract rfl (ht rfl)) rfl ?_
              refine RG.op (ok_extract rfl (ht rfl)) rfl ?_
              refine RG.alloc (r := rpDLogic) (x := (⟨[]⟩ : DLogic)) ti33 (fun _ => zrDLogic _) rfl (fun b3 => ?_)
              refine RG.storeB ti33 rfl sfld_whole rfl (ht rfl) (ht rfl) ?_
              refine RG.settleB 17 rfl ?_
              refine RG.op (ok_assign (ht rfl)) rfl ?_
              refine RG.nil ?_
              refine AT.next ?_
              refine CG.seq ?_
              refine CG.region ?_
              refine RG.op (ok_load ti33 rfl rfl (ht rfl)) rfl ?_
              refine RG.op (ok_fieldAddr fd30_2 rfl flDLNode_2 rfl (ht rfl)) rfl ?_
              refine RG.op (ok_load ti3 rfl rfl (ht rfl)) rfl ?_
              obtain ⟨r10, q_r10, h⟩ := bs h
              refine RG.op (ok_call cb15 (f15_ok _ _ q_r10) ⟨(ht rfl), (ht rfl), trivial⟩) rfl ?_
              refine RG.op (ok_move (ht rfl)) rfl ?_
              refine RG.op (ok_extract rfl (ht rfl)) rfl ?_
              refine RG.op (ok_extract rfl (ht rfl)) rfl ?_
              refine RG.alloc (r := rpDLogic) (x := (⟨[]⟩ : DLogic)) ti33 (fun _ => zrDLogic _) rfl (fun b4 => ?_)
              refine RG.storeB ti33 rfl sfld_whole rfl (ht rfl) (ht rfl) ?_
              refine RG.settleB 19 rfl ?_
              refine RG.op (ok_assign (ht rfl)) rfl ?_
              refine RG.nil ?_
              refine AT.next ?_
              refine CG.seq ?_
              refine CG.seq ?_
              refine CG.region ?_
              refine RG.op (ok_move (ht rfl)) rfl ?_
              refine RG.op (ok_neqI (ht rfl) hI) rfl ?_
              refine RG.op (ok_move (ht rfl)) rfl ?_
              refine RG.opGf rfl rfl rfl rfl (fun hg => ok_move (ht rfl)) ?_
              refine RG.opGf rfl rfl rfl rfl (fun hg => ok_neqI (htO rfl hg) hI) ?_
              refine RG.op (ok_pickOr (ht rfl) (fun hb => (htO rfl (noti hb)))) rfl ?_
              refine RG.nil ?_
              refine AT.next ?_
              refine CG.cond (ht rfl) (fun hc => ?_) (fun hc => ?_)
              · have h := ct h hc
                refine CG.seq ?_
                refine CG.region ?_
                refine RG.op (ok_assign hB) rfl ?_
                refine RG.nil ?_
                refine AT.next ?_
                refine CG.ret ?_
                refine AT.then_ret (AT.in_ret (AT.then_ret ?_))
                refine AT.drop ?_
                cases so h
                exact AT.ret1 rfl rfl
              · have h := cf h hc
                refine CG.skip ?_
                refine AT.next ?_
                refine CG.region ?_
                refine RG.op (ok_load ti30 rfl rfl (ht rfl)) rfl ?_
                refine RG.op (ok_load ti33 rfl rfl (ht rfl)) rfl ?_
                refine RG.op (ok_load ti33 rfl rfl (ht rfl)) rfl ?_
                obtain ⟨r11, q_r11, h⟩ := bs h
                refine RG.op (ok_call cb11 (f11_ok _ _ _ q_r11) ⟨(ht rfl), (ht rfl), (ht rfl), trivial⟩) rfl ?_
                refine RG.op (ok_move (ht rfl)) rfl ?_
                refine RG.op (ok_extract rfl (ht rfl)) rfl ?_
                refine RG.op (ok_extract rfl (ht rfl)) rfl ?_
                refine RG.storeB ti33 rfl sfld_whole rfl (ht rfl) (ht rfl) ?_
                refine RG.op (ok_assign (ht rfl)) rfl ?_
                refine RG.nil ?_
                refine AT.in_normal ?_
                refine AT.next ?_
                refine CG.seq ?_
                refine CG.region ?_
                refine RG.op (ok_move (ht rfl)) rfl ?_
                refine RG.op (ok_eqlI (ht rfl) hI) rfl ?_
                refine RG.op (ok_move (ht rfl)) rfl ?_
                obtain ⟨t2, q_t2, h⟩ := bs h
                refine RG.opGt rfl rfl rfl rfl (fun hg => ok_loadB ti33 rfl rfl fld_whole (.head _) (ht rfl)) ?_
                refine RG.opGt rfl rfl rfl rfl (fun hg => ok_load ti33 rfl rfl (ht rfl)) ?_
                obtain ⟨r12, h1t2, h0t2⟩ := og q_t2
                have q_r12g := fun hb => (h1t2 hb).1
                refine RG.opGt rfl rfl rfl rfl (fun hg => ok_call cb24 (f24_ok _ _ (q_r12g hg)) ⟨(htO rfl hg), (htO rfl hg), trivial⟩) ?_
                refine RG.op (ok_pickAndM (ht rfl) (fun hb => (htO rfl hb)) (fun hb => (h1t2 hb).2) h0t2) rfl ?_
                refine RG.op (ok_assign (ht rfl)) rfl ?_
                refine RG.nil ?_
                refine AT.next ?_
                refine CG.ret ?_
                refine AT.drop ?_
                cases so h
                exact AT.ret1 rfl rfl
        · obtain ⟨hx, h⟩ := h
          refine LG.unfold ?_
          refine CG.seq ?_
          refine CG.region ?_
          refine RG.op (ok_lss (ht rfl) (ht rfl)) rfl ?_
          refine RG.nil ?_
          refine AT.next ?_
          refine CG.seq ?_
          refine CG.condT (ht rfl) (dropT hx) ?_
          refine CG.skip ?_
          refine AT.next ?_
          refine CG.seq ?_
          refine CG.block ?_
          refine CG.seq ?_
          refine CG.region ?_
          refine RG.op (ok_move (ht rfl)) rfl ?_
          refine RG.op (ok_assign (ht rfl)) rfl ?_
          refine RG.nil ?_
          refine AT.next ?_
          refine CG.seq ?_
          refine CG.region ?_
          refine RG.op (ok_load ti33 rfl rfl (ht rfl)) rfl ?_
          refine RG.op (ok_move (ht rfl)) rfl ?_
          obtain ⟨r13, q_r13, h⟩ := bs h
          refine RG.op (ok_call cb15 (f15_ok _ _ q_r13) ⟨(ht rfl), (ht rfl), trivial⟩) rfl ?_
          refine RG.op (ok_move (ht rfl)) rfl ?_
          refine RG.op (ok_extract rfl (ht rfl)) rfl ?_
          refine RG.op (ok_extract rfl (ht rfl)) rfl ?_
          refine RG.alloc (r := rpDLogic) (x := (⟨[]⟩ : DLogic)) ti33 (fun _ => zrDLogic _) rfl (fun b5 => ?_)
          refine RG.storeB ti33 rfl sfld_whole rfl (ht rfl) (ht rfl) ?_
          refine RG.settleB 7 rfl ?_
          refine RG.op (ok_assign (ht rfl)) rfl ?_
          refine RG.nil ?_
          refine AT.next ?_
          refine CG.seq ?_
          refine CG.seq ?_
          refine CG.region ?_
          refine RG.op (ok_move (ht rfl)) rfl ?_
          refine RG.op (ok_neqI (ht rfl) hI) rfl ?_
          refine RG.nil ?_
          refine AT.next ?_
          refine CG.cond (ht rfl) (fun hc => ?_) (fun hc => ?_)
          · have h := ct h hc
            refine CG.seq ?_
            refine CG.region ?_
            refine RG.op (ok_assign hB) rfl ?_
            refine RG.nil ?_
            refine AT.next ?_
            refine CG.ret ?_
            refine AT.then_ret (AT.in_ret (AT.then_ret (AT.then_ret (AT.in_ret (AT.then_ret ?_)))))
            cases so h
            exact AT.ret1 rfl rfl
          · have h := cf h hc
            refine CG.skip ?_
            refine AT.next ?_
            refine CG.seq ?_
            refine CG.region ?_
            refine RG.op (ok_load ti33 rfl rfl (ht rfl)) rfl ?_
            obtain ⟨r14, q_r14, h⟩ := bs h
            refine RG.op (ok_call cb23 (f23_ok _ q_r14) ⟨(ht rfl), trivial⟩) rfl ?_
            refine RG.op (ok_move (ht rfl)) rfl ?_
            refine RG.op (ok_extract rfl (ht rfl)) rfl ?_
            refine RG.op (ok_extract rfl (ht rfl)) rfl ?_
            refine RG.op (ok_assign (ht rfl)) rfl ?_
            refine RG.op (ok_assign (ht rfl)) rfl ?_
            refine RG.nil ?_
            refine AT.next ?_
            refine CG.seq ?_
            refine CG.region ?_
            refine RG.op (ok_move (ht rfl)) rfl ?_
            refine RG.op (ok_neqI (ht rfl) hI) rfl ?_
            refine RG.op (ok_move (ht rfl)) rfl ?_
            obtain ⟨t3, q_t3, h⟩ := bs h
            refine RG.opGf rfl rfl rfl rfl (fun hg => ok_move (ht rfl)) ?_
            refine RG.opGf rfl rfl rfl rfl (fun hg => ok_move (htO rfl hg)) ?_
            obtain ⟨t4, h1t3, h0t3⟩ := og q_t3
            have q_t4g := fun hb => (h1t3 hb).1
            refine RG.opGot rfl rfl rfl rfl (fun hg => ok_load ti33 rfl rfl (ht rfl)) ?_
            obtain ⟨r15, h1t4, h0t4⟩ := og3 q_t4g
            have q_r15g := fun hb => (h1t4 hb).1
            refine RG.opGot rfl rfl rfl rfl (fun hg => ok_call cb16 (f16_ok _ (q_r15g hg)) ⟨(htO rfl hg), trivial⟩) ?_
            refine RG.opGot rfl rfl rfl rfl (fun hg => ok_not (htO rfl hg)) ?_
            refine RG.opGf rfl rfl rfl rfl (fun hg => ok_pickAndM (htO rfl hg) (fun hb => (htO rfl (andi hg hb))) (fun hb => (h1t4 (andi hg hb)).2) (fun hb => h0t4 hg hb)) ?_
            refine RG.op (ok_pickOrM (ht rfl) (fun hb => (htO rfl (noti hb))) (fun hb => (h1t3 hb).2) h0t3) rfl ?_
            refine RG.nil ?_
            refine AT.next ?_
            refine CG.cond (ht rfl) (fun hc => ?_) (fun hc => ?_)
            · have h := ct h hc
              refine CG.seq ?_
              refine CG.region ?_
              refine RG.op (ok_assign hB) rfl ?_
              refine RG.nil ?_
              refine AT.next ?_
              refine CG.ret ?_
              refine AT.in_ret (AT.then_ret (AT.then_ret (AT.in_ret (AT.then_ret ?_))))
              cases so h
              exact AT.ret1 rfl rfl
            · have h := cf h hc
              refine CG.skip ?_
              refine AT.in_normal ?_
              refine AT.next ?_
              refine CG.region ?_
              refine RG.op (ok_incN (dropL hx hN) (ht rfl) hI) rfl ?_
              refine RG.op (ok_move (ht rfl)) rfl ?_
              refine RG.nil ?_
              exact AT.round (LG.sub (ih (i + 1)  ⟨dropS hx, h⟩) ⟨rfl, rfl, rfl, rfl, trivial⟩)

end Go.Proofs.YtbhkincjkpeaoaaGreat

