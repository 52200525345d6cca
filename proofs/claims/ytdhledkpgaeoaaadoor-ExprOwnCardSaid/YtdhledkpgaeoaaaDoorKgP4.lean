/- Facts of this claim: P4. -/
import Derived.Test.YtdhledkpgaeoaaaDoorKgT
import Derived.Test.YtdhledkpgaeoaaaDoorKgP3
import Derived.Test.YtdhledkpgaeoaaaDoorKgMT
namespace Go.Proofs.YtdhledkpgaeoaaaDoor
open Go

set_option maxRecDepth 100000 in
theorem f49_ok (s : (List DENode)) (f : (DENode → Option Bool)) {R : Int} (h : slices_IndexFunc_api_ENode_api_ENode s f = some R) : Spec Tryd.prog 49 [tD (rSl rpDENode) s, (tFun Tryd.prog (fun (x : DENode) => [tD rpDENode x]) (fun (x : Bool) => tD rB x) (fun (x : DENode) => f x))] (tD (rI .i64) R) := by
  refine Spec.of Tryd.func49 rfl rfl rfl fun w0 S0 => ?_
  refine CG.seq ?_
  refine CG.region ?_
  refine RG.op (ok_assign hI) rfl ?_
  refine RG.nil ?_
  refine AT.next ?_
  refine CG.seq ?_
  refine CG.seq ?_
  refine CG.region ?_
  refine RG.op (ok_move (ht rfl)) rfl ?_
  refine RG.op (ok_lenSl Tryd.underlying22 (ht rfl)) rfl ?_
  refine RG.op (ok_move hI) rfl ?_
  refine RG.nil ?_
  refine AT.next ?_
  refine CG.block ?_
  refine CG.have_len (k := 6) rfl (fun hN => ?_)
  refine CG.loop ?_
  refine LG.sub (LG.list1 (Z := fun ls i  => (s.drop i = ls) ∧ slices_IndexFunc_api_ENode_api_ENode_l1 f ls i  = some R) (Of := fun _ i  => []) (Gf := fun _ i  => [(0, tD (rSl rpDENode) s), (1, (tFun Tryd.prog (fun (x : DENode) => [tD rpDENode x]) (fun (x : Bool) => tD rB x) (fun (x : DENode) => f x))), (7, tD (rI .i64) (s.length : Int)), (8, tD (rI .i64) (i : Int))]) (fun i  h => ?_) (fun e tl ih i  h => ?_) s 0  ⟨rfl, h⟩) ⟨rfl, rfl, rfl, rfl, trivial⟩
  · obtain ⟨hx, h⟩ := h
    refine LG.unfold ?_
    refine CG.seq ?_
    refine CG.region ?_
    refine RG.op (ok_lss (ht rfl) (ht rfl)) rfl ?_
    refine RG.nil ?_
    refine AT.next ?_
    refine CG.seq ?_
    refine CG.condF (ht rfl) (dropF hx) ?_
    refine CG.exit ?_
    refine AT.then_exit (AT.then_exit (AT.in_exit ?_))
    refine AT.next ?_
    refine CG.seq ?_
    refine CG.region ?_
    refine RG.op (ok_assign hI) rfl ?_
    refine RG.nil ?_
    refine AT.next ?_
    refine CG.ret ?_
    cases so h
    exact AT.ret1 rfl rfl
  · obtain ⟨hx, h⟩ := h
    refine LG.unfold ?_
    refine CG.seq ?_
    refine CG.region ?_
    refine RG.op (ok_lss (ht rfl) (ht rfl)) rfl ?_
    refine RG.nil ?_
    refine AT.next ?_
    refine CG.seq ?_
    refine CG.condT (ht rfl) (dropT hx) ?_
    refine CG.skip ?_
    refine AT.next ?_
    refine CG.seq ?_
    refine CG.block ?_
    refine CG.seq ?_
    refine CG.region ?_
    refine RG.op (ok_move (ht rfl)) rfl ?_
    refine RG.op (ok_assign (ht rfl)) rfl ?_
    refine RG.nil ?_
    refine AT.next ?_
    refine CG.seq ?_
    refine CG.region ?_
    refine RG.op (ok_move (ht rfl)) rfl ?_
    refine RG.op (ok_move (ht rfl)) rfl ?_
    refine RG.op (ok_move (ht rfl)) rfl ?_
    refine RG.op (ok_indexAddr Tryd.underlying22 ti49 rfl (ht rfl) (ht rfl) (dropI hx)) rfl ?_
    refine RG.op (ok_load ti49 rfl rfl (ht rfl)) rfl ?_
    obtain ⟨r, q_r, h⟩ := bs h
    refine RG.op (ok_callV (args := (fun (x : DENode) => [tD rpDENode x])) (res := (fun (x : Bool) => tD rB x)) (f := (fun (x : DENode) => f x)) (x := ((e) : DENode)) (ht rfl) q_r ⟨(ht rfl), trivial⟩) rfl ?_
    refine RG.nil ?_
    refine AT.next ?_
    refine CG.cond (ht rfl) (fun hc => ?_) (fun hc => ?_)
    · have h := ct h hc
      refine CG.seq ?_
      refine CG.region ?_
      refine RG.op (ok_move (ht rfl)) rfl ?_
      refine RG.op (ok_assign (ht rfl)) rfl ?_
      refine RG.nil ?_
      refine AT.next ?_
      refine CG.ret ?_
      refine AT.in_ret (AT.then_ret (AT.then_ret (AT.in_ret (AT.then_ret ?_))))
      cases so h
      exact AT.ret1 rfl rfl
    · have h := cf h hc
      refine CG.skip ?_
      refine AT.in_normal ?_
      refine AT.next ?_
      refine CG.region ?_
      refine RG.op (ok_incN (dropL hx hN) (ht rfl) hI) rfl ?_
      refine RG.op (ok_move (ht rfl)) rfl ?_
      refine RG.nil ?_
      exact AT.round (LG.sub (ih (i + 1)  ⟨dropS hx, h⟩) ⟨rfl, rfl, rfl, rfl, trivial⟩)

set_option maxRecDepth 100000 in
theorem f24_ok (s : (List DENode)) (f : (DENode → Option Bool)) {R : Bool} (h : slices_ContainsFunc_api_ENode_api_ENode s f = some R) : Spec Tryd.prog 24 [tD (rSl rpDENode) s, (tFun Tryd.prog (fun (x : DENode) => [tD rpDENode x]) (fun (x : Bool) => tD rB x) (fun (x : DENode) => f x))] (tD rB R) := by
  refine Spec.of Tryd.func24 rfl rfl rfl fun w0 S0 => ?_
  refine CG.seq ?_
  refine CG.region ?_
  refine RG.op (ok_assign hB) rfl ?_
  refine RG.nil ?_
  refine AT.next ?_
  refine CG.seq ?_
  refine CG.region ?_
  refine RG.op (ok_move (ht rfl)) rfl ?_
  refine RG.op (ok_move (ht rfl)) rfl ?_
  obtain ⟨r, q_r, h⟩ := bs h
  refine RG.op (ok_call cb49 (f49_ok _ _ q_r) ⟨(ht rfl), (ht rfl), trivial⟩) rfl ?_
  refine RG.op (ok_geq (ht rfl) hI) rfl ?_
  refine RG.op (ok_assign (ht rfl)) rfl ?_
  refine RG.nil ?_
  refine AT.next ?_
  refine CG.ret ?_
  cases so h
  exact AT.ret1 rfl rfl

set_option maxRecDepth 100000 in
theorem f26_ok (tag : Int) {R : Bool} (h : expr_arithmetic tag = some R) : Spec Tryd.prog 26 [tD (rI .i64) tag] (tD rB R) := by
  refine Spec.of Tryd.func26 rfl rfl rfl fun w0 S0 => ?_
  refine CG.seq ?_
  refine CG.region ?_
  refine RG.op (ok_assign hB) rfl ?_
  refine RG.nil ?_
  refine AT.next ?_
  refine CG.seq ?_
  refine CG.region ?_
  refine RG.op (ok_move (ht rfl)) rfl ?_
  refine RG.op (ok_eqlI (ht rfl) hI) rfl ?_
  refine RG.op (ok_move (ht rfl)) rfl ?_
  refine RG.opGf rfl rfl rfl rfl (fun hg => ok_move (ht rfl)) ?_
  refine RG.opGf rfl rfl rfl rfl (fun hg => ok_geq (htO rfl hg) hI) ?_
  refine RG.opGf rfl rfl rfl rfl (fun hg => ok_move (htO rfl hg)) ?_
  refine RG.opGot rfl rfl rfl rfl (fun hg => ok_move (ht rfl)) ?_
  refine RG.opGot rfl rfl rfl rfl (fun hg => ok_leq (htO rfl hg) hI) ?_
  refine RG.opGf rfl rfl rfl rfl (fun hg => ok_pickAnd (htO rfl hg) (fun hb => (htO rfl (andi hg hb)))) ?_
  refine RG.op (ok_pickOr (ht rfl) (fun hb => (htO rfl (noti hb)))) rfl ?_
  refine RG.op (ok_assign (ht rfl)) rfl ?_
  refine RG.nil ?_
  refine AT.next ?_
  refine CG.ret ?_
  cases so h
  exact AT.ret1 rfl rfl

set_option maxRecDepth 100000 in
theorem f25_ok (n : DENode) {R : Bool} (h : expr_Safe_1 n = some R) : Spec Tryd.prog 25 [tD rpDENode n] (tD rB R) := by
  refine Spec.of Tryd.func25 rfl rfl rfl fun w0 S0 => ?_
  refine CG.seq ?_
  refine CG.region ?_
  refine RG.op (ok_box (ht rfl)) rfl ?_
  refine RG.op (ok_assign hB) rfl ?_
  refine RG.nil ?_
  refine AT.next ?_
  refine CG.seq ?_
  refine CG.region ?_
  refine RG.op (ok_fieldAddr fd49_0 rfl flDENode_0 rfl (ht rfl)) rfl ?_
  refine RG.op (ok_load ti3 rfl rfl (ht rfl)) rfl ?_
  obtain ⟨r, q_r, h⟩ := bs h
  refine RG.op (ok_call cb26 (f26_ok _ q_r) ⟨(ht rfl), trivial⟩) rfl ?_
  refine RG.op (ok_assign (ht rfl)) rfl ?_
  refine RG.nil ?_
  refine AT.next ?_
  refine CG.ret ?_
  cases so h
  exact AT.ret1 rfl rfl

set_option maxRecDepth 100000 in
theorem f13_ok (e : DExpr) {R : Bool} (h : expr_Safe e = some R) : Spec Tryd.prog 13 [tD rpDExpr e] (tD rB R) := by
  refine Spec.of Tryd.func13 rfl rfl rfl fun w0 S0 => ?_
  refine CG.seq ?_
  refine CG.region ?_
  refine RG.op (ok_box (ht rfl)) rfl ?_
  refine RG.op (ok_assign hB) rfl ?_
  refine RG.nil ?_
  refine AT.next ?_
  refine CG.seq ?_
  refine CG.region ?_
  refine RG.op (ok_load ti24 rfl rfl (ht rfl)) rfl ?_
  obtain ⟨r, q_r, h⟩ := bs h
  refine RG.op (ok_call cb6 (f6_ok _ q_r) ⟨(ht rfl), trivial⟩) rfl ?_
  refine RG.op (ok_eqlI (ht rfl) hI) rfl ?_
  refine RG.op (ok_move (ht rfl)) rfl ?_
  obtain ⟨t, q_t, h⟩ := bs h
  refine RG.opGt rfl rfl rfl rfl (fun hg => ok_fieldAddr fd24_0 rfl flDExpr_0 rfl (ht rfl)) ?_
  refine RG.opGt rfl rfl rfl rfl (fun hg => ok_load ti22 rfl rfl (htO rfl hg)) ?_
  obtain ⟨r1, h1t, h0t⟩ := og q_t
  have q_r1g := fun hb => (h1t hb).1
  refine RG.opGt rfl rfl rfl rfl (fun hg => ok_call cb24 (f24_ok _ _ (q_r1g hg)) ⟨(htO rfl hg), (hFn cb25 fun x y h => f25_ok _ h), trivial⟩) ?_
  refine RG.opGt rfl rfl rfl rfl (fun hg => ok_not (htO rfl hg)) ?_
  refine RG.op (ok_pickAndM (ht rfl) (fun hb => (htO rfl hb)) (fun hb => (h1t hb).2) h0t) rfl ?_
  refine RG.op (ok_assign (ht rfl)) rfl ?_
  refine RG.nil ?_
  refine AT.next ?_
  refine CG.ret ?_
  cases so h
  exact AT.ret1 rfl rfl

set_option maxRecDepth 100000 in
theorem f4_ok {R : Bool} (h : law10_wakes = some R) : Spec Tryd.prog 4 [] (tD rB R) := by
  refine Spec.of Tryd.func4 rfl rfl rfl fun w0 S0 => ?_
  refine CG.seq ?_
  refine CG.region ?_
  refine RG.op (ok_assign hB) rfl ?_
  refine RG.nil ?_
  refine AT.next ?_
  refine CG.seq ?_
  refine CG.region ?_
  obtain ⟨r, q_r, h⟩ := bs h
  refine RG.op (ok_call cb11 (f11_ok _ q_r) ⟨hI, trivial⟩) rfl ?_
  obtain ⟨r1, q_r1, h⟩ := bs h
  refine RG.op (ok_call cb11 (f11_ok _ q_r1) ⟨hI, trivial⟩) rfl ?_
  obtain ⟨r2, q_r2, h⟩ := bs h
  refine RG.op (ok_call cb10 (f10_ok _ _ _ q_r2) ⟨hI, (ht rfl), (ht rfl), trivial⟩) rfl ?_
  refine RG.op (ok_move (ht rfl)) rfl ?_
  refine RG.op (ok_extract rfl (ht rfl)) rfl ?_
  refine RG.op (ok_extract rfl (ht rfl)) rfl ?_
  refine RG.alloc (r := rpDExpr) (x := (⟨[]⟩ : DExpr)) ti24 (fun _ => zrDExpr _) rfl (fun b => ?_)
  refine RG.storeB ti24 rfl sfld_whole rfl (ht rfl) (ht rfl) ?_
  refine RG.settleB 1 rfl ?_
  refine RG.op (ok_assign (ht rfl)) rfl ?_
  refine RG.nil ?_
  refine AT.next ?_
  refine CG.seq ?_
  refine CG.region ?_
  refine RG.op (ok_load ti24 rfl rfl (ht rfl)) rfl ?_
  refine RG.op (ok_build (y := (⟨(2 : Int), (5 : Int), (0 : Int), []⟩ : DValue)) ti37 fs37 zrDValue (⟨_, _, _, _, _, rfl, sfDValue_0, rfl, hI, ⟨_, _, _, _, _, rfl, sfDValue_1, rfl, hI, rfl⟩⟩)) rfl ?_
  refine RG.op (ok_build (y := (⟨(2 : Int), (3 : Int), (0 : Int), []⟩ : DValue)) ti37 fs37 zrDValue (⟨_, _, _, _, _, rfl, sfDValue_0, rfl, hI, ⟨_, _, _, _, _, rfl, sfDValue_1, rfl, hI, rfl⟩⟩)) rfl ?_
  refine RG.op (ok_buildSlice (r := rpDValue) (ys := [(⟨(2 : Int), (5 : Int), (0 : Int), []⟩ : DValue), (⟨(2 : Int), (3 : Int), (0 : Int), []⟩ : DValue)]) (xs := [.tmp 18, .tmp 19]) Tryd.underlying26 ti37 rfl rfl rfl rfl rfl ⟨(ht rfl), (ht rfl), trivial⟩) rfl ?_
  obtain ⟨r3, q_r3, h⟩ := bs h
  refine RG.op (ok_call cb9 (f9_ok _ _ q_r3) ⟨(ht rfl), (ht rfl), trivial⟩) rfl ?_
  refine RG.op (ok_move (ht rfl)) rfl ?_
  refine RG.op (ok_extract rfl (ht rfl)) rfl ?_
  refine RG.op (ok_extract rfl (ht rfl)) rfl ?_
  refine RG.alloc (r := rpDValue) (x := (⟨(0 : Int), (0 : Int), (0 : Int), []⟩ : DValue)) ti37 (fun _ => zrDValue _) rfl (fun b1 => ?_)
  refine RG.storeB ti37 rfl sfld_whole rfl (ht rfl) (ht rfl) ?_
  refine RG.settleB 3 rfl ?_
  refine RG.op (ok_assign (ht rfl)) rfl ?_
  refine RG.nil ?_
  refine AT.next ?_
  refine CG.seq ?_
  refine CG.region ?_
  obtain ⟨r4, q_r4, h⟩ := bs h
  refine RG.op (ok_call cb11 (f11_ok _ q_r4) ⟨hI, trivial⟩) rfl ?_
  obtain ⟨r5, q_r5, h⟩ := bs h
  refine RG.op (ok_call cb11 (f11_ok _ q_r5) ⟨hI, trivial⟩) rfl ?_
  obtain ⟨r6, q_r6, h⟩ := bs h
  refine RG.op (ok_call cb10 (f10_ok _ _ _ q_r6) ⟨hI, (ht rfl), (ht rfl), trivial⟩) rfl ?_
  refine RG.op (ok_move (ht rfl)) rfl ?_
  refine RG.op (ok_extract rfl (ht rfl)) rfl ?_
  refine RG.op (ok_extract rfl (ht rfl)) rfl ?_
  refine RG.alloc (r := rpDExpr) (x := (⟨[]⟩ : DExpr)) ti24 (fun _ => zrDExpr _) rfl (fun b2 => ?_)
  refine RG.storeB ti24 rfl sfld_whole rfl (ht rfl) (ht rfl) ?_
  refine RG.settleB 5 rfl ?_
  refine RG.op (ok_assign (ht rfl)) rfl ?_
  refine RG.nil ?_
  refine AT.next ?_
  refine CG.seq ?_
  refine CG.region ?_
  refine RG.op (ok_load ti24 rfl rfl (ht rfl)) rfl ?_
  obtain ⟨r7, q_r7, h⟩ := bs h
  refine RG.op (ok_call cb12 (f12_ok _ _ q_r7) ⟨(ht rfl), hI, trivial⟩) rfl ?_
  refine RG.op (ok_move (ht rfl)) rfl ?_
  refine RG.op (ok_extract rfl (ht rfl)) rfl ?_
  refine RG.op (ok_extract rfl (ht rfl)) rfl ?_
  refine RG.op (ok_extract rfl (ht rfl)) rfl ?_
  refine RG.op (ok_assign (ht rfl)) rfl ?_
  refine RG.op (ok_assign (ht rfl)) rfl ?_
  refine RG.op (ok_assign (ht rfl)) rfl ?_
  refine RG.nil ?_
  refine AT.next ?_
  refine CG.seq ?_
  refine CG.region ?_
  refine RG.op (ok_move (ht rfl)) rfl ?_
  refine RG.op (ok_eqlI (ht rfl) hI) rfl ?_
  refine RG.op (ok_move (ht rfl)) rfl ?_
  refine RG.opGt rfl rfl rfl rfl (fun hg => ok_move (ht rfl)) ?_
  refine RG.opGt rfl rfl rfl rfl (fun hg => ok_eqlI (htO rfl hg) hI) ?_
  refine RG.op (ok_pickAnd (ht rfl) (fun hb => (htO rfl hb))) rfl ?_
  refine RG.op (ok_move (ht rfl)) rfl ?_
  refine RG.opGt rfl rfl rfl rfl (fun hg => ok_move (ht rfl)) ?_
  refine RG.opGt rfl rfl rfl rfl (fun hg => ok_eqlI (htO rfl hg) hI) ?_
  refine RG.op (ok_pickAnd (ht rfl) (fun hb => (htO rfl hb))) rfl ?_
  refine RG.op (ok_move (ht rfl)) rfl ?_
  refine RG.opGt rfl rfl rfl rfl (fun hg => ok_load ti37 rfl rfl (ht rfl)) ?_
  refine RG.opGt rfl rfl rfl rfl (fun hg => ok_build (y := (⟨(2 : Int), (2 : Int), (0 : Int), []⟩ : DValue)) ti37 fs37 zrDValue (⟨_, _, _, _, _, rfl, sfDValue_0, rfl, hI, ⟨_, _, _, _, _, rfl, sfDValue_1, rfl, hI, rfl⟩⟩)) ?_
  refine RG.opGt rfl rfl rfl rfl (fun hg => ok_eqlD eq37 (htO rfl hg) (htO rfl hg)) ?_
  refine RG.op (ok_pickAnd (ht rfl) (fun hb => (htO rfl hb))) rfl ?_
  refine RG.op (ok_move (ht rfl)) rfl ?_
  refine RG.opGt rfl rfl rfl rfl (fun hg => ok_move (ht rfl)) ?_
  refine RG.op (ok_pickAnd (ht rfl) (fun hb => (htO rfl hb))) rfl ?_
  refine RG.op (ok_move (ht rfl)) rfl ?_
  refine RG.opGt rfl rfl rfl rfl (fun hg => ok_move (ht rfl)) ?_
  refine RG.opGt rfl rfl rfl rfl (fun hg => ok_eqlI (htO rfl hg) hI) ?_
  refine RG.op (ok_pickAnd (ht rfl) (fun hb => (htO rfl hb))) rfl ?_
  refine RG.op (ok_move (ht rfl)) rfl ?_
  refine RG.opGt rfl rfl rfl rfl (fun hg => ok_move (ht rfl)) ?_
  refine RG.opGt rfl rfl rfl rfl (fun hg => ok_eqlI (htO rfl hg) hI) ?_
  refine RG.op (ok_pickAnd (ht rfl) (fun hb => (htO rfl hb))) rfl ?_
  refine RG.op (ok_move (ht rfl)) rfl ?_
  obtain ⟨t, q_t, h⟩ := bs h
  refine RG.opGt rfl rfl rfl rfl (fun hg => ok_load ti24 rfl rfl (ht rfl)) ?_
  obtain ⟨r8, h1t, h0t⟩ := og q_t
  have q_r8g := fun hb => (h1t hb).1
  refine RG.opGt rfl rfl rfl rfl (fun hg => ok_call cb13 (f13_ok _ (q_r8g hg)) ⟨(htO rfl hg), trivial⟩) ?_
  refine RG.opGt rfl rfl rfl rfl (fun hg => ok_not (htO rfl hg)) ?_
  refine RG.op (ok_pickAndM (ht rfl) (fun hb => (htO rfl hb)) (fun hb => (h1t hb).2) h0t) rfl ?_
  refine RG.op (ok_move (ht rfl)) rfl ?_
  obtain ⟨t1, q_t1, h⟩ := bs h
  refine RG.opGt rfl rfl rfl rfl (fun hg => ok_load ti24 rfl rfl (ht rfl)) ?_
  obtain ⟨r9, h1t1, h0t1⟩ := og q_t1
  have q_r9g := fun hb => (h1t1 hb).1
  refine RG.opGt rfl rfl rfl rfl (fun hg => ok_call cb13 (f13_ok _ (q_r9g hg)) ⟨(htO rfl hg), trivial⟩) ?_
  refine RG.op (ok_pickAndM (ht rfl) (fun hb => (htO rfl hb)) (fun hb => (h1t1 hb).2) h0t1) rfl ?_
  refine RG.op (ok_assign (ht rfl)) rfl ?_
  refine RG.nil ?_
  refine AT.next ?_
  refine CG.ret ?_
  cases so h
  exact AT.ret1 rfl rfl

set_option maxRecDepth 100000 in
theorem f14_own (l : (List DENode)) (most : Int) {R : (List DENode)} (h : law10_cut_api_ENode l most = some R) : SpecO Tryd.prog 14 [tD (rSl rpDENode) l, tD (rI .i64) most] false rpDENode 49 R := by
  refine SpecO.of Tryd.func14 rfl rfl rfl fun w0 S0 => ?_
  refine CG.seq ?_
  refine CG.region ?_
  refine RG.fresh false rpDENode 49 ?_
  refine RG.op (ok_assign hVn) rfl ?_
  refine RG.nil ?_
  refine AT.next ?_
  refine CG.seq ?_
  refine CG.region ?_
  refine RG.buildOwn (r := rpDENode) (ys := ([] : List DENode)) (xs := []) Tryd.underlying22 ti49 rfl rfl rfl rfl rfl trivial rfl (fun l1 c => ?_)
  refine RG.op (ok_move (ht rfl)) rfl ?_
  refine RG.op (ok_move (ht rfl)) rfl ?_
  refine RG.op (ok_lenSl Tryd.underlying22 (ht rfl)) rfl ?_
  refine RG.op (ok_move (ht rfl)) rfl ?_
  refine RG.op (ok_min2 (ht rfl) (ht rfl)) rfl ?_
  obtain ⟨y, q_y, h⟩ := bs h
  refine RG.op (ok_sliceHi Tryd.underlying22 ti49 rfl (ht rfl) (ht rfl) q_y) rfl ?_
  obtain ⟨x, q_x, h⟩ := bs h
  refine RG.append ti49 rfl rfl rfl rfl Tryd.underlying22 rfl rfl (ht rfl) (ht rfl) q_x (fun l2 c1 => ?_)
  refine RG.op (ok_assign (ht rfl)) rfl ?_
  refine RG.nil ?_
  refine AT.next ?_
  refine CG.ret ?_
  cases so h
  exact AT.retO rfl rfl
set_option maxRecDepth 100000 in
theorem f5_ok (e : DExpr) (most : Int) {R : DExpr} (h : law10_short e most = some R) : Spec Tryd.prog 5 [tD rpDExpr e, tD (rI .i64) most] (tD rpDExpr R) := by
  refine Spec.of Tryd.func5 rfl rfl rfl fun w0 S0 => ?_
  refine CG.seq ?_
  refine CG.region ?_
  refine RG.op (ok_box (ht rfl)) rfl ?_
  refine RG.alloc (r := rpDExpr) (x := (⟨[]⟩ : DExpr)) ti24 (fun _ => zrDExpr _) rfl (fun b => ?_)
  refine RG.nil ?_
  refine AT.next ?_
  refine CG.seq ?_
  refine CG.region ?_
  refine RG.op (ok_fieldAddr fd24_0 rfl flDExpr_0 rfl (ht rfl)) rfl ?_
  refine RG.op (ok_load ti22 rfl rfl (ht rfl)) rfl ?_
  refine RG.op (ok_move (ht rfl)) rfl ?_
  obtain ⟨r, q_r, h⟩ := bs h
  refine RG.callO cb14 (f14_own _ _ q_r) ⟨(ht rfl), (ht rfl), trivial⟩ rfl (fun l c => ?_)
  refine RG.op (ok_build (y := mkOExpr_0 (⟨r⟩ : DExpr) (oslV l c r.length)) ti24 fs24 zrOExpr_0 (⟨_, _, _, _, _, rfl, sfOExpr_0_0, rfl, (hRV (ht rfl)), rfl⟩)) rfl ?_
  refine RG.fresh false rpDENode 49 ?_
  refine RG.alloc (r := rpOExpr_0) (x := mkOExpr_0 (⟨[]⟩ : DExpr) (oslV none 0 (([] : List DENode).length))) ti24 zrOExpr_0 rfl (fun b1 => ?_)
  refine RG.storeFX ti24 rfl (sfx_whole rfl) rfl (ht rfl) (ht rfl) ?_
  refine RG.front1 ?_
  refine RG.drop ?_
  refine RG.nil ?_
  refine AT.next ?_
  refine CG.seq ?_
  refine CG.seq ?_
  refine CG.region ?_
  refine RG.op (ok_fieldAddrC (n := 0) fd24_0 rfl (ht rfl) rfl) rfl ?_
  refine RG.op (ok_loadFV ti22 flOExpr_0_0 (.head _) rfl (ht rfl)) rfl ?_
  refine RG.op (ok_lenO Tryd.underlying22 (.tail _ (.head _)) (ht rfl)) rfl ?_
  refine RG.op (ok_move hI) rfl ?_
  refine RG.nil ?_
  refine AT.next ?_
  refine CG.block ?_
  refine CG.have_lenA (.tail _ (.head _)) (fun hN => ?_)
  refine CG.loop ?_
  refine LG.front1 ?_
  refine LG.front1 ?_
  refine LG.front2 ?_
  refine LG.sub (LG.list4 (Z := fun ls i out l1 c1 => (r.drop i = ls) ∧ law10_short_l1 ls i out = some R) (Of := fun _ i out l1 c1 => [bx rpDExpr 24 b (⟨[]⟩ : DExpr), bx rpOExpr_0 24 b1 (mkOExpr_0 out (oslV l1 c1 out.Nodes.length)), arr rpDENode 49 l1 c1 out.Nodes]) (Gf := fun _ i out l1 c1 => [(4, tV (bptr b 0)), (5, tV (bptr b1 0)), (15, tD (rI .i64) (r.length : Int)), (16, tD (rI .i64) (i : Int))]) (fun i out l1 c1 h => ?_) (fun e1 tl ih i out l1 c1 h => ?_) r 0 ({ (⟨r⟩ : DExpr) with Nodes := r } : DExpr) l c ⟨rfl, h⟩) ⟨rfl, rfl, rfl, rfl, trivial⟩
  · obtain ⟨hx, h⟩ := h
    refine LG.unfold ?_
    refine CG.seq ?_
    refine CG.region ?_
    refine RG.op (ok_lss (ht rfl) (ht rfl)) rfl ?_
    refine RG.nil ?_
    refine AT.next ?_
    refine CG.seq ?_
    refine CG.condF (ht rfl) (dropF hx) ?_
    refine CG.exit ?_
    refine AT.then_exit (AT.then_exit (AT.in_exit ?_))
    refine AT.next ?_
    refine CG.seq ?_
    refine CG.region ?_
    refine RG.front2 ?_
    refine RG.freeze ?_
    refine RG.op (ok_loadObj (q := rpDExpr) (y := out) ti24 rfl rfl rfl rfl (.tail _ (.tail _ (.head _))) (fun _ _ _ ho h => cvOExpr_0_to_D (own_tip ho (.head _)) h) (ht rfl)) rfl ?_
    refine RG.front1 ?_
    refine RG.storeB ti24 rfl sfld_whole rfl (ht rfl) (ht rfl) ?_
    refine RG.settleB 4 rfl ?_
    refine RG.nil ?_
    refine AT.next ?_
    refine CG.ret ?_
    refine AT.drop ?_
    refine AT.drop ?_
    cases so h
    exact AT.ret1c rfl ti24 rfl rfl rfl
  · obtain ⟨hx, h⟩ := h
    refine LG.unfold ?_
    refine CG.seq ?_
    refine CG.region ?_
    refine RG.op (ok_lss (ht rfl) (ht rfl)) rfl ?_
    refine RG.nil ?_
    refine AT.next ?_
    refine CG.seq ?_
    refine CG.condT (ht rfl) (dropT hx) ?_
    refine CG.skip ?_
    refine AT.next ?_
    refine CG.seq ?_
    refine CG.block ?_
    refine CG.seq ?_
    refine CG.region ?_
    refine RG.op (ok_move (ht rfl)) rfl ?_
    refine RG.op (ok_assign (ht rfl)) rfl ?_
    refine RG.nil ?_
    refine AT.next ?_
    refine CG.seq ?_
    refine CG.region ?_
    refine RG.op (ok_fieldAddrC (n := 0) fd24_0 rfl (ht rfl) rfl) rfl ?_
    refine RG.op (ok_loadFV ti22 flOExpr_0_0 (.tail _ (.head _)) rfl (ht rfl)) rfl ?_
    refine RG.op (ok_move (ht rfl)) rfl ?_
    obtain ⟨e2, q_e2, h⟩ := bs h
    refine RG.op (ok_indexAddrO Tryd.underlying22 ti49 (.tail _ (.tail _ (.head _))) (ht rfl) (ht rfl) q_e2) rfl ?_
    refine RG.op (ok_fieldAddrF (o := (i : Int).toNat * 8 + 0) (n := (i : Int).toNat * 8 + 4) fd49_4 rfl (.tail _ (.tail _ (.head _))) q_e2 (ht rfl) rfl) rfl ?_
    refine RG.op (ok_fieldAddrF (o := (i : Int).toNat * 8 + 4) (n := (i : Int).toNat * 8 + 7) fd37_3 rfl (.tail _ (.tail _ (.head _))) q_e2 (ht rfl) rfl) rfl ?_
    refine RG.op (ok_assign (ht rfl)) rfl ?_
    refine RG.nil ?_
    refine AT.next ?_
    obtain ⟨y, q_y, h⟩ := bs h
    refine CG.drawM 11 (ts := [tV (eptr l1 ((i : Int).toNat * 8 + 7)), tV (eptr l1 ((i : Int).toNat * 8 + 7)), tV (eptr l1 ((i : Int).toNat * 8 + 7)), tD rS e2.Value.S, tV (eptr l1 ((i : Int).toNat * 8 + 7)), tV (eptr l1 ((i : Int).toNat * 8 + 7)), tD rS e2.Value.S, tD (rI .i64) (e2.Value.S.length : Int), tD (rI .i64) (min (e2.Value.S.length : Int) (41 : Int)), tD rS y, tV (eptr l1 ((i : Int).toNat * 8 + 7))]) mixed rfl rfl rfl
      ⟨⟨[⟨7, _, none⟩], _, rfl, ⟨rfl, trivial⟩, rfl, rfl, OpG.plain rfl (ok_move (ht rfl))⟩,
      ⟨⟨[⟨7, _, none⟩], _, rfl, ⟨rfl, trivial⟩, rfl, rfl, OpG.plain rfl (ok_move (ht rfl))⟩,
      ⟨⟨[⟨26, _, some 1⟩], _, rfl, ⟨rfl, trivial⟩, rfl, rfl, OpG.plain rfl (ok_nilE (.tail _ (.tail _ (.head _))) q_e2 (ht rfl))⟩,
      ⟨⟨[⟨27, _, some 2⟩], _, rfl, ⟨rfl, trivial⟩, rfl, rfl, OpG.plain rfl (ok_loadE (r := rpDENode) (i := (i : Int)) (foff := 7) ti9 rfl rfl (fld_comp flDENode_4 flDValue_3) rfl (.tail _ (.tail _ (.head _))) q_e2 (ht rfl))⟩,
      ⟨⟨[⟨7, _, none⟩], _, rfl, ⟨rfl, trivial⟩, rfl, rfl, OpG.plain rfl (ok_move (ht rfl))⟩,
      ⟨⟨[⟨29, _, some 4⟩], _, rfl, ⟨rfl, trivial⟩, rfl, rfl, OpG.plain rfl (ok_nilE (.tail _ (.tail _ (.head _))) q_e2 (ht rfl))⟩,
      ⟨⟨[⟨30, _, some 5⟩], _, rfl, ⟨rfl, trivial⟩, rfl, rfl, OpG.plain rfl (ok_loadE (r := rpDENode) (i := (i : Int)) (foff := 7) ti9 rfl rfl (fld_comp flDENode_4 flDValue_3) rfl (.tail _ (.tail _ (.head _))) q_e2 (ht rfl))⟩,
      ⟨⟨[⟨31, _, some 6⟩], _, rfl, ⟨rfl, trivial⟩, rfl, rfl, OpG.plain rfl (ok_lenS Tryd.underlying9 (ht rfl))⟩,
      ⟨⟨[⟨32, _, some 7⟩], _, rfl, ⟨rfl, trivial⟩, rfl, rfl, OpG.plain rfl (ok_min2 (ht rfl) hI)⟩,
      ⟨⟨[⟨28, _, some 3⟩, ⟨33, _, some 8⟩], _, rfl, ⟨rfl, rfl, trivial⟩, rfl, rfl, OpG.plain rfl (ok_sliceS Tryd.underlying9 (ht rfl) (ht rfl) q_y)⟩,
      ⟨⟨[⟨25, _, some 0⟩], _, rfl, ⟨rfl, trivial⟩, rfl, rfl, OpG.plain rfl (ok_nilE (.tail _ (.tail _ (.head _))) q_e2 (ht rfl))⟩,
      trivial⟩⟩⟩⟩⟩⟩⟩⟩⟩⟩⟩ ?_
    refine RG.front2 ?_
    obtain ⟨st, q_st, h⟩ := bs h
    refine RG.storeE ti9 rfl (sfld_comp flDENode_4 sfDENode_4 sfDValue_3) rfl q_e2 (so q_st) (ht rfl) (ht rfl) ?_
    refine RG.relen2 (set_len (so q_st)) 20 rfl ?_
    refine RG.castO (O' := [arr rpDENode 49 l1 c1 st, bx rpDExpr 24 b (⟨[]⟩ : DExpr), bx rpOExpr_0 24 b1 (mkOExpr_0 out (oslV l1 c1 st.length))]) (by rw [set_len (so q_st)]) ?_
    refine RG.nil ?_
    refine AT.in_normal ?_
    refine AT.next ?_
    refine CG.region ?_
    refine RG.op (ok_incN (dropL hx hN) (ht rfl) hI) rfl ?_
    refine RG.op (ok_move (ht rfl)) rfl ?_
    refine RG.nil ?_
    refine AT.front2 ?_
    refine AT.front2 ?_
    exact AT.round (LG.sub (ih (i + 1) ({ out with Nodes := st } : DExpr) l1 c1 ⟨dropS hx, h⟩) ⟨rfl, rfl, rfl, rfl, trivial⟩)

set_option maxRecDepth 100000 in
theorem f16_own (l : (List DValue)) (most : Int) {R : (List DValue)} (h : law10_cut_api_Value l most = some R) : SpecO Tryd.prog 16 [tD (rSl rpDValue) l, tD (rI .i64) most] false rpDValue 37 R := by
  refine SpecO.of Tryd.func16 rfl rfl rfl fun w0 S0 => ?_
  refine CG.seq ?_
  refine CG.region ?_
  refine RG.fresh false rpDValue 37 ?_
  refine RG.op (ok_assign hVn) rfl ?_
  refine RG.nil ?_
  refine AT.next ?_
  refine CG.seq ?_
  refine CG.region ?_
  refine RG.buildOwn (r := rpDValue) (ys := ([] : List DValue)) (xs := []) Tryd.underlying25 ti37 rfl rfl rfl rfl rfl trivial rfl (fun l1 c => ?_)
  refine RG.op (ok_move (ht rfl)) rfl ?_
  refine RG.op (ok_move (ht rfl)) rfl ?_
  refine RG.op (ok_lenSl Tryd.underlying25 (ht rfl)) rfl ?_
  refine RG.op (ok_move (ht rfl)) rfl ?_
  refine RG.op (ok_min2 (ht rfl) (ht rfl)) rfl ?_
  obtain ⟨y, q_y, h⟩ := bs h
  refine RG.op (ok_sliceHi Tryd.underlying25 ti37 rfl (ht rfl) (ht rfl) q_y) rfl ?_
  obtain ⟨x, q_x, h⟩ := bs h
  refine RG.append ti37 rfl rfl rfl rfl Tryd.underlying25 rfl rfl (ht rfl) (ht rfl) q_x (fun l2 c1 => ?_)
  refine RG.op (ok_assign (ht rfl)) rfl ?_
  refine RG.nil ?_
  refine AT.next ?_
  refine CG.ret ?_
  cases so h
  exact AT.retO rfl rfl
set_option maxRecDepth 100000 in
theorem f7_own (r : (List DValue)) {R : (List DValue)} (h : law10_row r = some R) : SpecO Tryd.prog 7 [tD (rSl rpDValue) r] false rpDValue 37 R := by
  refine SpecO.of Tryd.func7 rfl rfl rfl fun w0 S0 => ?_
  refine CG.seq ?_
  refine CG.region ?_
  refine RG.fresh false rpDValue 37 ?_
  refine RG.op (ok_assign hVn) rfl ?_
  refine RG.nil ?_
  refine AT.next ?_
  refine CG.seq ?_
  refine CG.region ?_
  refine RG.op (ok_move (ht rfl)) rfl ?_
  obtain ⟨r1, q_r1, h⟩ := bs h
  refine RG.callO cb16 (f16_own _ _ q_r1) ⟨(ht rfl), hI, trivial⟩ rfl (fun l c => ?_)
  refine RG.op (ok_assign (ht rfl)) rfl ?_
  refine RG.nil ?_
  refine AT.next ?_
  refine CG.seq ?_
  refine CG.seq ?_
  refine CG.region ?_
  refine RG.op (ok_move (ht rfl)) rfl ?_
  refine RG.op (ok_lenO Tryd.underlying25 (.head _) (ht rfl)) rfl ?_
  refine RG.op (ok_move hI) rfl ?_
  refine RG.nil ?_
  refine AT.next ?_
  refine CG.block ?_
  refine CG.have_lenA (.head _) (fun hN => ?_)
  refine CG.loop ?_
  refine LG.front1 ?_
  refine LG.drop ?_
  refine LG.sub (LG.nat2 (Z := fun k i out => (r1.length - i = k) ∧ law10_row_l1 k i out = some R) (Of := fun _ i out => [arr rpDValue 37 l c out]) (Gf := fun _ i out => [(3, tV (oslV l c out.length)), (8, tD (rI .i64) (r1.length : Int)), (9, tD (rI .i64) (i : Int))]) (fun i out h => ?_) (fun k1 ih i out h => ?_) r1.length 0 r1 ⟨rfl, h⟩) ⟨rfl, rfl, rfl, trivial⟩
  · obtain ⟨hx, h⟩ := h
    refine LG.unfold ?_
    refine CG.seq ?_
    refine CG.region ?_
    refine RG.op (ok_lss (ht rfl) (ht rfl)) rfl ?_
    refine RG.nil ?_
    refine AT.next ?_
    refine CG.seq ?_
    refine CG.condF (ht rfl) (natF hx) ?_
    refine CG.exit ?_
    refine AT.then_exit (AT.then_exit (AT.in_exit ?_))
    refine AT.next ?_
    refine CG.seq ?_
    refine CG.region ?_
    refine RG.op (ok_move (ht rfl)) rfl ?_
    refine RG.op (ok_assign (ht rfl)) rfl ?_
    refine RG.nil ?_
    refine AT.next ?_
    refine CG.ret ?_
    cases so h
    exact AT.retO rfl rfl
  · obtain ⟨hx, h⟩ := h
    refine LG.unfold ?_
    refine CG.seq ?_
    refine CG.region ?_
    refine RG.op (ok_lss (ht rfl) (ht rfl)) rfl ?_
    refine RG.nil ?_
    refine AT.next ?_
    refine CG.seq ?_
    refine CG.condT (ht rfl) (natT hx) ?_
    refine CG.skip ?_
    refine AT.next ?_
    refine CG.seq ?_
    refine CG.block ?_
    refine CG.seq ?_
    refine CG.region ?_
    refine RG.op (ok_move (ht rfl)) rfl ?_
    refine RG.op (ok_assign (ht rfl)) rfl ?_
    refine RG.nil ?_
    refine AT.next ?_
    obtain ⟨e1, q_e1, h⟩ := bs h
    obtain ⟨y, q_y, h⟩ := bs h
    refine CG.drawM 17 (ts := [tV (oslV l c out.length), tD (rI .i64) (i : Int), tV (oslV l c out.length), tD (rI .i64) (i : Int), tV (eptr l ((i : Int).toNat * 4 + 0)), tV (eptr l ((i : Int).toNat * 4 + 3)), tD rS e1.S, tV (oslV l c out.length), tD (rI .i64) (i : Int), tV (eptr l ((i : Int).toNat * 4 + 0)), tV (eptr l ((i : Int).toNat * 4 + 3)), tD rS e1.S, tD (rI .i64) (e1.S.length : Int), tD (rI .i64) (min (e1.S.length : Int) (41 : Int)), tD rS y, tV (eptr l ((i : Int).toNat * 4 + 0)), tV (eptr l ((i : Int).toNat * 4 + 3))]) mixed rfl rfl rfl
      ⟨⟨[⟨3, _, none⟩], _, rfl, ⟨rfl, trivial⟩, rfl, rfl, OpG.plain rfl (ok_move (ht rfl))⟩,
      ⟨⟨[⟨4, _, none⟩], _, rfl, ⟨rfl, trivial⟩, rfl, rfl, OpG.plain rfl (ok_move (ht rfl))⟩,
      ⟨⟨[⟨3, _, none⟩], _, rfl, ⟨rfl, trivial⟩, rfl, rfl, OpG.plain rfl (ok_move (ht rfl))⟩,
      ⟨⟨[⟨4, _, none⟩], _, rfl, ⟨rfl, trivial⟩, rfl, rfl, OpG.plain rfl (ok_move (ht rfl))⟩,
      ⟨⟨[⟨14, _, some 2⟩, ⟨15, _, some 3⟩], _, rfl, ⟨rfl, rfl, trivial⟩, rfl, rfl, OpG.plain rfl (ok_indexAddrO Tryd.underlying25 ti37 (.head _) (ht rfl) (ht rfl) q_e1)⟩,
      ⟨⟨[⟨16, _, some 4⟩], _, rfl, ⟨rfl, trivial⟩, rfl, rfl, OpG.plain rfl (ok_fieldAddrF (o := (i : Int).toNat * 4 + 0) (n := (i : Int).toNat * 4 + 3) fd37_3 rfl (.head _) q_e1 (ht rfl) rfl)⟩,
      ⟨⟨[⟨17, _, some 5⟩], _, rfl, ⟨rfl, trivial⟩, rfl, rfl, OpG.plain rfl (ok_loadE (r := rpDValue) (i := (i : Int)) (foff := 3) ti9 rfl rfl flDValue_3 rfl (.head _) q_e1 (ht rfl))⟩,
      ⟨⟨[⟨3, _, none⟩], _, rfl, ⟨rfl, trivial⟩, rfl, rfl, OpG.plain rfl (ok_move (ht rfl))⟩,
      ⟨⟨[⟨4, _, none⟩], _, rfl, ⟨rfl, trivial⟩, rfl, rfl, OpG.plain rfl (ok_move (ht rfl))⟩,
      ⟨⟨[⟨19, _, some 7⟩, ⟨20, _, some 8⟩], _, rfl, ⟨rfl, rfl, trivial⟩, rfl, rfl, OpG.plain rfl (ok_indexAddrO Tryd.underlying25 ti37 (.head _) (ht rfl) (ht rfl) q_e1)⟩,
      ⟨⟨[⟨21, _, some 9⟩], _, rfl, ⟨rfl, trivial⟩, rfl, rfl, OpG.plain rfl (ok_fieldAddrF (o := (i : Int).toNat * 4 + 0) (n := (i : Int).toNat * 4 + 3) fd37_3 rfl (.head _) q_e1 (ht rfl) rfl)⟩,
      ⟨⟨[⟨22, _, some 10⟩], _, rfl, ⟨rfl, trivial⟩, rfl, rfl, OpG.plain rfl (ok_loadE (r := rpDValue) (i := (i : Int)) (foff := 3) ti9 rfl rfl flDValue_3 rfl (.head _) q_e1 (ht rfl))⟩,
      ⟨⟨[⟨23, _, some 11⟩], _, rfl, ⟨rfl, trivial⟩, rfl, rfl, OpG.plain rfl (ok_lenS Tryd.underlying9 (ht rfl))⟩,
      ⟨⟨[⟨24, _, some 12⟩], _, rfl, ⟨rfl, trivial⟩, rfl, rfl, OpG.plain rfl (ok_min2 (ht rfl) hI)⟩,
      ⟨⟨[⟨18, _, some 6⟩, ⟨25, _, some 13⟩], _, rfl, ⟨rfl, rfl, trivial⟩, rfl, rfl, OpG.plain rfl (ok_sliceS Tryd.underlying9 (ht rfl) (ht rfl) q_y)⟩,
      ⟨⟨[⟨12, _, some 0⟩, ⟨13, _, some 1⟩], _, rfl, ⟨rfl, rfl, trivial⟩, rfl, rfl, OpG.plain rfl (ok_indexAddrO Tryd.underlying25 ti37 (.head _) (ht rfl) (ht rfl) q_e1)⟩,
      ⟨⟨[⟨27, _, some 15⟩], _, rfl, ⟨rfl, trivial⟩, rfl, rfl, OpG.plain rfl (ok_fieldAddrF (o := (i : Int).toNat * 4 + 0) (n := (i : Int).toNat * 4 + 3) fd37_3 rfl (.head _) q_e1 (ht rfl) rfl)⟩,
      trivial⟩⟩⟩⟩⟩⟩⟩⟩⟩⟩⟩⟩⟩⟩⟩⟩⟩ ?_
    obtain ⟨st, q_st, h⟩ := bs h
    refine RG.storeE ti9 rfl sfDValue_3 rfl q_e1 (so q_st) (ht rfl) (ht rfl) ?_
    refine RG.relen2 (set_len (so q_st)) 3 rfl ?_
    refine RG.relen2 (set_len (so q_st)) 12 rfl ?_
    refine RG.relen2 (set_len (so q_st)) 14 rfl ?_
    refine RG.relen2 (set_len (so q_st)) 19 rfl ?_
    refine RG.nil ?_
    refine AT.in_normal ?_
    refine AT.next ?_
    refine CG.region ?_
    refine RG.op (ok_incN (natL hx (maxN hN)) (ht rfl) hI) rfl ?_
    refine RG.op (ok_move (ht rfl)) rfl ?_
    refine RG.nil ?_
    exact AT.round (LG.sub (ih (i + 1) st ⟨natS hx, h⟩) ⟨rfl, rfl, rfl, trivial⟩)
set_option maxRecDepth 100000 in
theorem f3_ok (p : DExpr) (a1 : (List DValue)) (b : (List DValue)) {R : Bool} (h : law10_ExprOwn p a1 b = some R) : Spec Tryd.prog 3 [tD rpDExpr p, tD (rSl rpDValue) a1, tD (rSl rpDValue) b] (tD rB R) := by
  refine Spec.of Tryd.func3 rfl rfl rfl fun w0 S0 => ?_
  refine CG.seq ?_
  refine CG.region ?_
  refine RG.op (ok_box (ht rfl)) rfl ?_
  refine RG.op (ok_assign hB) rfl ?_
  refine RG.nil ?_
  refine AT.next ?_
  refine CG.seq ?_
  refine CG.seq ?_
  refine CG.region ?_
  obtain ⟨r, q_r, h⟩ := bs h
  refine RG.op (ok_call cb4 (f4_ok  q_r) trivial) rfl ?_
  refine RG.op (ok_not (ht rfl)) rfl ?_
  refine RG.nil ?_
  refine AT.next ?_
  refine CG.cond (ht rfl) (fun hc => ?_) (fun hc => ?_)
  · have h := ct h hc
    refine CG.seq ?_
    refine CG.region ?_
    refine RG.op (ok_assign hB) rfl ?_
    refine RG.nil ?_
    refine AT.next ?_
    refine CG.ret ?_
    refine AT.then_ret ?_
    cases so h
    exact AT.ret1 rfl rfl
  · have h := cf h hc
    refine CG.skip ?_
    refine AT.next ?_
    refine CG.seq ?_
    refine CG.region ?_
    refine RG.op (ok_load ti24 rfl rfl (ht rfl)) rfl ?_
    obtain ⟨r1, q_r1, h⟩ := bs h
    refine RG.op (ok_call cb5 (f5_ok _ _ q_r1) ⟨(ht rfl), hI, trivial⟩) rfl ?_
    refine RG.alloc (r := rpDExpr) (x := (⟨[]⟩ : DExpr)) ti24 (fun _ => zrDExpr _) rfl (fun b1 => ?_)
    refine RG.storeB ti24 rfl sfld_whole rfl (ht rfl) (ht rfl) ?_
    refine RG.settleB 7 rfl ?_
    refine RG.nil ?_
    refine AT.next ?_
    refine CG.seq ?_
    refine CG.seq ?_
    refine CG.region ?_
    refine RG.op (ok_load ti24 rfl rfl (ht rfl)) rfl ?_
    obtain ⟨r2, q_r2, h⟩ := bs h
    refine RG.op (ok_call cb6 (f6_ok _ q_r2) ⟨(ht rfl), trivial⟩) rfl ?_
    refine RG.op (ok_neqI (ht rfl) hI) rfl ?_
    refine RG.nil ?_
    refine AT.next ?_
    refine CG.cond (ht rfl) (fun hc => ?_) (fun hc => ?_)
    · have h := ct h hc
      refine CG.seq ?_
      refine CG.region ?_
      refine RG.op (ok_assign hB) rfl ?_
      refine RG.nil ?_
      refine AT.next ?_
      refine CG.ret ?_
      refine AT.then_ret ?_
      cases so h
      exact AT.ret1 rfl rfl
    · have h := cf h hc
      refine CG.skip ?_
      refine AT.next ?_
      refine CG.seq ?_
      refine CG.region ?_
      refine RG.op (ok_move (ht rfl)) rfl ?_
      obtain ⟨r3, q_r3, h⟩ := bs h
      refine RG.callO cb7 (f7_own _ q_r3) ⟨(ht rfl), trivial⟩ rfl (fun l c => ?_)
      refine RG.op (ok_move (ht rfl)) rfl ?_
      obtain ⟨r4, q_r4, h⟩ := bs h
      refine RG.callO cb7 (f7_own _ q_r4) ⟨(ht rfl), trivial⟩ rfl (fun l1 c1 => ?_)
      refine RG.op (ok_assign (ht rfl)) rfl ?_
      refine RG.op (ok_assign (ht rfl)) rfl ?_
      refine RG.nil ?_
      refine AT.next ?_
      refine CG.seq ?_
      refine CG.region ?_
      refine RG.makeMap (mvY (fun y : Bool => tD rB y)) (kvI .i64) rfl (fun b2 => ?_)
      refine RG.op (ok_assign (ht rfl)) rfl ?_
      refine RG.nil ?_
      refine AT.next ?_
      refine CG.seq ?_
      refine CG.seq ?_
      refine CG.region ?_
      refine RG.op (ok_load ti24 rfl rfl (ht rfl)) rfl ?_
      obtain ⟨r5, q_r5, h⟩ := bs h
      refine RG.callO cb8 (f8_own _ q_r5) ⟨(ht rfl), trivial⟩ rfl (fun l2 c2 => ?_)
      refine RG.op (ok_lenO Tryd.underlying33 (.head _) (ht rfl)) rfl ?_
      refine RG.op (ok_move hI) rfl ?_
      refine RG.nil ?_
      refine AT.next ?_
      refine CG.block ?_
      refine CG.have_lenA (.head _) (fun hN => ?_)
      refine CG.loop ?_
      refine LG.front1 ?_
      refine LG.front1 ?_
      refine LG.front2 ?_
      refine LG.front3 ?_
      refine LG.sub (LG.list3 (Z := fun ls i has os => (r5.drop i = ls) ∧ law10_ExprOwn_l1 r1 r3 r4 ls has = some R) (Of := fun _ i has os => [arr rpDValue 37 l c r3, arr rpDValue 37 l1 c1 r4, arr (rI .i64) 3 l2 c2 r5, mapO (mvY (fun y : Bool => tD rB y)) (kvI .i64) b2 none os has]) (Gf := fun _ i has os => [(7, tPtr rpDExpr r1), (8, tV (oslV l c r3.length)), (9, tV (oslV l1 c1 r4.length)), (10, tV (mapV b2)), (32, tV (oslV l2 c2 r5.length)), (33, tD (rI .i64) (r5.length : Int)), (34, tD (rI .i64) (i : Int))]) (fun i has os h => ?_) (fun e tl ih i has os h => ?_) r5 0 ([] : List (Int × Bool)) [] ⟨rfl, h⟩) ⟨rfl, rfl, rfl, rfl, rfl, rfl, rfl, trivial⟩
      · obtain ⟨hx, h⟩ := h
        refine LG.unfold ?_
        refine CG.seq ?_
        refine CG.region ?_
        refine RG.op (ok_lss (ht rfl) (ht rfl)) rfl ?_
        refine RG.nil ?_
        refine AT.next ?_
        refine CG.seq ?_
        refine CG.condF (ht rfl) (dropF hx) ?_
        refine CG.exit ?_
        refine AT.then_exit (AT.then_exit (AT.in_exit ?_))
        refine AT.next ?_
        refine CG.seq ?_
        refine CG.seq ?_
        refine CG.region ?_
        refine RG.op (ok_move (ht rfl)) rfl ?_
        refine RG.op (ok_lenO Tryd.underlying26 (.tail _ (.head _)) (ht rfl)) rfl ?_
        refine RG.op (ok_move hI) rfl ?_
        refine RG.nil ?_
        refine AT.next ?_
        refine CG.block ?_
        refine CG.have_lenA (.tail _ (.head _)) (fun hN1 => ?_)
        refine CG.loop ?_
        refine LG.front2 ?_
        refine LG.drop ?_
        refine LG.sub (LG.nat2 (Z := fun k i1 q => (r4.length - i1 = k) ∧ law10_ExprOwn_l2 r1 r3 has k i1 q = some R) (Of := fun _ i1 q => [arr rpDValue 37 l c r3, arr rpDValue 37 l1 c1 q, mapO (mvY (fun y : Bool => tD rB y)) (kvI .i64) b2 none os has]) (Gf := fun _ i1 q => [(7, tPtr rpDExpr r1), (8, tV (oslV l c r3.length)), (9, tV (oslV l1 c1 q.length)), (10, tV (mapV b2)), (42, tD (rI .i64) (r4.length : Int)), (43, tD (rI .i64) (i1 : Int))]) (fun i1 q h => ?_) (fun k1 ih1 i1 q h => ?_) r4.length 0 r4 ⟨rfl, h⟩) ⟨rfl, rfl, rfl, rfl, rfl, rfl, trivial⟩
        · obtain ⟨hx1, h⟩ := h
          refine LG.unfold ?_
          refine CG.seq ?_
          refine CG.region ?_
          refine RG.op (ok_lss (ht rfl) (ht rfl)) rfl ?_
          refine RG.nil ?_
          refine AT.next ?_
          refine CG.seq ?_
          refine CG.condF (ht rfl) (natF hx1) ?_
          refine CG.exit ?_
          refine AT.then_exit (AT.then_exit (AT.in_exit ?_))
          refine AT.next ?_
          refine CG.seq ?_
          refine CG.seq ?_
          refine CG.region ?_
          refine RG.op (ok_move (ht rfl)) rfl ?_
          refine RG.front2 ?_
          refine RG.rangeMap (fun a b e => by injection e) Tryd.underlying32 (ht rfl) rfl (fun rg => ?_)
          refine RG.nil ?_
          refine AT.next ?_
          refine CG.block ?_
          refine CG.loop ?_
          refine LG.front2 ?_
          refine LG.front2 ?_
          refine LG.sub (LG.keys (Z := fun ls1 => law10_ExprOwn_l3 r1 r3 q ls1 = some R) (Of := fun ls1 cur => [arr rpDValue 37 l c r3, arr rpDValue 37 l1 c1 q, mapR (mvY (fun y : Bool => tD rB y)) (kvI .i64) b2 rg os has ls1 cur]) (Gf := [(7, tPtr rpDExpr r1), (8, tV (oslV l c r3.length)), (9, tV (oslV l1 c1 q.length)), (64, tV (bptr rg 0))]) (fun ls1 cur h ih2 => ?_) (has.map Prod.fst) none h) ⟨rfl, rfl, rfl, rfl, trivial⟩
          refine LG.unfold ?_
          refine CG.seq ?_
          refine CG.region ?_
          refine RG.front2 ?_
          refine RG.nextMap (fun a b e => by injection e) (ht rfl) rfl (fun hl => ?_) (fun e2 hk => ?_)
          · subst hl
            refine RG.op (ok_extractNx (ht rfl)) rfl ?_
            refine RG.nil ?_
            refine AT.next ?_
            refine CG.seq ?_
            refine CG.condF (ht rfl) rfl ?_
            refine CG.exit ?_
            refine AT.then_exit (AT.then_exit (AT.in_exit ?_))
            refine AT.next ?_
            refine CG.seq ?_
            refine CG.region ?_
            refine RG.op (ok_load ti24 rfl rfl (ht rfl)) rfl ?_
            refine RG.op (ok_move (ht rfl)) rfl ?_
            refine RG.front1 ?_
            refine RG.freeze ?_
            refine RG.tipAt 8 rfl ?_
            refine RG.tipAt 81 rfl ?_
            obtain ⟨r6, q_r6, h⟩ := bs h
            refine RG.op (ok_call cb9 (f9_ok _ _ q_r6) ⟨(ht rfl), (tO_d (ht rfl)), trivial⟩) rfl ?_
            refine RG.op (ok_move (ht rfl)) rfl ?_
            refine RG.op (ok_extract rfl (ht rfl)) rfl ?_
            refine RG.op (ok_extract rfl (ht rfl)) rfl ?_
            refine RG.alloc (r := rpDValue) (x := (⟨(0 : Int), (0 : Int), (0 : Int), []⟩ : DValue)) ti37 (fun _ => zrDValue _) rfl (fun b3 => ?_)
            refine RG.storeB ti37 rfl sfld_whole rfl (ht rfl) (ht rfl) ?_
            refine RG.settleB 15 rfl ?_
            refine RG.op (ok_assign (ht rfl)) rfl ?_
            refine RG.nil ?_
            refine AT.next ?_
            refine CG.seq ?_
            refine CG.region ?_
            refine RG.op (ok_load ti24 rfl rfl (ht rfl)) rfl ?_
            refine RG.op (ok_move (ht rfl)) rfl ?_
            refine RG.front2 ?_
            refine RG.freeze ?_
            refine RG.tipAt 9 rfl ?_
            refine RG.tipAt 87 rfl ?_
            obtain ⟨r7, q_r7, h⟩ := bs h
            refine RG.op (ok_call cb9 (f9_ok _ _ q_r7) ⟨(ht rfl), (tO_d (ht rfl)), trivial⟩) rfl ?_
            refine RG.op (ok_move (ht rfl)) rfl ?_
            refine RG.op (ok_extract rfl (ht rfl)) rfl ?_
            refine RG.op (ok_extract rfl (ht rfl)) rfl ?_
            refine RG.alloc (r := rpDValue) (x := (⟨(0 : Int), (0 : Int), (0 : Int), []⟩ : DValue)) ti37 (fun _ => zrDValue _) rfl (fun b4 => ?_)
            refine RG.storeB ti37 rfl sfld_whole rfl (ht rfl) (ht rfl) ?_
            refine RG.settleB 17 rfl ?_
            refine RG.op (ok_assign (ht rfl)) rfl ?_
            refine RG.nil ?_
            refine AT.next ?_
            refine CG.seq ?_
            refine CG.region ?_
            refine RG.op (ok_load ti37 rfl rfl (ht rfl)) rfl ?_
            refine RG.op (ok_load ti37 rfl rfl (ht rfl)) rfl ?_
            refine RG.op (ok_eqlD eq37 (ht rfl) (ht rfl)) rfl ?_
            refine RG.op (ok_move (ht rfl)) rfl ?_
            refine RG.opGt rfl rfl rfl rfl (fun hg => ok_move (ht rfl)) ?_
            refine RG.opGt rfl rfl rfl rfl (fun hg => ok_move (ht rfl)) ?_
            refine RG.opGt rfl rfl rfl rfl (fun hg => ok_eqlI (htO rfl hg) (htO rfl hg)) ?_
            refine RG.op (ok_pickAnd (ht rfl) (fun hb => (htO rfl hb))) rfl ?_
            refine RG.op (ok_assign (ht rfl)) rfl ?_
            refine RG.nil ?_
            refine AT.next ?_
            refine CG.ret ?_
            refine AT.drop ?_
            refine AT.drop ?_
            refine AT.drop ?_
            cases so h
            exact AT.ret1 rfl rfl
          · have h := (law10_ExprOwn_l3_perm hk).trans h
            refine RG.op (ok_extractNx (ht rfl)) rfl ?_
            refine RG.nil ?_
            refine AT.next ?_
            refine CG.seq ?_
            refine CG.condT (ht rfl) rfl ?_
            refine CG.skip ?_
            refine AT.next ?_
            refine CG.block ?_
            refine CG.seq ?_
            refine CG.region ?_
            refine RG.op (ok_entryMapE (.head _) (ht rfl)) rfl ?_
            refine RG.op (ok_extractKeyI (ht rfl)) rfl ?_
            refine RG.op (ok_assign (ht rfl)) rfl ?_
            refine RG.nil ?_
            refine AT.next ?_
            refine CG.seq ?_
            refine CG.region ?_
            refine RG.op (ok_move (ht rfl)) rfl ?_
            refine RG.op (ok_move (ht rfl)) rfl ?_
            refine RG.op (ok_lenO Tryd.underlying26 (.tail _ (.head _)) (ht rfl)) rfl ?_
            refine RG.op (ok_geq (ht rfl) (ht rfl)) rfl ?_
            refine RG.op (ok_move (ht rfl)) rfl ?_
            refine RG.opGf rfl rfl rfl rfl (fun hg => ok_move (ht rfl)) ?_
            refine RG.opGf rfl rfl rfl rfl (fun hg => ok_move (ht rfl)) ?_
            refine RG.opGf rfl rfl rfl rfl (fun hg => ok_lenO Tryd.underlying26 (.tail _ (.tail _ (.head _))) (htO rfl hg)) ?_
            refine RG.opGf rfl rfl rfl rfl (fun hg => ok_geq (htO rfl hg) (htO rfl hg)) ?_
            refine RG.op (ok_pickOr (ht rfl) (fun hb => (htO rfl (noti hb)))) rfl ?_
            refine RG.nil ?_
            refine AT.next ?_
            refine CG.cond (ht rfl) (fun hc => ?_) (fun hc => ?_)
            · have h := ct h hc
              refine CG.seq ?_
              refine CG.region ?_
              refine RG.op (ok_assign hB) rfl ?_
              refine RG.nil ?_
              refine AT.next ?_
              refine CG.ret ?_
              refine AT.in_ret (AT.then_ret (AT.in_ret (AT.then_ret ?_)))
              refine AT.drop ?_
              refine AT.drop ?_
              refine AT.drop ?_
              cases so h
              exact AT.ret1 rfl rfl
            · have h := cf h hc
              refine CG.skip ?_
              refine AT.in_normal ?_
              refine AT.front2 ?_
              refine AT.front2 ?_
              exact AT.round (LG.sub (ih2 (ls1.filter (fun y => y ≠ e2)) (some e2) (filter_lt hk) h) ⟨rfl, rfl, rfl, rfl, trivial⟩)
        · obtain ⟨hx1, h⟩ := h
          refine LG.unfold ?_
          refine CG.seq ?_
          refine CG.region ?_
          refine RG.op (ok_lss (ht rfl) (ht rfl)) rfl ?_
          refine RG.nil ?_
          refine AT.next ?_
          refine CG.seq ?_
          refine CG.condT (ht rfl) (natT hx1) ?_
          refine CG.skip ?_
          refine AT.next ?_
          refine CG.seq ?_
          refine CG.block ?_
          refine CG.seq ?_
          refine CG.region ?_
          refine RG.op (ok_move (ht rfl)) rfl ?_
          refine RG.op (ok_assign (ht rfl)) rfl ?_
          refine RG.nil ?_
          refine AT.next ?_
          refine CG.seq ?_
          refine CG.region ?_
          refine RG.op (ok_move (ht rfl)) rfl ?_
          refine RG.op (ok_move (ht rfl)) rfl ?_
          refine RG.op (ok_lookupY (γ := fun y : Bool => tD rB y) (z := false) Tryd.underlying32 (key_int Tryd.underlying3) zv4 (fun S => ⟨_, rfl, (fun _ => rfl) S⟩) (.tail _ (.tail _ (.head _))) (ht rfl) (keyI (ht rfl))) rfl ?_
          refine RG.op (ok_move (ht rfl)) rfl ?_
          refine RG.opGt rfl rfl rfl rfl (fun hg => ok_move (ht rfl)) ?_
          refine RG.opGt rfl rfl rfl rfl (fun hg => ok_move (ht rfl)) ?_
          refine RG.opGt rfl rfl rfl rfl (fun hg => ok_lenO Tryd.underlying26 (.head _) (htO rfl hg)) ?_
          refine RG.opGt rfl rfl rfl rfl (fun hg => ok_lss (htO rfl hg) (htO rfl hg)) ?_
          refine RG.op (ok_pickAnd (ht rfl) (fun hb => (htO rfl hb))) rfl ?_
          refine RG.nil ?_
          refine AT.next ?_
          refine CG.cond (ht rfl) (fun hc => ?_) (fun hc => ?_)
          · have h := ct h hc
            refine CG.region ?_
            refine RG.op (ok_move (ht rfl)) rfl ?_
            refine RG.op (ok_move (ht rfl)) rfl ?_
            refine RG.op (ok_move (ht rfl)) rfl ?_
            refine RG.op (ok_move (ht rfl)) rfl ?_
            obtain ⟨e3, q_e3, h⟩ := bs h
            refine RG.op (ok_indexAddrO Tryd.underlying26 ti37 (.head _) (ht rfl) (ht rfl) q_e3) rfl ?_
            refine RG.op (ok_loadE (r := rpDValue) (i := (i1 : Int)) (foff := 0) ti37 rfl rfl fld_whole rfl (.head _) q_e3 (ht rfl)) rfl ?_
            obtain ⟨e4, q_e4, h⟩ := bs h
            refine RG.op (ok_indexAddrO Tryd.underlying26 ti37 (.tail _ (.head _)) (ht rfl) (ht rfl) q_e4) rfl ?_
            refine RG.front1 ?_
            obtain ⟨st, q_st, h⟩ := bs h
            refine RG.storeE ti37 rfl sfld_whole rfl q_e4 (so q_st) (ht rfl) (ht rfl) ?_
            refine RG.relen2 (set_len (so q_st)) 9 rfl ?_
            refine RG.relen2 (set_len (so q_st)) 55 rfl ?_
            refine RG.nil ?_
            refine AT.in_normal ?_
            refine AT.next ?_
            refine CG.region ?_
            refine RG.op (ok_incN (natL hx1 (maxN hN1)) (ht rfl) hI) rfl ?_
            refine RG.op (ok_move (ht rfl)) rfl ?_
            refine RG.nil ?_
            refine AT.front2 ?_
            refine AT.front1 ?_
            refine AT.front2 ?_
            exact AT.round (LG.sub (ih1 (i1 + 1) st ⟨natS hx1, h⟩) ⟨rfl, rfl, rfl, rfl, rfl, rfl, trivial⟩)
          · have h := cf h hc
            refine CG.skip ?_
            refine AT.in_normal ?_
            refine AT.next ?_
            refine CG.region ?_
            refine RG.op (ok_incN (natL hx1 (maxN hN1)) (ht rfl) hI) rfl ?_
            refine RG.op (ok_move (ht rfl)) rfl ?_
            refine RG.nil ?_
            exact AT.round (LG.sub (ih1 (i1 + 1) q ⟨natS hx1, h⟩) ⟨rfl, rfl, rfl, rfl, rfl, rfl, trivial⟩)
      · obtain ⟨hx, h⟩ := h
        refine LG.unfold ?_
        refine CG.seq ?_
        refine CG.region ?_
        refine RG.op (ok_lss (ht rfl) (ht rfl)) rfl ?_
        refine RG.nil ?_
        refine AT.next ?_
        refine CG.seq ?_
        refine CG.condT (ht rfl) (dropT hx) ?_
        refine CG.skip ?_
        refine AT.next ?_
        refine CG.seq ?_
        refine CG.block ?_
        refine CG.seq ?_
        refine CG.region ?_
        refine RG.op (ok_indexAddrO Tryd.underlying33 ti3 (.tail _ (.tail _ (.head _))) (ht rfl) (ht rfl) (dropI hx)) rfl ?_
        refine RG.op (ok_loadE (r := (rI .i64)) (i := (i : Int)) (foff := 0) ti3 rfl rfl fld_whole rfl (.tail _ (.tail _ (.head _))) (dropI hx) (ht rfl)) rfl ?_
        refine RG.op (ok_assign (ht rfl)) rfl ?_
        refine RG.nil ?_
        refine AT.next ?_
        refine CG.region ?_
        refine RG.op (ok_move (ht rfl)) rfl ?_
        refine RG.op (ok_move (ht rfl)) rfl ?_
        refine RG.front3 ?_
        refine RG.putY (γ := fun y : Bool => tD rB y) Tryd.underlying32 (key_int Tryd.underlying3) (ht rfl) (keyI (ht rfl)) hB (fun os1 => ?_)
        refine RG.nil ?_
        refine AT.in_normal ?_
        refine AT.next ?_
        refine CG.region ?_
        refine RG.op (ok_incN (dropL hx hN) (ht rfl) hI) rfl ?_
        refine RG.op (ok_move (ht rfl)) rfl ?_
        refine RG.nil ?_
        refine AT.front3 ?_
        refine AT.front3 ?_
        refine AT.front3 ?_
        exact AT.round (LG.sub (ih (i + 1) (mset has e true) os1 ⟨dropS hx, h⟩) ⟨rfl, rfl, rfl, rfl, rfl, rfl, rfl, trivial⟩)

end Go.Proofs.YtdhledkpgaeoaaaDoor

