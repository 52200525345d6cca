/- Facts of this claim: P4. -/
import Derived.Test.YtdhledkpgaeoaaaGreatDoorKfT
import Derived.Test.YtdhledkpgaeoaaaGreatDoorKfP3
namespace Go.Proofs.YtdhledkpgaeoaaaGreatDoor
open Go

set_option maxRecDepth 100000 in
theorem f41_ok (n : Int) {R : DExpr} (h : law10_col n = some R) : Spec Tryz.prog 41 [tD (rI .i64) n] (tD rpDExpr R) := by
  refine Spec.of Tryz.func41 rfl rfl rfl fun w0 S0 => ?_
  refine CG.seq ?_
  refine CG.region ?_
  refine RG.alloc (r := rpDExpr) (x := (⟨[]⟩ : DExpr)) ti24 (fun _ => zrDExpr _) rfl (fun b => ?_)
  refine RG.nil ?_
  refine AT.next ?_
  refine CG.seq ?_
  refine CG.region ?_
  refine RG.op (ok_move (ht rfl)) rfl ?_
  refine RG.op (ok_build (y := (⟨(2 : Int), (-1 : Int), (-1 : Int), n, (⟨(0 : Int), (0 : Int), (0 : Int), []⟩ : DValue)⟩ : DENode)) ti42 fs42 zrDENode (⟨_, _, _, _, _, rfl, sfDENode_0, rfl, hI, ⟨_, _, _, _, _, rfl, sfDENode_1, rfl, hI, ⟨_, _, _, _, _, rfl, sfDENode_2, rfl, hI, ⟨_, _, _, _, _, rfl, sfDENode_3, rfl, (ht rfl), rfl⟩⟩⟩⟩)) rfl ?_
  refine RG.op (ok_buildSlice (r := rpDENode) (ys := [(⟨(2 : Int), (-1 : Int), (-1 : Int), n, (⟨(0 : Int), (0 : Int), (0 : Int), []⟩ : DValue)⟩ : DENode)]) (xs := [.tmp 4]) Tryz.underlying22 ti42 rfl rfl rfl rfl rfl ⟨(ht rfl), trivial⟩) rfl ?_
  refine RG.op (ok_build (y := (⟨[(⟨(2 : Int), (-1 : Int), (-1 : Int), n, (⟨(0 : Int), (0 : Int), (0 : Int), []⟩ : DValue)⟩ : DENode)]⟩ : DExpr)) ti24 fs24 zrDExpr (⟨_, _, _, _, _, rfl, sfDExpr_0, rfl, (ht rfl), rfl⟩)) rfl ?_
  refine RG.storeB ti24 rfl sfld_whole rfl (ht rfl) (ht rfl) ?_
  refine RG.settleB 2 rfl ?_
  refine RG.nil ?_
  refine AT.next ?_
  refine CG.ret ?_
  cases so h
  exact AT.ret1c rfl ti24 rfl rfl rfl

set_option maxRecDepth 100000 in
theorem f9_ok {R : Bool} (h : law10_wakes = some R) : Spec Tryz.prog 9 [] (tD rB R) := by
  refine Spec.of Tryz.func9 rfl rfl rfl fun w0 S0 => ?_
  refine CG.seq ?_
  refine CG.region ?_
  refine RG.op (ok_assign hB) rfl ?_
  refine RG.nil ?_
  refine AT.next ?_
  refine CG.seq ?_
  refine CG.region ?_
  obtain ⟨r, q_r, h⟩ := bs h
  refine RG.op (ok_call cb41 (f41_ok _ q_r) ⟨hI, trivial⟩) rfl ?_
  obtain ⟨r1, q_r1, h⟩ := bs h
  refine RG.op (ok_call cb41 (f41_ok _ q_r1) ⟨hI, trivial⟩) rfl ?_
  obtain ⟨r2, q_r2, h⟩ := bs h
  refine RG.op (ok_call cb20 (f20_ok _ _ _ q_r2) ⟨hI, (ht rfl), (ht rfl), trivial⟩) rfl ?_
  refine RG.op (ok_move (ht rfl)) rfl ?_
  refine RG.op (ok_extract rfl (ht rfl)) rfl ?_
  refine RG.op (ok_extract rfl (ht rfl)) rfl ?_
  refine RG.alloc (r := rpDExpr) (x := (⟨[]⟩ : DExpr)) ti24 (fun _ => zrDExpr _) rfl (fun b => ?_)
  refine RG.storeB ti24 rfl sfld_whole rfl (ht rfl) (ht rfl) ?_
  refine RG.settleB 1 rfl ?_
  refine RG.op (ok_assign (ht rfl)) rfl ?_
  refine RG.nil ?_
  refine AT.next ?_
  refine CG.seq ?_
  refine CG.region ?_
  refine RG.op (ok_load ti24 rfl rfl (ht rfl)) rfl ?_
  refine RG.op (ok_build (y := (⟨(2 : Int), (5 : Int), (0 : Int), []⟩ : DValue)) ti33 fs33 zrDValue (⟨_, _, _, _, _, rfl, sfDValue_0, rfl, hI, ⟨_, _, _, _, _, rfl, sfDValue_1, rfl, hI, rfl⟩⟩)) rfl ?_
  refine RG.op (ok_build (y := (⟨(2 : Int), (3 : Int), (0 : Int), []⟩ : DValue)) ti33 fs33 zrDValue (⟨_, _, _, _, _, rfl, sfDValue_0, rfl, hI, ⟨_, _, _, _, _, rfl, sfDValue_1, rfl, hI, rfl⟩⟩)) rfl ?_
  refine RG.op (ok_buildSlice (r := rpDValue) (ys := [(⟨(2 : Int), (5 : Int), (0 : Int), []⟩ : DValue), (⟨(2 : Int), (3 : Int), (0 : Int), []⟩ : DValue)]) (xs := [.tmp 18, .tmp 19]) Tryz.underlying29 ti33 rfl rfl rfl rfl rfl ⟨(ht rfl), (ht rfl), trivial⟩) rfl ?_
  obtain ⟨r3, q_r3, h⟩ := bs h
  refine RG.op (ok_call cb12 (f12_ok _ _ q_r3) ⟨(ht rfl), (ht rfl), trivial⟩) rfl ?_
  refine RG.op (ok_move (ht rfl)) rfl ?_
  refine RG.op (ok_extract rfl (ht rfl)) rfl ?_
  refine RG.op (ok_extract rfl (ht rfl)) rfl ?_
  refine RG.alloc (r := rpDValue) (x := (⟨(0 : Int), (0 : Int), (0 : Int), []⟩ : DValue)) ti33 (fun _ => zrDValue _) rfl (fun b1 => ?_)
  refine RG.storeB ti33 rfl sfld_whole rfl (ht rfl) (ht rfl) ?_
  refine RG.settleB 3 rfl ?_
  refine RG.op (ok_assign (ht rfl)) rfl ?_
  refine RG.nil ?_
  refine AT.next ?_
  refine CG.seq ?_
  refine CG.region ?_
  obtain ⟨r4, q_r4, h⟩ := bs h
  refine RG.op (ok_call cb41 (f41_ok _ q_r4) ⟨hI, trivial⟩) rfl ?_
  obtain ⟨r5, q_r5, h⟩ := bs h
  refine RG.op (ok_call cb41 (f41_ok _ q_r5) ⟨hI, trivial⟩) rfl ?_
  obtain ⟨r6, q_r6, h⟩ := bs h
  refine RG.op (ok_call cb20 (f20_ok _ _ _ q_r6) ⟨hI, (ht rfl), (ht rfl), trivial⟩) rfl ?_
  refine RG.op (ok_move (ht rfl)) rfl ?_
  refine RG.op (ok_extract rfl (ht rfl)) rfl ?_
  refine RG.op (ok_extract rfl (ht rfl)) rfl ?_
  refine RG.alloc (r := rpDExpr) (x := (⟨[]⟩ : DExpr)) ti24 (fun _ => zrDExpr _) rfl (fun b2 => ?_)
  refine RG.storeB ti24 rfl sfld_whole rfl (ht rfl) (ht rfl) ?_
  refine RG.settleB 5 rfl ?_
  refine RG.op (ok_assign (ht rfl)) rfl ?_
  refine RG.nil ?_
  refine AT.next ?_
  refine CG.seq ?_
  refine CG.region ?_
  refine RG.op (ok_load ti24 rfl rfl (ht rfl)) rfl ?_
  obtain ⟨r7, q_r7, h⟩ := bs h
  refine RG.op (ok_call cb39 (f39_ok _ _ q_r7) ⟨(ht rfl), hI, trivial⟩) rfl ?_
  refine RG.op (ok_move (ht rfl)) rfl ?_
  refine RG.op (ok_extract rfl (ht rfl)) rfl ?_
  refine RG.op (ok_extract rfl (ht rfl)) rfl ?_
  refine RG.op (ok_extract rfl (ht rfl)) rfl ?_
  refine RG.op (ok_assign (ht rfl)) rfl ?_
  refine RG.op (ok_assign (ht rfl)) rfl ?_
  refine RG.op (ok_assign (ht rfl)) rfl ?_
  refine RG.nil ?_
  refine AT.next ?_
  refine CG.seq ?_
  refine CG.region ?_
  refine RG.op (ok_move (ht rfl)) rfl ?_
  refine RG.op (ok_eqlI (ht rfl) hI) rfl ?_
  refine RG.op (ok_move (ht rfl)) rfl ?_
  refine RG.opGt rfl rfl rfl rfl (fun hg => ok_move (ht rfl)) ?_
  refine RG.opGt rfl rfl rfl rfl (fun hg => ok_eqlI (htO rfl hg) hI) ?_
  refine RG.op (ok_pickAnd (ht rfl) (fun hb => (htO rfl hb))) rfl ?_
  refine RG.op (ok_move (ht rfl)) rfl ?_
  refine RG.opGt rfl rfl rfl rfl (fun hg => ok_move (ht rfl)) ?_
  refine RG.opGt rfl rfl rfl rfl (fun hg => ok_eqlI (htO rfl hg) hI) ?_
  refine RG.op (ok_pickAnd (ht rfl) (fun hb => (htO rfl hb))) rfl ?_
  refine RG.op (ok_move (ht rfl)) rfl ?_
  refine RG.opGt rfl rfl rfl rfl (fun hg => ok_load ti33 rfl rfl (ht rfl)) ?_
  refine RG.opGt rfl rfl rfl rfl (fun hg => ok_build (y := (⟨(2 : Int), (2 : Int), (0 : Int), []⟩ : DValue)) ti33 fs33 zrDValue (⟨_, _, _, _, _, rfl, sfDValue_0, rfl, hI, ⟨_, _, _, _, _, rfl, sfDValue_1, rfl, hI, rfl⟩⟩)) ?_
  refine RG.opGt rfl rfl rfl rfl (fun hg => ok_eqlD eq33 (htO rfl hg) (htO rfl hg)) ?_
  refine RG.op (ok_pickAnd (ht rfl) (fun hb => (htO rfl hb))) rfl ?_
  refine RG.op (ok_move (ht rfl)) rfl ?_
  refine RG.opGt rfl rfl rfl rfl (fun hg => ok_move (ht rfl)) ?_
  refine RG.op (ok_pickAnd (ht rfl) (fun hb => (htO rfl hb))) rfl ?_
  refine RG.op (ok_move (ht rfl)) rfl ?_
  refine RG.opGt rfl rfl rfl rfl (fun hg => ok_move (ht rfl)) ?_
  refine RG.opGt rfl rfl rfl rfl (fun hg => ok_eqlI (htO rfl hg) hI) ?_
  refine RG.op (ok_pickAnd (ht rfl) (fun hb => (htO rfl hb))) rfl ?_
  refine RG.op (ok_move (ht rfl)) rfl ?_
  refine RG.opGt rfl rfl rfl rfl (fun hg => ok_move (ht rfl)) ?_
  refine RG.opGt rfl rfl rfl rfl (fun hg => ok_eqlI (htO rfl hg) hI) ?_
  refine RG.op (ok_pickAnd (ht rfl) (fun hb => (htO rfl hb))) rfl ?_
  refine RG.op (ok_move (ht rfl)) rfl ?_
  obtain ⟨t, q_t, h⟩ := bs h
  refine RG.opGt rfl rfl rfl rfl (fun hg => ok_load ti24 rfl rfl (ht rfl)) ?_
  obtain ⟨r8, h1t, h0t⟩ := og q_t
  have q_r8g := fun hb => (h1t hb).1
  refine RG.opGt rfl rfl rfl rfl (fun hg => ok_call cb26 (f26_ok _ (q_r8g hg)) ⟨(htO rfl hg), trivial⟩) ?_
  refine RG.opGt rfl rfl rfl rfl (fun hg => ok_not (htO rfl hg)) ?_
  refine RG.op (ok_pickAndM (ht rfl) (fun hb => (htO rfl hb)) (fun hb => (h1t hb).2) h0t) rfl ?_
  refine RG.op (ok_move (ht rfl)) rfl ?_
  obtain ⟨t1, q_t1, h⟩ := bs h
  refine RG.opGt rfl rfl rfl rfl (fun hg => ok_load ti24 rfl rfl (ht rfl)) ?_
  obtain ⟨r9, h1t1, h0t1⟩ := og q_t1
  have q_r9g := fun hb => (h1t1 hb).1
  refine RG.opGt rfl rfl rfl rfl (fun hg => ok_call cb26 (f26_ok _ (q_r9g hg)) ⟨(htO rfl hg), trivial⟩) ?_
  refine RG.op (ok_pickAndM (ht rfl) (fun hb => (htO rfl hb)) (fun hb => (h1t1 hb).2) h0t1) rfl ?_
  refine RG.op (ok_assign (ht rfl)) rfl ?_
  refine RG.nil ?_
  refine AT.next ?_
  refine CG.ret ?_
  cases so h
  exact AT.ret1 rfl rfl

set_option maxRecDepth 100000 in
theorem f42_own (l : (List DENode)) (most : Int) {R : (List DENode)} (h : law10_cut_api_ENode l most = some R) : SpecO Tryz.prog 42 [tD (rSl rpDENode) l, tD (rI .i64) most] false rpDENode 42 R := by
  refine SpecO.of Tryz.func42 rfl rfl rfl fun w0 S0 => ?_
  refine CG.seq ?_
  refine CG.region ?_
  refine RG.fresh false rpDENode 42 ?_
  refine RG.op (ok_assign hVn) rfl ?_
  refine RG.nil ?_
  refine AT.next ?_
  refine CG.seq ?_
  refine CG.region ?_
  refine RG.buildOwn (r := rpDENode) (ys := ([] : List DENode)) (xs := []) Tryz.underlying22 ti42 rfl rfl rfl rfl rfl trivial rfl (fun l1 c => ?_)
  refine RG.op (ok_move (ht rfl)) rfl ?_
  refine RG.op (ok_move (ht rfl)) rfl ?_
  refine RG.op (ok_lenSl Tryz.underlying22 (ht rfl)) rfl ?_
  refine RG.op (ok_move (ht rfl)) rfl ?_
  refine RG.op (ok_min2 (ht rfl) (ht rfl)) rfl ?_
  obtain ⟨y, q_y, h⟩ := bs h
  refine RG.op (ok_sliceHi Tryz.underlying22 ti42 rfl (ht rfl) (ht rfl) q_y) rfl ?_
  obtain ⟨x, q_x, h⟩ := bs h
  refine RG.append ti42 rfl rfl rfl rfl Tryz.underlying22 rfl rfl (ht rfl) (ht rfl) q_x (fun l2 c1 => ?_)
  refine RG.op (ok_assign (ht rfl)) rfl ?_
  refine RG.nil ?_
  refine AT.next ?_
  refine CG.ret ?_
  cases so h
  exact AT.retO rfl rfl
set_option maxRecDepth 100000 in
theorem f10_ok (e : DExpr) (most : Int) {R : DExpr} (h : law10_short e most = some R) : Spec Tryz.prog 10 [tD rpDExpr e, tD (rI .i64) most] (tD rpDExpr R) := by
  refine Spec.of Tryz.func10 rfl rfl rfl fun w0 S0 => ?_
  refine CG.seq ?_
  refine CG.region ?_
  refine RG.op (ok_box (ht rfl)) rfl ?_
  refine RG.alloc (r := rpDExpr) (x := (⟨[]⟩ : DExpr)) ti24 (fun _ => zrDExpr _) rfl (fun b => ?_)
  refine RG.nil ?_
  refine AT.next ?_
  refine CG.seq ?_
  refine CG.region ?_
  refine RG.op (ok_fieldAddr fd24_0 rfl flDExpr_0 rfl (ht rfl)) rfl ?_
  refine RG.op (ok_load ti22 rfl rfl (ht rfl)) rfl ?_
  refine RG.op (ok_move (ht rfl)) rfl ?_
  obtain ⟨r, q_r, h⟩ := bs h
  refine RG.callO cb42 (f42_own _ _ q_r) ⟨(ht rfl), (ht rfl), trivial⟩ rfl (fun l c => ?_)
  refine RG.op (ok_build (y := mkOExpr_0 (⟨r⟩ : DExpr) (oslV l c r.length)) ti24 fs24 zrOExpr_0 (⟨_, _, _, _, _, rfl, sfOExpr_0_0, rfl, (hRV (ht rfl)), rfl⟩)) rfl ?_
  refine RG.fresh false rpDENode 42 ?_
  refine RG.alloc (r := rpOExpr_0) (x := mkOExpr_0 (⟨[]⟩ : DExpr) (oslV none 0 (([] : List DENode).length))) ti24 zrOExpr_0 rfl (fun b1 => ?_)
  refine RG.storeFX ti24 rfl (sfx_whole rfl) rfl (ht rfl) (ht rfl) ?_
  refine RG.front1 ?_
  refine RG.drop ?_
  refine RG.nil ?_
  refine AT.next ?_
  refine CG.seq ?_
  refine CG.seq ?_
  refine CG.region ?_
  refine RG.op (ok_fieldAddrC (n := 0) fd24_0 rfl (ht rfl) rfl) rfl ?_
  refine RG.op (ok_loadFV ti22 flOExpr_0_0 (.head _) rfl (ht rfl)) rfl ?_
  refine RG.op (ok_lenO Tryz.underlying22 (.tail _ (.head _)) (ht rfl)) rfl ?_
  refine RG.op (ok_move hI) rfl ?_
  refine RG.nil ?_
  refine AT.next ?_
  refine CG.block ?_
  refine CG.have_lenA (.tail _ (.head _)) (fun hN => ?_)
  refine CG.loop ?_
  refine LG.front1 ?_
  refine LG.front1 ?_
  refine LG.front2 ?_
  refine LG.sub (LG.list4 (Z := fun ls i out l1 c1 => (r.drop i = ls) ∧ law10_short_l1 ls i out = some R) (Of := fun _ i out l1 c1 => [bx rpDExpr 24 b (⟨[]⟩ : DExpr), bx rpOExpr_0 24 b1 (mkOExpr_0 out (oslV l1 c1 out.Nodes.length)), arr rpDENode 42 l1 c1 out.Nodes]) (Gf := fun _ i out l1 c1 => [(4, tV (bptr b 0)), (5, tV (bptr b1 0)), (15, tD (rI .i64) (r.length : Int)), (16, tD (rI .i64) (i : Int))]) (fun i out l1 c1 h => ?_) (fun e1 tl ih i out l1 c1 h => ?_) r 0 ({ (⟨r⟩ : DExpr) with Nodes := r } : DExpr) l c ⟨rfl, h⟩) ⟨rfl, rfl, rfl, rfl, trivial⟩
  · obtain ⟨hx, h⟩ := h
    refine LG.unfold ?_
    refine CG.seq ?_
    refine CG.region ?_
    refine RG.op (ok_lss (ht rfl) (ht rfl)) rfl ?_
    refine RG.nil ?_
    refine AT.next ?_
    refine CG.seq ?_
    refine CG.condF (ht rfl) (dropF hx) ?_
    refine CG.exit ?_
    refine AT.then_exit (AT.then_exit (AT.in_exit ?_))
    refine AT.next ?_
    refine CG.seq ?_
    refine CG.region ?_
    refine RG.front2 ?_
    refine RG.freeze ?_
    refine RG.op (ok_loadObj (q := rpDExpr) (y := out) ti24 rfl rfl rfl rfl (.tail _ (.tail _ (.head _))) (fun _ _ _ ho h => cvOExpr_0_to_D (own_tip ho (.head _)) h) (ht rfl)) rfl ?_
    refine RG.front1 ?_
    refine RG.storeB ti24 rfl sfld_whole rfl (ht rfl) (ht rfl) ?_
    refine RG.settleB 4 rfl ?_
    refine RG.nil ?_
    refine AT.next ?_
    refine CG.ret ?_
    refine AT.drop ?_
    refine AT.drop ?_
    cases so h
    exact AT.ret1c rfl ti24 rfl rfl rfl
  · obtain ⟨hx, h⟩ := h
    refine LG.unfold ?_
    refine CG.seq ?_
    refine CG.region ?_
    refine RG.op (ok_lss (ht rfl) (ht rfl)) rfl ?_
    refine RG.nil ?_
    refine AT.next ?_
    refine CG.seq ?_
    refine CG.condT (ht rfl) (dropT hx) ?_
    refine CG.skip ?_
    refine AT.next ?_
    refine CG.seq ?_
    refine CG.block ?_
    refine CG.seq ?_
    refine CG.region ?_
    refine RG.op (ok_move (ht rfl)) rfl ?_
    refine RG.op (ok_assign (ht rfl)) rfl ?_
    refine RG.nil ?_
    refine AT.next ?_
    refine CG.seq ?_
    refine CG.region ?_
    refine RG.op (ok_fieldAddrC (n := 0) fd24_0 rfl (ht rfl) rfl) rfl ?_
    refine RG.op (ok_loadFV ti22 flOExpr_0_0 (.tail _ (.head _)) rfl (ht rfl)) rfl ?_
    refine RG.op (ok_move (ht rfl)) rfl ?_
    obtain ⟨e2, q_e2, h⟩ := bs h
    refine RG.op (ok_indexAddrO Tryz.underlying22 ti42 (.tail _ (.tail _ (.head _))) (ht rfl) (ht rfl) q_e2) rfl ?_
    refine RG.op (ok_fieldAddrF (o := (i : Int).toNat * 8 + 0) (n := (i : Int).toNat * 8 + 4) fd42_4 rfl (.tail _ (.tail _ (.head _))) q_e2 (ht rfl) rfl) rfl ?_
    refine RG.op (ok_fieldAddrF (o := (i : Int).toNat * 8 + 4) (n := (i : Int).toNat * 8 + 7) fd33_3 rfl (.tail _ (.tail _ (.head _))) q_e2 (ht rfl) rfl) rfl ?_
    refine RG.op (ok_assign (ht rfl)) rfl ?_
    refine RG.nil ?_
    refine AT.next ?_
    obtain ⟨y, q_y, h⟩ := bs h
    refine CG.drawM 11 (ts := [tV (eptr l1 ((i : Int).toNat * 8 + 7)), tV (eptr l1 ((i : Int).toNat * 8 + 7)), tV (eptr l1 ((i : Int).toNat * 8 + 7)), tD rS e2.Value.S, tV (eptr l1 ((i : Int).toNat * 8 + 7)), tV (eptr l1 ((i : Int).toNat * 8 + 7)), tD rS e2.Value.S, tD (rI .i64) (e2.Value.S.length : Int), tD (rI .i64) (min (e2.Value.S.length : Int) (41 : Int)), tD rS y, tV (eptr l1 ((i : Int).toNat * 8 + 7))]) mixed rfl rfl rfl
      ⟨⟨[⟨7, _, none⟩], _, rfl, ⟨rfl, trivial⟩, rfl, rfl, OpG.plain rfl (ok_move (ht rfl))⟩,
      ⟨⟨[⟨7, _, none⟩], _, rfl, ⟨rfl, trivial⟩, rfl, rfl, OpG.plain rfl (ok_move (ht rfl))⟩,
      ⟨⟨[⟨26, _, some 1⟩], _, rfl, ⟨rfl, trivial⟩, rfl, rfl, OpG.plain rfl (ok_nilE (.tail _ (.tail _ (.head _))) q_e2 (ht rfl))⟩,
      ⟨⟨[⟨27, _, some 2⟩], _, rfl, ⟨rfl, trivial⟩, rfl, rfl, OpG.plain rfl (ok_loadE (r := rpDENode) (i := (i : Int)) (foff := 7) ti9 rfl rfl (fld_comp flDENode_4 flDValue_3) rfl (.tail _ (.tail _ (.head _))) q_e2 (ht rfl))⟩,
      ⟨⟨[⟨7, _, none⟩], _, rfl, ⟨rfl, trivial⟩, rfl, rfl, OpG.plain rfl (ok_move (ht rfl))⟩,
      ⟨⟨[⟨29, _, some 4⟩], _, rfl, ⟨rfl, trivial⟩, rfl, rfl, OpG.plain rfl (ok_nilE (.tail _ (.tail _ (.head _))) q_e2 (ht rfl))⟩,
      ⟨⟨[⟨30, _, some 5⟩], _, rfl, ⟨rfl, trivial⟩, rfl, rfl, OpG.plain rfl (ok_loadE (r := rpDENode) (i := (i : Int)) (foff := 7) ti9 rfl rfl (fld_comp flDENode_4 flDValue_3) rfl (.tail _ (.tail _ (.head _))) q_e2 (ht rfl))⟩,
      ⟨⟨[⟨31, _, some 6⟩], _, rfl, ⟨rfl, trivial⟩, rfl, rfl, OpG.plain rfl (ok_lenS Tryz.underlying9 (ht rfl))⟩,
      ⟨⟨[⟨32, _, some 7⟩], _, rfl, ⟨rfl, trivial⟩, rfl, rfl, OpG.plain rfl (ok_min2 (ht rfl) hI)⟩,
      ⟨⟨[⟨28, _, some 3⟩, ⟨33, _, some 8⟩], _, rfl, ⟨rfl, rfl, trivial⟩, rfl, rfl, OpG.plain rfl (ok_sliceS Tryz.underlying9 (ht rfl) (ht rfl) q_y)⟩,
      ⟨⟨[⟨25, _, some 0⟩], _, rfl, ⟨rfl, trivial⟩, rfl, rfl, OpG.plain rfl (ok_nilE (.tail _ (.tail _ (.head _))) q_e2 (ht rfl))⟩,
      trivial⟩⟩⟩⟩⟩⟩⟩⟩⟩⟩⟩ ?_
    refine RG.front2 ?_
    obtain ⟨st, q_st, h⟩ := bs h
    refine RG.storeE ti9 rfl (sfld_comp flDENode_4 sfDENode_4 sfDValue_3) rfl q_e2 (so q_st) (ht rfl) (ht rfl) ?_
    refine RG.relen2 (set_len (so q_st)) 20 rfl ?_
    refine RG.castO (O' := [arr rpDENode 42 l1 c1 st, bx rpDExpr 24 b (⟨[]⟩ : DExpr), bx rpOExpr_0 24 b1 (mkOExpr_0 out (oslV l1 c1 st.length))]) (by rw [set_len (so q_st)]) ?_
    refine RG.nil ?_
    refine AT.in_normal ?_
    refine AT.next ?_
    refine CG.region ?_
    refine RG.op (ok_incN (dropL hx hN) (ht rfl) hI) rfl ?_
    refine RG.op (ok_move (ht rfl)) rfl ?_
    refine RG.nil ?_
    refine AT.front2 ?_
    refine AT.front2 ?_
    exact AT.round (LG.sub (ih (i + 1) ({ out with Nodes := st } : DExpr) l1 c1 ⟨dropS hx, h⟩) ⟨rfl, rfl, rfl, rfl, trivial⟩)

set_option maxRecDepth 100000 in
theorem f127_ok (tag : Int) {R : Int} (h : ref08_Parts tag = some R) : Spec Tryz.prog 127 [tD (rI .i64) tag] (tD (rI .i64) R) := by
  refine Spec.of Tryz.func127 rfl rfl rfl fun w0 S0 => ?_
  refine CG.seq ?_
  refine CG.region ?_
  refine RG.op (ok_assign hI) rfl ?_
  refine RG.nil ?_
  refine AT.next ?_
  refine CG.seq ?_
  refine CG.block ?_
  refine CG.seq ?_
  refine CG.region ?_
  refine RG.op (ok_move (ht rfl)) rfl ?_
  refine RG.op (ok_lss (ht rfl) hI) rfl ?_
  refine RG.op (ok_move (ht rfl)) rfl ?_
  refine RG.opGf rfl rfl rfl rfl (fun hg => ok_move (ht rfl)) ?_
  refine RG.opGf rfl rfl rfl rfl (fun hg => ok_gtr (htO rfl hg) hI) ?_
  refine RG.op (ok_pickOr (ht rfl) (fun hb => (htO rfl (noti hb)))) rfl ?_
  refine RG.op (ok_assign (ht rfl)) rfl ?_
  refine RG.nil ?_
  refine AT.next ?_
  refine CG.cond (ht rfl) (fun hc => ?_) (fun hc => ?_)
  · have h := ct h hc
    refine CG.seq ?_
    refine CG.region ?_
    refine RG.op (ok_assign hI) rfl ?_
    refine RG.nil ?_
    refine AT.next ?_
    refine CG.ret ?_
    refine AT.in_ret (AT.then_ret ?_)
    cases so h
    exact AT.ret1 rfl rfl
  · have h := cf h hc
    refine CG.seq ?_
    refine CG.region ?_
    refine RG.op (ok_move (ht rfl)) rfl ?_
    refine RG.op (ok_leq (ht rfl) hI) rfl ?_
    refine RG.op (ok_assign (ht rfl)) rfl ?_
    refine RG.nil ?_
    refine AT.next ?_
    refine CG.cond (ht rfl) (fun hc => ?_) (fun hc => ?_)
    · have h := ct h hc
      refine CG.seq ?_
      refine CG.region ?_
      refine RG.op (ok_assign hI) rfl ?_
      refine RG.nil ?_
      refine AT.next ?_
      refine CG.ret ?_
      refine AT.in_ret (AT.then_ret ?_)
      cases so h
      exact AT.ret1 rfl rfl
    · have h := cf h hc
      refine CG.seq ?_
      refine CG.region ?_
      refine RG.op (ok_move (ht rfl)) rfl ?_
      refine RG.op (ok_leq (ht rfl) hI) rfl ?_
      refine RG.op (ok_assign (ht rfl)) rfl ?_
      refine RG.nil ?_
      refine AT.next ?_
      refine CG.cond (ht rfl) (fun hc => ?_) (fun hc => ?_)
      · have h := ct h hc
        refine CG.seq ?_
        refine CG.region ?_
        refine RG.op (ok_assign hI) rfl ?_
        refine RG.nil ?_
        refine AT.next ?_
        refine CG.ret ?_
        refine AT.in_ret (AT.then_ret ?_)
        cases so h
        exact AT.ret1 rfl rfl
      · have h := cf h hc
        refine CG.skip ?_
        refine AT.in_normal ?_
        refine AT.next ?_
        refine CG.seq ?_
        refine CG.region ?_
        refine RG.op (ok_assign hI) rfl ?_
        refine RG.nil ?_
        refine AT.next ?_
        refine CG.ret ?_
        cases so h
        exact AT.ret1 rfl rfl

set_option maxRecDepth 100000 in
theorem f86_ok (tag : Int) {R : Int} (h : ref10_Parts tag = some R) : Spec Tryz.prog 86 [tD (rI .i64) tag] (tD (rI .i64) R) := by
  refine Spec.of Tryz.func86 rfl rfl rfl fun w0 S0 => ?_
  refine CG.seq ?_
  refine CG.region ?_
  refine RG.op (ok_assign hI) rfl ?_
  refine RG.nil ?_
  refine AT.next ?_
  refine CG.seq ?_
  refine CG.seq ?_
  refine CG.region ?_
  refine RG.op (ok_move (ht rfl)) rfl ?_
  refine RG.op (ok_eqlI (ht rfl) hI) rfl ?_
  refine RG.op (ok_move (ht rfl)) rfl ?_
  refine RG.opGf rfl rfl rfl rfl (fun hg => ok_move (ht rfl)) ?_
  refine RG.opGf rfl rfl rfl rfl (fun hg => ok_geq (htO rfl hg) hI) ?_
  refine RG.opGf rfl rfl rfl rfl (fun hg => ok_move (htO rfl hg)) ?_
  refine RG.opGot rfl rfl rfl rfl (fun hg => ok_move (ht rfl)) ?_
  refine RG.opGot rfl rfl rfl rfl (fun hg => ok_leq (htO rfl hg) hI) ?_
  refine RG.opGf rfl rfl rfl rfl (fun hg => ok_pickAnd (htO rfl hg) (fun hb => (htO rfl (andi hg hb)))) ?_
  refine RG.op (ok_pickOr (ht rfl) (fun hb => (htO rfl (noti hb)))) rfl ?_
  refine RG.nil ?_
  refine AT.next ?_
  refine CG.cond (ht rfl) (fun hc => ?_) (fun hc => ?_)
  · have h := ct h hc
    refine CG.seq ?_
    refine CG.region ?_
    refine RG.op (ok_assign hI) rfl ?_
    refine RG.nil ?_
    refine AT.next ?_
    refine CG.ret ?_
    refine AT.then_ret ?_
    cases so h
    exact AT.ret1 rfl rfl
  · have h := cf h hc
    refine CG.skip ?_
    refine AT.next ?_
    refine CG.seq ?_
    refine CG.region ?_
    refine RG.op (ok_move (ht rfl)) rfl ?_
    obtain ⟨r, q_r, h⟩ := bs h
    refine RG.op (ok_call cb127 (f127_ok _ q_r) ⟨(ht rfl), trivial⟩) rfl ?_
    refine RG.op (ok_assign (ht rfl)) rfl ?_
    refine RG.nil ?_
    refine AT.next ?_
    refine CG.ret ?_
    cases so h
    exact AT.ret1 rfl rfl

set_option maxRecDepth 100000 in
theorem f88_ok (v : DValue) {R : Bool} (h : ref02_Right v = some R) : Spec Tryz.prog 88 [tD rpDValue v] (tD rB R) := by
  refine Spec.of Tryz.func88 rfl rfl rfl fun w0 S0 => ?_
  refine CG.seq ?_
  refine CG.region ?_
  refine RG.op (ok_box (ht rfl)) rfl ?_
  refine RG.op (ok_assign hB) rfl ?_
  refine RG.nil ?_
  refine AT.next ?_
  refine CG.seq ?_
  refine CG.seq ?_
  refine CG.region ?_
  refine RG.op (ok_fieldAddr fd33_0 rfl flDValue_0 rfl (ht rfl)) rfl ?_
  refine RG.op (ok_load ti3 rfl rfl (ht rfl)) rfl ?_
  refine RG.nil ?_
  refine AT.next ?_
  refine CG.block ?_
  refine CG.seq ?_
  refine CG.region ?_
  refine RG.op (ok_eqlI (ht rfl) hI) rfl ?_
  refine RG.op (ok_assign (ht rfl)) rfl ?_
  refine RG.nil ?_
  refine AT.next ?_
  refine CG.cond (ht rfl) (fun hc => ?_) (fun hc => ?_)
  · have h := ct h hc
    refine CG.seq ?_
    refine CG.region ?_
    refine RG.op (ok_load ti33 rfl rfl (ht rfl)) rfl ?_
    refine RG.op (ok_build (y := (⟨(0 : Int), (0 : Int), (0 : Int), []⟩ : DValue)) ti33 fs33 zrDValue (rfl)) rfl ?_
    refine RG.op (ok_eqlD eq33 (ht rfl) (ht rfl)) rfl ?_
    refine RG.op (ok_assign (ht rfl)) rfl ?_
    refine RG.nil ?_
    refine AT.next ?_
    refine CG.ret ?_
    refine AT.in_ret (AT.then_ret ?_)
    cases so h
    exact AT.ret1 rfl rfl
  · have h := cf h hc
    refine CG.seq ?_
    refine CG.region ?_
    refine RG.op (ok_eqlI (ht rfl) hI) rfl ?_
    refine RG.op (ok_assign (ht rfl)) rfl ?_
    refine RG.nil ?_
    refine AT.next ?_
    refine CG.cond (ht rfl) (fun hc => ?_) (fun hc => ?_)
    · have h := ct h hc
      refine CG.seq ?_
      refine CG.region ?_
      refine RG.op (ok_fieldAddr fd33_2 rfl flDValue_2 rfl (ht rfl)) rfl ?_
      refine RG.op (ok_load ti31 rfl rfl (ht rfl)) rfl ?_
      refine RG.op (ok_eqlI (ht rfl) hI) rfl ?_
      refine RG.op (ok_move (ht rfl)) rfl ?_
      refine RG.opGt rfl rfl rfl rfl (fun hg => ok_fieldAddr fd33_3 rfl flDValue_3 rfl (ht rfl)) ?_
      refine RG.opGt rfl rfl rfl rfl (fun hg => ok_load ti9 rfl rfl (htO rfl hg)) ?_
      refine RG.opGt rfl rfl rfl rfl (fun hg => ok_eqlS (htO rfl hg) hS) ?_
      refine RG.op (ok_pickAnd (ht rfl) (fun hb => (htO rfl hb))) rfl ?_
      refine RG.op (ok_move (ht rfl)) rfl ?_
      refine RG.opGt rfl rfl rfl rfl (fun hg => ok_fieldAddr fd33_1 rfl flDValue_1 rfl (ht rfl)) ?_
      refine RG.opGt rfl rfl rfl rfl (fun hg => ok_load ti2 rfl rfl (htO rfl hg)) ?_
      refine RG.opGt rfl rfl rfl rfl (fun hg => ok_eqlI (htO rfl hg) hI) ?_
      refine RG.opGt rfl rfl rfl rfl (fun hg => ok_move (htO rfl hg)) ?_
      refine RG.opGof rfl rfl rfl rfl (fun hg => ok_fieldAddr fd33_1 rfl flDValue_1 rfl (ht rfl)) ?_
      refine RG.opGof rfl rfl rfl rfl (fun hg => ok_load ti2 rfl rfl (htO rfl hg)) ?_
      refine RG.opGof rfl rfl rfl rfl (fun hg => ok_eqlI (htO rfl hg) hI) ?_
      refine RG.opGt rfl rfl rfl rfl (fun hg => ok_pickOr (htO rfl hg) (fun hb => (htO rfl (andi hg (noti hb))))) ?_
      refine RG.op (ok_pickAnd (ht rfl) (fun hb => (htO rfl hb))) rfl ?_
      refine RG.op (ok_assign (ht rfl)) rfl ?_
      refine RG.nil ?_
      refine AT.next ?_
      refine CG.ret ?_
      refine AT.in_ret (AT.then_ret ?_)
      cases so h
      exact AT.ret1 rfl rfl
    · have h := cf h hc
      refine CG.seq ?_
      refine CG.region ?_
      refine RG.op (ok_eqlI (ht rfl) hI) rfl ?_
      refine RG.op (ok_assign (ht rfl)) rfl ?_
      refine RG.nil ?_
      refine AT.next ?_
      refine CG.cond (ht rfl) (fun hc => ?_) (fun hc => ?_)
      · have h := ct h hc
        refine CG.seq ?_
        refine CG.region ?_
        refine RG.op (ok_fieldAddr fd33_2 rfl flDValue_2 rfl (ht rfl)) rfl ?_
        refine RG.op (ok_load ti31 rfl rfl (ht rfl)) rfl ?_
        refine RG.op (ok_eqlI (ht rfl) hI) rfl ?_
        refine RG.op (ok_move (ht rfl)) rfl ?_
        refine RG.opGt rfl rfl rfl rfl (fun hg => ok_fieldAddr fd33_3 rfl flDValue_3 rfl (ht rfl)) ?_
        refine RG.opGt rfl rfl rfl rfl (fun hg => ok_load ti9 rfl rfl (htO rfl hg)) ?_
        refine RG.opGt rfl rfl rfl rfl (fun hg => ok_eqlS (htO rfl hg) hS) ?_
        refine RG.op (ok_pickAnd (ht rfl) (fun hb => (htO rfl hb))) rfl ?_
        refine RG.op (ok_assign (ht rfl)) rfl ?_
        refine RG.nil ?_
        refine AT.next ?_
        refine CG.ret ?_
        refine AT.in_ret (AT.then_ret ?_)
        cases so h
        exact AT.ret1 rfl rfl
      · have h := cf h hc
        refine CG.seq ?_
        refine CG.region ?_
        refine RG.op (ok_eqlI (ht rfl) hI) rfl ?_
        refine RG.op (ok_assign (ht rfl)) rfl ?_
        refine RG.nil ?_
        refine AT.next ?_
        refine CG.cond (ht rfl) (fun hc => ?_) (fun hc => ?_)
        · have h := ct h hc
          refine CG.seq ?_
          refine CG.region ?_
          refine RG.op (ok_fieldAddr fd33_1 rfl flDValue_1 rfl (ht rfl)) rfl ?_
          refine RG.op (ok_load ti2 rfl rfl (ht rfl)) rfl ?_
          refine RG.op (ok_eqlI (ht rfl) hI) rfl ?_
          refine RG.op (ok_move (ht rfl)) rfl ?_
          refine RG.opGt rfl rfl rfl rfl (fun hg => ok_fieldAddr fd33_2 rfl flDValue_2 rfl (ht rfl)) ?_
          refine RG.opGt rfl rfl rfl rfl (fun hg => ok_load ti31 rfl rfl (htO rfl hg)) ?_
          refine RG.opGt rfl rfl rfl rfl (fun hg => ok_eqlI (htO rfl hg) hI) ?_
          refine RG.op (ok_pickAnd (ht rfl) (fun hb => (htO rfl hb))) rfl ?_
          refine RG.op (ok_move (ht rfl)) rfl ?_
          refine RG.opGt rfl rfl rfl rfl (fun hg => ok_fieldAddr fd33_3 rfl flDValue_3 rfl (ht rfl)) ?_
          refine RG.opGt rfl rfl rfl rfl (fun hg => ok_load ti9 rfl rfl (htO rfl hg)) ?_
          refine RG.opGt rfl rfl rfl rfl (fun hg => ok_lenS Tryz.underlying9 (htO rfl hg)) ?_
          refine RG.opGt rfl rfl rfl rfl (fun hg => ok_leq (htO rfl hg) hI) ?_
          refine RG.op (ok_pickAnd (ht rfl) (fun hb => (htO rfl hb))) rfl ?_
          refine RG.op (ok_assign (ht rfl)) rfl ?_
          refine RG.nil ?_
          refine AT.next ?_
          refine CG.ret ?_
          refine AT.in_ret (AT.then_ret ?_)
          cases so h
          exact AT.ret1 rfl rfl
        · have h := cf h hc
          refine CG.skip ?_
          refine AT.in_normal ?_
          refine AT.next ?_
          refine CG.seq ?_
          refine CG.region ?_
          refine RG.op (ok_fieldAddr fd33_0 rfl flDValue_0 rfl (ht rfl)) rfl ?_
          refine RG.op (ok_load ti3 rfl rfl (ht rfl)) rfl ?_
          refine RG.op (ok_eqlI (ht rfl) hI) rfl ?_
          refine RG.op (ok_move (ht rfl)) rfl ?_
          refine RG.opGt rfl rfl rfl rfl (fun hg => ok_fieldAddr fd33_3 rfl flDValue_3 rfl (ht rfl)) ?_
          refine RG.opGt rfl rfl rfl rfl (fun hg => ok_load ti9 rfl rfl (htO rfl hg)) ?_
          refine RG.opGt rfl rfl rfl rfl (fun hg => ok_eqlS (htO rfl hg) hS) ?_
          refine RG.op (ok_pickAnd (ht rfl) (fun hb => (htO rfl hb))) rfl ?_
          refine RG.op (ok_assign (ht rfl)) rfl ?_
          refine RG.nil ?_
          refine AT.next ?_
          refine CG.ret ?_
          cases so h
          exact AT.ret1 rfl rfl

set_option maxRecDepth 100000 in
theorem f48_ok (v : DValue) {R : Bool} (h : ref02_Plain v = some R) : Spec Tryz.prog 48 [tD rpDValue v] (tD rB R) := by
  refine Spec.of Tryz.func48 rfl rfl rfl fun w0 S0 => ?_
  refine CG.seq ?_
  refine CG.region ?_
  refine RG.op (ok_box (ht rfl)) rfl ?_
  refine RG.op (ok_assign hB) rfl ?_
  refine RG.nil ?_
  refine AT.next ?_
  refine CG.seq ?_
  refine CG.region ?_
  refine RG.op (ok_load ti33 rfl rfl (ht rfl)) rfl ?_
  obtain ⟨r, q_r, h⟩ := bs h
  refine RG.op (ok_call cb88 (f88_ok _ q_r) ⟨(ht rfl), trivial⟩) rfl ?_
  refine RG.op (ok_move (ht rfl)) rfl ?_
  refine RG.opGt rfl rfl rfl rfl (fun hg => ok_fieldAddr fd33_0 rfl flDValue_0 rfl (ht rfl)) ?_
  refine RG.opGt rfl rfl rfl rfl (fun hg => ok_load ti3 rfl rfl (htO rfl hg)) ?_
  refine RG.opGt rfl rfl rfl rfl (fun hg => ok_neqI (htO rfl hg) hI) ?_
  refine RG.op (ok_pickAnd (ht rfl) (fun hb => (htO rfl hb))) rfl ?_
  refine RG.op (ok_assign (ht rfl)) rfl ?_
  refine RG.nil ?_
  refine AT.next ?_
  refine CG.ret ?_
  cases so h
  exact AT.ret1 rfl rfl

set_option maxRecDepth 100000 in
theorem f87_ok (n : DENode) {R : Bool} (h : ref10_counts n = some R) : Spec Tryz.prog 87 [tD rpDENode n] (tD rB R) := by
  refine Spec.of Tryz.func87 rfl rfl rfl fun w0 S0 => ?_
  refine CG.seq ?_
  refine CG.region ?_
  refine RG.op (ok_box (ht rfl)) rfl ?_
  refine RG.op (ok_assign hB) rfl ?_
  refine RG.nil ?_
  refine AT.next ?_
  refine CG.seq ?_
  refine CG.seq ?_
  refine CG.region ?_
  refine RG.op (ok_fieldAddr fd42_0 rfl flDENode_0 rfl (ht rfl)) rfl ?_
  refine RG.op (ok_load ti3 rfl rfl (ht rfl)) rfl ?_
  refine RG.nil ?_
  refine AT.next ?_
  refine CG.block ?_
  refine CG.seq ?_
  refine CG.region ?_
  refine RG.op (ok_eqlI (ht rfl) hI) rfl ?_
  refine RG.op (ok_assign (ht rfl)) rfl ?_
  refine RG.nil ?_
  refine AT.next ?_
  refine CG.cond (ht rfl) (fun hc => ?_) (fun hc => ?_)
  · have h := ct h hc
    refine CG.seq ?_
    refine CG.region ?_
    refine RG.op (ok_fieldAddr fd42_4 rfl flDENode_4 rfl (ht rfl)) rfl ?_
    refine RG.op (ok_load ti33 rfl rfl (ht rfl)) rfl ?_
    obtain ⟨r, q_r, h⟩ := bs h
    refine RG.op (ok_call cb48 (f48_ok _ q_r) ⟨(ht rfl), trivial⟩) rfl ?_
    refine RG.op (ok_move (ht rfl)) rfl ?_
    refine RG.opGt rfl rfl rfl rfl (fun hg => ok_fieldAddr fd42_3 rfl flDENode_3 rfl (ht rfl)) ?_
    refine RG.opGt rfl rfl rfl rfl (fun hg => ok_load ti3 rfl rfl (htO rfl hg)) ?_
    refine RG.opGt rfl rfl rfl rfl (fun hg => ok_eqlI (htO rfl hg) hI) ?_
    refine RG.op (ok_pickAnd (ht rfl) (fun hb => (htO rfl hb))) rfl ?_
    refine RG.op (ok_assign (ht rfl)) rfl ?_
    refine RG.nil ?_
    refine AT.next ?_
    refine CG.ret ?_
    refine AT.in_ret (AT.then_ret ?_)
    cases so h
    exact AT.ret1 rfl rfl
  · have h := cf h hc
    refine CG.seq ?_
    refine CG.region ?_
    refine RG.op (ok_eqlI (ht rfl) hI) rfl ?_
    refine RG.op (ok_assign (ht rfl)) rfl ?_
    refine RG.nil ?_
    refine AT.next ?_
    refine CG.cond (ht rfl) (fun hc => ?_) (fun hc => ?_)
    · have h := ct h hc
      refine CG.seq ?_
      refine CG.region ?_
      refine RG.op (ok_fieldAddr fd42_4 rfl flDENode_4 rfl (ht rfl)) rfl ?_
      refine RG.op (ok_load ti33 rfl rfl (ht rfl)) rfl ?_
      refine RG.op (ok_build (y := (⟨(0 : Int), (0 : Int), (0 : Int), []⟩ : DValue)) ti33 fs33 zrDValue (rfl)) rfl ?_
      refine RG.op (ok_eqlD eq33 (ht rfl) (ht rfl)) rfl ?_
      refine RG.op (ok_move (ht rfl)) rfl ?_
      refine RG.opGt rfl rfl rfl rfl (fun hg => ok_fieldAddr fd42_3 rfl flDENode_3 rfl (ht rfl)) ?_
      refine RG.opGt rfl rfl rfl rfl (fun hg => ok_load ti3 rfl rfl (htO rfl hg)) ?_
      refine RG.opGt rfl rfl rfl rfl (fun hg => ok_geq (htO rfl hg) hI) ?_
      refine RG.op (ok_pickAnd (ht rfl) (fun hb => (htO rfl hb))) rfl ?_
      refine RG.op (ok_move (ht rfl)) rfl ?_
      refine RG.opGt rfl rfl rfl rfl (fun hg => ok_fieldAddr fd42_3 rfl flDENode_3 rfl (ht rfl)) ?_
      refine RG.opGt rfl rfl rfl rfl (fun hg => ok_load ti3 rfl rfl (htO rfl hg)) ?_
      refine RG.opGt rfl rfl rfl rfl (fun hg => ok_lss (htO rfl hg) hI) ?_
      refine RG.op (ok_pickAnd (ht rfl) (fun hb => (htO rfl hb))) rfl ?_
      refine RG.op (ok_assign (ht rfl)) rfl ?_
      refine RG.nil ?_
      refine AT.next ?_
      refine CG.ret ?_
      refine AT.in_ret (AT.then_ret ?_)
      cases so h
      exact AT.ret1 rfl rfl
    · have h := cf h hc
      refine CG.skip ?_
      refine AT.in_normal ?_
      refine AT.next ?_
      refine CG.seq ?_
      refine CG.region ?_
      refine RG.op (ok_fieldAddr fd42_4 rfl flDENode_4 rfl (ht rfl)) rfl ?_
      refine RG.op (ok_load ti33 rfl rfl (ht rfl)) rfl ?_
      refine RG.op (ok_build (y := (⟨(0 : Int), (0 : Int), (0 : Int), []⟩ : DValue)) ti33 fs33 zrDValue (rfl)) rfl ?_
      refine RG.op (ok_eqlD eq33 (ht rfl) (ht rfl)) rfl ?_
      refine RG.op (ok_move (ht rfl)) rfl ?_
      refine RG.opGt rfl rfl rfl rfl (fun hg => ok_fieldAddr fd42_3 rfl flDENode_3 rfl (ht rfl)) ?_
      refine RG.opGt rfl rfl rfl rfl (fun hg => ok_load ti3 rfl rfl (htO rfl hg)) ?_
      refine RG.opGt rfl rfl rfl rfl (fun hg => ok_eqlI (htO rfl hg) hI) ?_
      refine RG.op (ok_pickAnd (ht rfl) (fun hb => (htO rfl hb))) rfl ?_
      refine RG.op (ok_assign (ht rfl)) rfl ?_
      refine RG.nil ?_
      refine AT.next ?_
      refine CG.ret ?_
      cases so h
      exact AT.ret1 rfl rfl

set_option maxRecDepth 100000 in
theorem f47_rec : ∀ (fu : Nat) (e : DExpr) (place : Int) {R : Int} (h : ref10_size_f fu e place = some R), Spec Tryz.prog 47 [tD rpDExpr e, tD (rI .i64) place] (tD (rI .i64) R) := by
  intro fu
  induction fu with
  | zero => intro e place R h; exact (nn h).elim
  | succ fu ih =>
    intro e place R h
    refine Spec.of Tryz.func47 rfl rfl rfl fun w0 S0 => ?_
    refine CG.seq ?_
    refine CG.region ?_
    refine RG.op (ok_box (ht rfl)) rfl ?_
    refine RG.op (ok_assign hI) rfl ?_
    refine RG.nil ?_
    refine AT.next ?_
    refine CG.seq ?_
    refine CG.seq ?_
    refine CG.region ?_
    refine RG.op (ok_move (ht rfl)) rfl ?_
    refine RG.op (ok_lss (ht rfl) hI) rfl ?_
    refine RG.op (ok_move (ht rfl)) rfl ?_
    refine RG.opGf rfl rfl rfl rfl (fun hg => ok_move (ht rfl)) ?_
    refine RG.opGf rfl rfl rfl rfl (fun hg => ok_fieldAddr fd24_0 rfl flDExpr_0 rfl (ht rfl)) ?_
    refine RG.opGf rfl rfl rfl rfl (fun hg => ok_load ti22 rfl rfl (htO rfl hg)) ?_
    refine RG.opGf rfl rfl rfl rfl (fun hg => ok_lenSl Tryz.underlying22 (htO rfl hg)) ?_
    refine RG.opGf rfl rfl rfl rfl (fun hg => ok_geq (htO rfl hg) (htO rfl hg)) ?_
    refine RG.op (ok_pickOr (ht rfl) (fun hb => (htO rfl (noti hb)))) rfl ?_
    refine RG.nil ?_
    refine AT.next ?_
    refine CG.cond (ht rfl) (fun hc => ?_) (fun hc => ?_)
    · have h := ct h hc
      refine CG.seq ?_
      refine CG.region ?_
      refine RG.op (ok_assign hI) rfl ?_
      refine RG.nil ?_
      refine AT.next ?_
      refine CG.ret ?_
      refine AT.then_ret ?_
      cases so h
      exact AT.ret1 rfl rfl
    · have h := cf h hc
      refine CG.skip ?_
      refine AT.next ?_
      refine CG.seq ?_
      refine CG.region ?_
      refine RG.op (ok_fieldAddr fd24_0 rfl flDExpr_0 rfl (ht rfl)) rfl ?_
      refine RG.op (ok_load ti22 rfl rfl (ht rfl)) rfl ?_
      refine RG.op (ok_move (ht rfl)) rfl ?_
      obtain ⟨e1, q_e1, h⟩ := bs h
      refine RG.op (ok_indexAddr Tryz.underlying22 ti42 rfl (ht rfl) (ht rfl) q_e1) rfl ?_
      refine RG.op (ok_load ti42 rfl rfl (ht rfl)) rfl ?_
      refine RG.alloc (r := rpDENode) (x := (⟨(0 : Int), (0 : Int), (0 : Int), (0 : Int), (⟨(0 : Int), (0 : Int), (0 : Int), []⟩ : DValue)⟩ : DENode)) ti42 (fun _ => zrDENode _) rfl (fun b => ?_)
      refine RG.storeB ti42 rfl sfld_whole rfl (ht rfl) (ht rfl) ?_
      refine RG.settleB 5 rfl ?_
      refine RG.nil ?_
      refine AT.next ?_
      refine CG.seq ?_
      refine CG.region ?_
      refine RG.op (ok_fieldAddr fd42_0 rfl flDENode_0 rfl (ht rfl)) rfl ?_
      refine RG.op (ok_load ti3 rfl rfl (ht rfl)) rfl ?_
      obtain ⟨r, q_r, h⟩ := bs h
      refine RG.op (ok_call cb86 (f86_ok _ q_r) ⟨(ht rfl), trivial⟩) rfl ?_
      refine RG.op (ok_assign (ht rfl)) rfl ?_
      refine RG.nil ?_
      refine AT.next ?_
      refine CG.seq ?_
      refine CG.seq ?_
      refine CG.region ?_
      refine RG.op (ok_move (ht rfl)) rfl ?_
      refine RG.op (ok_lss (ht rfl) hI) rfl ?_
      refine RG.op (ok_move (ht rfl)) rfl ?_
      obtain ⟨t, q_t, h⟩ := bs h
      refine RG.opGf rfl rfl rfl rfl (fun hg => ok_load ti42 rfl rfl (ht rfl)) ?_
      obtain ⟨r1, h1t, h0t⟩ := og q_t
      have q_r1g := fun hb => (h1t hb).1
      refine RG.opGf rfl rfl rfl rfl (fun hg => ok_call cb87 (f87_ok _ (q_r1g hg)) ⟨(htO rfl hg), trivial⟩) ?_
      refine RG.opGf rfl rfl rfl rfl (fun hg => ok_not (htO rfl hg)) ?_
      refine RG.op (ok_pickOrM (ht rfl) (fun hb => (htO rfl (noti hb))) (fun hb => (h1t hb).2) h0t) rfl ?_
      refine RG.nil ?_
      refine AT.next ?_
      refine CG.cond (ht rfl) (fun hc => ?_) (fun hc => ?_)
      · have h := ct h hc
        refine CG.seq ?_
        refine CG.region ?_
        refine RG.op (ok_assign hI) rfl ?_
        refine RG.nil ?_
        refine AT.next ?_
        refine CG.ret ?_
        refine AT.then_ret ?_
        cases so h
        exact AT.ret1 rfl rfl
      · have h := cf h hc
        refine CG.skip ?_
        refine AT.next ?_
        refine CG.seq ?_
        refine CG.seq ?_
        refine CG.region ?_
        refine RG.op (ok_move (ht rfl)) rfl ?_
        refine RG.op (ok_eqlI (ht rfl) hI) rfl ?_
        refine RG.nil ?_
        refine AT.next ?_
        refine CG.cond (ht rfl) (fun hc => ?_) (fun hc => ?_)
        · have h := ct h hc
          refine CG.seq ?_
          refine CG.seq ?_
          refine CG.region ?_
          refine RG.op (ok_fieldAddr fd42_1 rfl flDENode_1 rfl (ht rfl)) rfl ?_
          refine RG.op (ok_load ti3 rfl rfl (ht rfl)) rfl ?_
          refine RG.op (ok_neqI (ht rfl) hI) rfl ?_
          refine RG.op (ok_move (ht rfl)) rfl ?_
          refine RG.opGf rfl rfl rfl rfl (fun hg => ok_fieldAddr fd42_2 rfl flDENode_2 rfl (ht rfl)) ?_
          refine RG.opGf rfl rfl rfl rfl (fun hg => ok_load ti3 rfl rfl (htO rfl hg)) ?_
          refine RG.opGf rfl rfl rfl rfl (fun hg => ok_neqI (htO rfl hg) hI) ?_
          refine RG.op (ok_pickOr (ht rfl) (fun hb => (htO rfl (noti hb)))) rfl ?_
          refine RG.nil ?_
          refine AT.next ?_
          refine CG.cond (ht rfl) (fun hc => ?_) (fun hc => ?_)
          · have h := ct h hc
            refine CG.seq ?_
            refine CG.region ?_
            refine RG.op (ok_assign hI) rfl ?_
            refine RG.nil ?_
            refine AT.next ?_
            refine CG.ret ?_
            refine AT.then_ret (AT.then_ret ?_)
            cases so h
            exact AT.ret1 rfl rfl
          · have h := cf h hc
            refine CG.skip ?_
            refine AT.next ?_
            refine CG.seq ?_
            refine CG.region ?_
            refine RG.op (ok_assign hI) rfl ?_
            refine RG.nil ?_
            refine AT.next ?_
            refine CG.ret ?_
            refine AT.then_ret ?_
            cases so h
            exact AT.ret1 rfl rfl
        · have h := cf h hc
          refine CG.skip ?_
          refine AT.next ?_
          refine CG.seq ?_
          refine CG.region ?_
          refine RG.op (ok_load ti24 rfl rfl (ht rfl)) rfl ?_
          refine RG.op (ok_move (ht rfl)) rfl ?_
          refine RG.op (ok_sub (ht rfl) hI) rfl ?_
          obtain ⟨r2, q_r2, h⟩ := bs h
          refine RG.op (ok_call cb47 (ih _ _ q_r2) ⟨(ht rfl), (ht rfl), trivial⟩) rfl ?_
          refine RG.op (ok_assign (ht rfl)) rfl ?_
          refine RG.nil ?_
          refine AT.next ?_
          refine CG.seq ?_
          refine CG.seq ?_
          refine CG.region ?_
          refine RG.op (ok_move (ht rfl)) rfl ?_
          refine RG.op (ok_eqlI (ht rfl) hI) rfl ?_
          refine RG.nil ?_
          refine AT.next ?_
          refine CG.cond (ht rfl) (fun hc => ?_) (fun hc => ?_)
          · have h := ct h hc
            refine CG.seq ?_
            refine CG.region ?_
            refine RG.op (ok_assign hI) rfl ?_
            refine RG.nil ?_
            refine AT.next ?_
            refine CG.ret ?_
            refine AT.then_ret ?_
            cases so h
            exact AT.ret1 rfl rfl
          · have h := cf h hc
            refine CG.skip ?_
            refine AT.next ?_
            refine CG.seq ?_
            refine CG.seq ?_
            refine CG.region ?_
            refine RG.op (ok_move (ht rfl)) rfl ?_
            refine RG.op (ok_eqlI (ht rfl) hI) rfl ?_
            refine RG.nil ?_
            refine AT.next ?_
            refine CG.cond (ht rfl) (fun hc => ?_) (fun hc => ?_)
            · have h := ct h hc
              refine CG.seq ?_
              refine CG.seq ?_
              refine CG.region ?_
              refine RG.op (ok_fieldAddr fd42_1 rfl flDENode_1 rfl (ht rfl)) rfl ?_
              refine RG.op (ok_load ti3 rfl rfl (ht rfl)) rfl ?_
              refine RG.op (ok_move (ht rfl)) rfl ?_
              refine RG.op (ok_sub (ht rfl) hI) rfl ?_
              refine RG.op (ok_neqI (ht rfl) (ht rfl)) rfl ?_
              refine RG.op (ok_move (ht rfl)) rfl ?_
              refine RG.opGf rfl rfl rfl rfl (fun hg => ok_fieldAddr fd42_2 rfl flDENode_2 rfl (ht rfl)) ?_
              refine RG.opGf rfl rfl rfl rfl (fun hg => ok_load ti3 rfl rfl (htO rfl hg)) ?_
              refine RG.opGf rfl rfl rfl rfl (fun hg => ok_neqI (htO rfl hg) hI) ?_
              refine RG.op (ok_pickOr (ht rfl) (fun hb => (htO rfl (noti hb)))) rfl ?_
              refine RG.nil ?_
              refine AT.next ?_
              refine CG.cond (ht rfl) (fun hc => ?_) (fun hc => ?_)
              · have h := ct h hc
                refine CG.seq ?_
                refine CG.region ?_
                refine RG.op (ok_assign hI) rfl ?_
                refine RG.nil ?_
                refine AT.next ?_
                refine CG.ret ?_
                refine AT.then_ret (AT.then_ret ?_)
                cases so h
                exact AT.ret1 rfl rfl
              · have h := cf h hc
                refine CG.skip ?_
                refine AT.next ?_
                refine CG.seq ?_
                refine CG.region ?_
                refine RG.op (ok_move (ht rfl)) rfl ?_
                refine RG.op (ok_add (ht rfl) hI) rfl ?_
                refine RG.op (ok_assign (ht rfl)) rfl ?_
                refine RG.nil ?_
                refine AT.next ?_
                refine CG.ret ?_
                refine AT.then_ret ?_
                cases so h
                exact AT.ret1 rfl rfl
            · have h := cf h hc
              refine CG.skip ?_
              refine AT.next ?_
              refine CG.seq ?_
              refine CG.region ?_
              refine RG.op (ok_load ti24 rfl rfl (ht rfl)) rfl ?_
              refine RG.op (ok_move (ht rfl)) rfl ?_
              refine RG.op (ok_sub (ht rfl) hI) rfl ?_
              refine RG.op (ok_move (ht rfl)) rfl ?_
              refine RG.op (ok_sub (ht rfl) (ht rfl)) rfl ?_
              obtain ⟨r3, q_r3, h⟩ := bs h
              refine RG.op (ok_call cb47 (ih _ _ q_r3) ⟨(ht rfl), (ht rfl), trivial⟩) rfl ?_
              refine RG.op (ok_assign (ht rfl)) rfl ?_
              refine RG.nil ?_
              refine AT.next ?_
              refine CG.seq ?_
              refine CG.seq ?_
              refine CG.region ?_
              refine RG.op (ok_move (ht rfl)) rfl ?_
              refine RG.op (ok_eqlI (ht rfl) hI) rfl ?_
              refine RG.op (ok_move (ht rfl)) rfl ?_
              refine RG.opGf rfl rfl rfl rfl (fun hg => ok_fieldAddr fd42_2 rfl flDENode_2 rfl (ht rfl)) ?_
              refine RG.opGf rfl rfl rfl rfl (fun hg => ok_load ti3 rfl rfl (htO rfl hg)) ?_
              refine RG.opGf rfl rfl rfl rfl (fun hg => ok_move (ht rfl)) ?_
              refine RG.opGf rfl rfl rfl rfl (fun hg => ok_sub (htO rfl hg) hI) ?_
              refine RG.opGf rfl rfl rfl rfl (fun hg => ok_neqI (htO rfl hg) (htO rfl hg)) ?_
              refine RG.op (ok_pickOr (ht rfl) (fun hb => (htO rfl (noti hb)))) rfl ?_
              refine RG.op (ok_move (ht rfl)) rfl ?_
              refine RG.opGf rfl rfl rfl rfl (fun hg => ok_fieldAddr fd42_1 rfl flDENode_1 rfl (ht rfl)) ?_
              refine RG.opGf rfl rfl rfl rfl (fun hg => ok_load ti3 rfl rfl (htO rfl hg)) ?_
              refine RG.opGf rfl rfl rfl rfl (fun hg => ok_move (ht rfl)) ?_
              refine RG.opGf rfl rfl rfl rfl (fun hg => ok_sub (htO rfl hg) hI) ?_
              refine RG.opGf rfl rfl rfl rfl (fun hg => ok_move (ht rfl)) ?_
              refine RG.opGf rfl rfl rfl rfl (fun hg => ok_sub (htO rfl hg) (htO rfl hg)) ?_
              refine RG.opGf rfl rfl rfl rfl (fun hg => ok_neqI (htO rfl hg) (htO rfl hg)) ?_
              refine RG.op (ok_pickOr (ht rfl) (fun hb => (htO rfl (noti hb)))) rfl ?_
              refine RG.nil ?_
              refine AT.next ?_
              refine CG.cond (ht rfl) (fun hc => ?_) (fun hc => ?_)
              · have h := ct h hc
                refine CG.seq ?_
                refine CG.region ?_
                refine RG.op (ok_assign hI) rfl ?_
                refine RG.nil ?_
                refine AT.next ?_
                refine CG.ret ?_
                refine AT.then_ret ?_
                cases so h
                exact AT.ret1 rfl rfl
              · have h := cf h hc
                refine CG.skip ?_
                refine AT.next ?_
                refine CG.seq ?_
                refine CG.region ?_
                refine RG.op (ok_move (ht rfl)) rfl ?_
                refine RG.op (ok_move (ht rfl)) rfl ?_
                refine RG.op (ok_add (ht rfl) (ht rfl)) rfl ?_
                refine RG.op (ok_add (ht rfl) hI) rfl ?_
                refine RG.op (ok_assign (ht rfl)) rfl ?_
                refine RG.nil ?_
                refine AT.next ?_
                refine CG.ret ?_
                cases so h
                exact AT.ret1 rfl rfl
theorem f47_ok (e : DExpr) (place : Int) {R : Int} (h : ref10_size e place = some R) : Spec Tryz.prog 47 [tD rpDExpr e, tD (rI .i64) place] (tD (rI .i64) R) := f47_rec FUEL e place h

set_option maxRecDepth 100000 in
theorem f13_ok (e : DExpr) {R : Bool} (h : ref10_Right e = some R) : Spec Tryz.prog 13 [tD rpDExpr e] (tD rB R) := by
  refine Spec.of Tryz.func13 rfl rfl rfl fun w0 S0 => ?_
  refine CG.seq ?_
  refine CG.region ?_
  refine RG.op (ok_box (ht rfl)) rfl ?_
  refine RG.op (ok_assign hB) rfl ?_
  refine RG.nil ?_
  refine AT.next ?_
  refine CG.seq ?_
  obtain ⟨t, q_t, h⟩ := bs h
  obtain ⟨r, h1t, h0t⟩ := og q_t
  have q_rg := fun hb => (h1t hb).1
  refine CG.draw (ts := [tPtr (rSl rpDENode) e.Nodes, tD (rSl rpDENode) e.Nodes, tD (rI .i64) (e.Nodes.length : Int), tD rB (decide ((1 : Int) ≤ (e.Nodes.length : Int))), tD rB (decide ((1 : Int) ≤ (e.Nodes.length : Int))), tOpt (decide ((1 : Int) ≤ (e.Nodes.length : Int))) (tPtr (rSl rpDENode) e.Nodes), tOpt (decide ((1 : Int) ≤ (e.Nodes.length : Int))) (tD (rSl rpDENode) e.Nodes), tOpt (decide ((1 : Int) ≤ (e.Nodes.length : Int))) (tD (rI .i64) (e.Nodes.length : Int)), tOpt (decide ((1 : Int) ≤ (e.Nodes.length : Int))) (tD rB (decide ((e.Nodes.length : Int) ≤ (1000 : Int)))), tD rB ((decide ((1 : Int) ≤ (e.Nodes.length : Int))) && (decide ((e.Nodes.length : Int) ≤ (1000 : Int)))), tD rB ((decide ((1 : Int) ≤ (e.Nodes.length : Int))) && (decide ((e.Nodes.length : Int) ≤ (1000 : Int)))), tOpt ((decide ((1 : Int) ≤ (e.Nodes.length : Int))) && (decide ((e.Nodes.length : Int) ≤ (1000 : Int)))) (tD rpDExpr e), tOpt ((decide ((1 : Int) ≤ (e.Nodes.length : Int))) && (decide ((e.Nodes.length : Int) ≤ (1000 : Int)))) (tPtr (rSl rpDENode) e.Nodes), tOpt ((decide ((1 : Int) ≤ (e.Nodes.length : Int))) && (decide ((e.Nodes.length : Int) ≤ (1000 : Int)))) (tD (rSl rpDENode) e.Nodes), tOpt ((decide ((1 : Int) ≤ (e.Nodes.length : Int))) && (decide ((e.Nodes.length : Int) ≤ (1000 : Int)))) (tD (rI .i64) (e.Nodes.length : Int)), tOpt ((decide ((1 : Int) ≤ (e.Nodes.length : Int))) && (decide ((e.Nodes.length : Int) ≤ (1000 : Int)))) (tD (rI .i64) (IntKind.i64.wrap ((e.Nodes.length : Int) - (1 : Int)))), tOpt ((decide ((1 : Int) ≤ (e.Nodes.length : Int))) && (decide ((e.Nodes.length : Int) ≤ (1000 : Int)))) (tD (rI .i64) r), tOpt ((decide ((1 : Int) ≤ (e.Nodes.length : Int))) && (decide ((e.Nodes.length : Int) ≤ (1000 : Int)))) (tPtr (rSl rpDENode) e.Nodes), tOpt ((decide ((1 : Int) ≤ (e.Nodes.length : Int))) && (decide ((e.Nodes.length : Int) ≤ (1000 : Int)))) (tD (rSl rpDENode) e.Nodes), tOpt ((decide ((1 : Int) ≤ (e.Nodes.length : Int))) && (decide ((e.Nodes.length : Int) ≤ (1000 : Int)))) (tD (rI .i64) (e.Nodes.length : Int)), tOpt ((decide ((1 : Int) ≤ (e.Nodes.length : Int))) && (decide ((e.Nodes.length : Int) ≤ (1000 : Int)))) (tD rB (r == (e.Nodes.length : Int))), tD rB t, tD rB t]) mixed rfl rfl
    ⟨⟨[⟨1, _, none⟩], _, rfl, ⟨rfl, trivial⟩, rfl, rfl, OpG.plain rfl (ok_fieldAddr fd24_0 rfl flDExpr_0 rfl (ht rfl))⟩,
    ⟨⟨[⟨3, _, some 0⟩], _, rfl, ⟨rfl, trivial⟩, rfl, rfl, OpG.plain rfl (ok_load ti22 rfl rfl (ht rfl))⟩,
    ⟨⟨[⟨4, _, some 1⟩], _, rfl, ⟨rfl, trivial⟩, rfl, rfl, OpG.plain rfl (ok_lenSl Tryz.underlying22 (ht rfl))⟩,
    ⟨⟨[⟨5, _, some 2⟩], _, rfl, ⟨rfl, trivial⟩, rfl, rfl, OpG.plain rfl (ok_geq (ht rfl) hI)⟩,
    ⟨⟨[⟨6, _, some 3⟩], _, rfl, ⟨rfl, trivial⟩, rfl, rfl, OpG.plain rfl (ok_move (ht rfl))⟩,
    ⟨⟨[⟨1, _, none⟩, ⟨7, _, some 4⟩], _, rfl, ⟨rfl, rfl, trivial⟩, rfl, rfl, OpG.gt rfl rfl rfl rfl (fun hg => ok_fieldAddr fd24_0 rfl flDExpr_0 rfl (ht rfl))⟩,
    ⟨⟨[⟨8, _, some 5⟩, ⟨7, _, some 4⟩], _, rfl, ⟨rfl, rfl, trivial⟩, rfl, rfl, OpG.gt rfl rfl rfl rfl (fun hg => ok_load ti22 rfl rfl (htO rfl hg))⟩,
    ⟨⟨[⟨9, _, some 6⟩, ⟨7, _, some 4⟩], _, rfl, ⟨rfl, rfl, trivial⟩, rfl, rfl, OpG.gt rfl rfl rfl rfl (fun hg => ok_lenSl Tryz.underlying22 (htO rfl hg))⟩,
    ⟨⟨[⟨10, _, some 7⟩, ⟨7, _, some 4⟩], _, rfl, ⟨rfl, rfl, trivial⟩, rfl, rfl, OpG.gt rfl rfl rfl rfl (fun hg => ok_leq (htO rfl hg) hI)⟩,
    ⟨⟨[⟨7, _, some 4⟩, ⟨11, _, some 8⟩], _, rfl, ⟨rfl, rfl, trivial⟩, rfl, rfl, OpG.plain rfl (ok_pickAnd (ht rfl) (fun hb => (htO rfl hb)))⟩,
    ⟨⟨[⟨12, _, some 9⟩], _, rfl, ⟨rfl, trivial⟩, rfl, rfl, OpG.plain rfl (ok_move (ht rfl))⟩,
    ⟨⟨[⟨1, _, none⟩, ⟨13, _, some 10⟩], _, rfl, ⟨rfl, rfl, trivial⟩, rfl, rfl, OpG.gt rfl rfl rfl rfl (fun hg => ok_load ti24 rfl rfl (ht rfl))⟩,
    ⟨⟨[⟨1, _, none⟩, ⟨13, _, some 10⟩], _, rfl, ⟨rfl, rfl, trivial⟩, rfl, rfl, OpG.gt rfl rfl rfl rfl (fun hg => ok_fieldAddr fd24_0 rfl flDExpr_0 rfl (ht rfl))⟩,
    ⟨⟨[⟨15, _, some 12⟩, ⟨13, _, some 10⟩], _, rfl, ⟨rfl, rfl, trivial⟩, rfl, rfl, OpG.gt rfl rfl rfl rfl (fun hg => ok_load ti22 rfl rfl (htO rfl hg))⟩,
    ⟨⟨[⟨16, _, some 13⟩, ⟨13, _, some 10⟩], _, rfl, ⟨rfl, rfl, trivial⟩, rfl, rfl, OpG.gt rfl rfl rfl rfl (fun hg => ok_lenSl Tryz.underlying22 (htO rfl hg))⟩,
    ⟨⟨[⟨17, _, some 14⟩, ⟨13, _, some 10⟩], _, rfl, ⟨rfl, rfl, trivial⟩, rfl, rfl, OpG.gt rfl rfl rfl rfl (fun hg => ok_sub (htO rfl hg) hI)⟩,
    ⟨⟨[⟨14, _, some 11⟩, ⟨18, _, some 15⟩, ⟨13, _, some 10⟩], _, rfl, ⟨rfl, rfl, rfl, trivial⟩, rfl, rfl, OpG.gt rfl rfl rfl rfl (fun hg => ok_call cb47 (f47_ok _ _ (q_rg hg)) ⟨(htO rfl hg), (htO rfl hg), trivial⟩)⟩,
    ⟨⟨[⟨1, _, none⟩, ⟨13, _, some 10⟩], _, rfl, ⟨rfl, rfl, trivial⟩, rfl, rfl, OpG.gt rfl rfl rfl rfl (fun hg => ok_fieldAddr fd24_0 rfl flDExpr_0 rfl (ht rfl))⟩,
    ⟨⟨[⟨20, _, some 17⟩, ⟨13, _, some 10⟩], _, rfl, ⟨rfl, rfl, trivial⟩, rfl, rfl, OpG.gt rfl rfl rfl rfl (fun hg => ok_load ti22 rfl rfl (htO rfl hg))⟩,
    ⟨⟨[⟨21, _, some 18⟩, ⟨13, _, some 10⟩], _, rfl, ⟨rfl, rfl, trivial⟩, rfl, rfl, OpG.gt rfl rfl rfl rfl (fun hg => ok_lenSl Tryz.underlying22 (htO rfl hg))⟩,
    ⟨⟨[⟨19, _, some 16⟩, ⟨22, _, some 19⟩, ⟨13, _, some 10⟩], _, rfl, ⟨rfl, rfl, rfl, trivial⟩, rfl, rfl, OpG.gt rfl rfl rfl rfl (fun hg => ok_eqlI (htO rfl hg) (htO rfl hg))⟩,
    ⟨⟨[⟨13, _, some 10⟩, ⟨23, _, some 20⟩], _, rfl, ⟨rfl, rfl, trivial⟩, rfl, rfl, OpG.plain rfl (ok_pickAndM (ht rfl) (fun hb => (htO rfl hb)) (fun hb => (h1t hb).2) h0t)⟩,
    ⟨⟨[⟨24, _, some 21⟩], _, rfl, ⟨rfl, trivial⟩, rfl, rfl, OpG.plain rfl (ok_assign (ht rfl))⟩,
    trivial⟩⟩⟩⟩⟩⟩⟩⟩⟩⟩⟩⟩⟩⟩⟩⟩⟩⟩⟩⟩⟩⟩⟩ ?_
  refine AT.next ?_
  refine CG.ret ?_
  cases so h
  exact AT.ret1 rfl rfl

end Go.Proofs.YtdhledkpgaeoaaaGreatDoor

