/- Facts of this claim: P7. -/
import Derived.Test.YtbhkincjkpeaoaaGreatTeT
import Derived.Test.YtbhkincjkpeaoaaGreatTeP6
namespace Go.Proofs.YtbhkincjkpeaoaaGreat
open Go

set_option maxRecDepth 100000 in
theorem f118_ok (e : DExpr) (kinds : (List Int)) {R : Bool} (h : ref13_truth e kinds = some R) : Spec Tryz.prog 118 [tD rpDExpr e, tD (rSl (rI .i64)) kinds] (tD rB R) := by
  refine Spec.of Tryz.func118 rfl rfl rfl fun w0 S0 => ?_
  refine CG.seq ?_
  refine CG.region ?_
  refine RG.op (ok_box (ht rfl)) rfl ?_
  refine RG.op (ok_assign hB) rfl ?_
  refine RG.nil ?_
  refine AT.next ?_
  refine CG.seq ?_
  refine CG.region ?_
  refine RG.op (ok_load ti25 rfl rfl (ht rfl)) rfl ?_
  refine RG.op (ok_move (ht rfl)) rfl ?_
  obtain ⟨r, q_r, h⟩ := bs h
  refine RG.op (ok_call cb120 (f120_ok _ _ q_r) ⟨(ht rfl), (ht rfl), trivial⟩) rfl ?_
  refine RG.op (ok_move (ht rfl)) rfl ?_
  refine RG.op (ok_extract rfl (ht rfl)) rfl ?_
  refine RG.op (ok_extract rfl (ht rfl)) rfl ?_
  refine RG.op (ok_assign (ht rfl)) rfl ?_
  refine RG.op (ok_assign (ht rfl)) rfl ?_
  refine RG.nil ?_
  refine AT.next ?_
  refine CG.seq ?_
  refine CG.region ?_
  refine RG.op (ok_move (ht rfl)) rfl ?_
  refine RG.op (ok_eqlI (ht rfl) hI) rfl ?_
  refine RG.op (ok_move (ht rfl)) rfl ?_
  refine RG.opGt rfl rfl rfl rfl (fun hg => ok_move (ht rfl)) ?_
  refine RG.opGt rfl rfl rfl rfl (fun hg => ok_eqlI (htO rfl hg) hI) ?_
  refine RG.opGt rfl rfl rfl rfl (fun hg => ok_move (htO rfl hg)) ?_
  refine RG.opGof rfl rfl rfl rfl (fun hg => ok_move (ht rfl)) ?_
  refine RG.opGof rfl rfl rfl rfl (fun hg => ok_eqlI (htO rfl hg) hI) ?_
  refine RG.opGt rfl rfl rfl rfl (fun hg => ok_pickOr (htO rfl hg) (fun hb => (htO rfl (andi hg (noti hb))))) ?_
  refine RG.op (ok_pickAnd (ht rfl) (fun hb => (htO rfl hb))) rfl ?_
  refine RG.op (ok_assign (ht rfl)) rfl ?_
  refine RG.nil ?_
  refine AT.next ?_
  refine CG.ret ?_
  cases so h
  exact AT.ret1 rfl rfl

set_option maxRecDepth 100000 in
theorem f119_ok (a1 : DAgg) (kinds : (List Int)) {R : Int × Bool} (h : ref13_aggregate a1 kinds = some R) : Spec Tryz.prog 119 [tD rpDAgg a1, tD (rSl (rI .i64)) kinds] (tT [tD (rI .i64) R.1, tD rB R.2]) := by
  refine Spec.of Tryz.func119 rfl rfl rfl fun w0 S0 => ?_
  refine CG.seq ?_
  refine CG.region ?_
  refine RG.op (ok_box (ht rfl)) rfl ?_
  refine RG.op (ok_assign hI) rfl ?_
  refine RG.op (ok_assign hB) rfl ?_
  refine RG.nil ?_
  refine AT.next ?_
  refine CG.seq ?_
  refine CG.seq ?_
  refine CG.region ?_
  refine RG.op (ok_fieldAddr fd61_0 rfl flDAgg_0 rfl (ht rfl)) rfl ?_
  refine RG.op (ok_load ti3 rfl rfl (ht rfl)) rfl ?_
  refine RG.op (ok_eqlI (ht rfl) hI) rfl ?_
  refine RG.nil ?_
  refine AT.next ?_
  refine CG.cond (ht rfl) (fun hc => ?_) (fun hc => ?_)
  · have h := ct h hc
    refine CG.seq ?_
    refine CG.draw (ts := [tPtr rpDExpr a1.Arg, tPtr (rSl rpDENode) a1.Arg.Nodes, tD (rSl rpDENode) a1.Arg.Nodes, tD (rI .i64) (a1.Arg.Nodes.length : Int), tD rB ((a1.Arg.Nodes.length : Int) == (0 : Int)), tD (rI .i64) (2 : Int), tD rB ((a1.Arg.Nodes.length : Int) == (0 : Int))]) mixed rfl rfl
      ⟨⟨[⟨2, _, none⟩], _, rfl, ⟨rfl, trivial⟩, rfl, rfl, OpG.plain rfl (ok_fieldAddr fd61_1 rfl flDAgg_1 rfl (ht rfl))⟩,
      ⟨⟨[⟨11, _, some 0⟩], _, rfl, ⟨rfl, trivial⟩, rfl, rfl, OpG.plain rfl (ok_fieldAddr fd25_0 rfl flDExpr_0 rfl (ht rfl))⟩,
      ⟨⟨[⟨12, _, some 1⟩], _, rfl, ⟨rfl, trivial⟩, rfl, rfl, OpG.plain rfl (ok_load ti23 rfl rfl (ht rfl))⟩,
      ⟨⟨[⟨13, _, some 2⟩], _, rfl, ⟨rfl, trivial⟩, rfl, rfl, OpG.plain rfl (ok_lenSl Tryz.underlying23 (ht rfl))⟩,
      ⟨⟨[⟨14, _, some 3⟩], _, rfl, ⟨rfl, trivial⟩, rfl, rfl, OpG.plain rfl (ok_eqlI (ht rfl) hI)⟩,
      ⟨⟨[], _, rfl, trivial, rfl, rfl, OpG.plain rfl (ok_assign hI)⟩,
      ⟨⟨[⟨15, _, some 4⟩], _, rfl, ⟨rfl, trivial⟩, rfl, rfl, OpG.plain rfl (ok_assign (ht rfl))⟩,
      trivial⟩⟩⟩⟩⟩⟩⟩ ?_
    refine AT.next ?_
    refine CG.ret ?_
    refine AT.then_ret ?_
    cases so h
    exact AT.ret2 rfl rfl rfl
  · have h := cf h hc
    refine CG.skip ?_
    refine AT.next ?_
    refine CG.seq ?_
    refine CG.region ?_
    refine RG.op (ok_fieldAddr fd61_1 rfl flDAgg_1 rfl (ht rfl)) rfl ?_
    refine RG.op (ok_load ti25 rfl rfl (ht rfl)) rfl ?_
    refine RG.op (ok_move (ht rfl)) rfl ?_
    obtain ⟨r, q_r, h⟩ := bs h
    refine RG.op (ok_call cb120 (f120_ok _ _ q_r) ⟨(ht rfl), (ht rfl), trivial⟩) rfl ?_
    refine RG.op (ok_move (ht rfl)) rfl ?_
    refine RG.op (ok_extract rfl (ht rfl)) rfl ?_
    refine RG.op (ok_extract rfl (ht rfl)) rfl ?_
    refine RG.op (ok_assign (ht rfl)) rfl ?_
    refine RG.op (ok_assign (ht rfl)) rfl ?_
    refine RG.nil ?_
    refine AT.next ?_
    refine CG.seq ?_
    refine CG.seq ?_
    refine CG.region ?_
    refine RG.op (ok_fieldAddr fd61_0 rfl flDAgg_0 rfl (ht rfl)) rfl ?_
    refine RG.op (ok_load ti3 rfl rfl (ht rfl)) rfl ?_
    refine RG.op (ok_lss (ht rfl) hI) rfl ?_
    refine RG.op (ok_move (ht rfl)) rfl ?_
    refine RG.opGf rfl rfl rfl rfl (fun hg => ok_fieldAddr fd61_0 rfl flDAgg_0 rfl (ht rfl)) ?_
    refine RG.opGf rfl rfl rfl rfl (fun hg => ok_load ti3 rfl rfl (htO rfl hg)) ?_
    refine RG.opGf rfl rfl rfl rfl (fun hg => ok_gtr (htO rfl hg) hI) ?_
    refine RG.op (ok_pickOr (ht rfl) (fun hb => (htO rfl (noti hb)))) rfl ?_
    refine RG.op (ok_move (ht rfl)) rfl ?_
    refine RG.opGf rfl rfl rfl rfl (fun hg => ok_move (ht rfl)) ?_
    refine RG.opGf rfl rfl rfl rfl (fun hg => ok_neqI (htO rfl hg) hI) ?_
    refine RG.op (ok_pickOr (ht rfl) (fun hb => (htO rfl (noti hb)))) rfl ?_
    refine RG.nil ?_
    refine AT.next ?_
    refine CG.cond (ht rfl) (fun hc => ?_) (fun hc => ?_)
    · have h := ct h hc
      refine CG.seq ?_
      refine CG.region ?_
      refine RG.op (ok_assign hI) rfl ?_
      refine RG.op (ok_assign hB) rfl ?_
      refine RG.nil ?_
      refine AT.next ?_
      refine CG.ret ?_
      refine AT.then_ret ?_
      cases so h
      exact AT.ret2 rfl rfl rfl
    · have h := cf h hc
      refine CG.skip ?_
      refine AT.next ?_
      refine CG.seq ?_
      refine CG.seq ?_
      refine CG.region ?_
      refine RG.op (ok_fieldAddr fd61_0 rfl flDAgg_0 rfl (ht rfl)) rfl ?_
      refine RG.op (ok_load ti3 rfl rfl (ht rfl)) rfl ?_
      refine RG.op (ok_eqlI (ht rfl) hI) rfl ?_
      refine RG.op (ok_move (ht rfl)) rfl ?_
      refine RG.opGt rfl rfl rfl rfl (fun hg => ok_move (ht rfl)) ?_
      refine RG.opGt rfl rfl rfl rfl (fun hg => ok_neqI (htO rfl hg) hI) ?_
      refine RG.op (ok_pickAnd (ht rfl) (fun hb => (htO rfl hb))) rfl ?_
      refine RG.op (ok_move (ht rfl)) rfl ?_
      refine RG.opGt rfl rfl rfl rfl (fun hg => ok_move (ht rfl)) ?_
      refine RG.opGt rfl rfl rfl rfl (fun hg => ok_neqI (htO rfl hg) hI) ?_
      refine RG.op (ok_pickAnd (ht rfl) (fun hb => (htO rfl hb))) rfl ?_
      refine RG.nil ?_
      refine AT.next ?_
      refine CG.cond (ht rfl) (fun hc => ?_) (fun hc => ?_)
      · have h := ct h hc
        refine CG.seq ?_
        refine CG.region ?_
        refine RG.op (ok_assign hI) rfl ?_
        refine RG.op (ok_assign hB) rfl ?_
        refine RG.nil ?_
        refine AT.next ?_
        refine CG.ret ?_
        refine AT.then_ret ?_
        cases so h
        exact AT.ret2 rfl rfl rfl
      · have h := cf h hc
        refine CG.skip ?_
        refine AT.next ?_
        refine CG.seq ?_
        refine CG.seq ?_
        refine CG.region ?_
        refine RG.op (ok_fieldAddr fd61_0 rfl flDAgg_0 rfl (ht rfl)) rfl ?_
        refine RG.op (ok_load ti3 rfl rfl (ht rfl)) rfl ?_
        refine RG.op (ok_geq (ht rfl) hI) rfl ?_
        refine RG.nil ?_
        refine AT.next ?_
        refine CG.cond (ht rfl) (fun hc => ?_) (fun hc => ?_)
        · have h := ct h hc
          refine CG.seq ?_
          refine CG.region ?_
          refine RG.op (ok_move (ht rfl)) rfl ?_
          refine RG.op (ok_assign (ht rfl)) rfl ?_
          refine RG.op (ok_assign hB) rfl ?_
          refine RG.nil ?_
          refine AT.next ?_
          refine CG.ret ?_
          refine AT.then_ret ?_
          cases so h
          exact AT.ret2 rfl rfl rfl
        · have h := cf h hc
          refine CG.skip ?_
          refine AT.next ?_
          refine CG.seq ?_
          refine CG.region ?_
          refine RG.op (ok_assign hI) rfl ?_
          refine RG.op (ok_assign hB) rfl ?_
          refine RG.nil ?_
          refine AT.next ?_
          refine CG.ret ?_
          cases so h
          exact AT.ret2 rfl rfl rfl

set_option maxRecDepth 100000 in
theorem f97_ok (n : DLNode) (a1 : (List Int)) (b : (List Int)) {R : (List Int) × Bool} (h : ref13_kinds n a1 b = some R) : Spec Tryz.prog 97 [tD rpDLNode n, tD (rSl (rI .i64)) a1, tD (rSl (rI .i64)) b] (tT [tD (rSl (rI .i64)) R.1, tD rB R.2]) := by
  refine Spec.of Tryz.func97 rfl rfl rfl fun w0 S0 => ?_
  refine CG.seq ?_
  refine CG.region ?_
  refine RG.op (ok_box (ht rfl)) rfl ?_
  refine RG.op (ok_assign (show HasTy _ _ _ (tD (rSl (rI .i64)) ([])) from hNil)) rfl ?_
  refine RG.op (ok_assign hB) rfl ?_
  refine RG.nil ?_
  refine AT.next ?_
  refine CG.seq ?_
  refine CG.region ?_
  refine RG.fresh false (rI .i64) 3 ?_
  refine RG.op (ok_assign hVn) rfl ?_
  refine RG.nil ?_
  refine AT.next ?_
  refine CG.seq ?_
  refine CG.region ?_
  refine RG.op (ok_assign hB) rfl ?_
  refine RG.nil ?_
  refine AT.next ?_
  refine CG.seq ?_
  refine CG.seq ?_
  refine CG.region ?_
  refine RG.op (ok_fieldAddr fd30_0 rfl flDLNode_0 rfl (ht rfl)) rfl ?_
  refine RG.op (ok_load ti3 rfl rfl (ht rfl)) rfl ?_
  refine RG.nil ?_
  refine AT.next ?_
  refine CG.block ?_
  refine CG.seq ?_
  refine CG.region ?_
  refine RG.op (ok_eqlI (ht rfl) hI) rfl ?_
  refine RG.op (ok_assign (ht rfl)) rfl ?_
  refine RG.nil ?_
  refine AT.next ?_
  refine CG.cond (ht rfl) (fun hc => ?_) (fun hc => ?_)
  · have h := ct h hc
    refine CG.seq ?_
    refine CG.seq ?_
    refine CG.region ?_
    refine RG.op (ok_assign hI) rfl ?_
    refine RG.nil ?_
    refine AT.next ?_
    refine CG.block ?_
    refine CG.loop ?_
    refine LG.drop ?_
    refine LG.sub (LG.ind2 (Z := fun n1 ok i => ref13_kinds_l1 n n1 ok i = some R) (Of := fun ok i => []) (Gf := fun ok i => [(3, tPtr rpDLNode n), (9, tD rB ok), (10, tD (rI .i64) i)]) (fun ok i h => nn h) (fun n1 ih ok i h => ?_) FUEL true (0 : Int) h) ⟨rfl, rfl, rfl, trivial⟩
    refine LG.unfold ?_
    refine CG.seq ?_
    refine CG.seq ?_
    refine CG.region ?_
    refine RG.op (ok_move (ht rfl)) rfl ?_
    refine RG.op (ok_fieldAddr fd30_4 rfl flDLNode_4 rfl (ht rfl)) rfl ?_
    refine RG.op (ok_load ti22 rfl rfl (ht rfl)) rfl ?_
    refine RG.op (ok_lenSl Tryz.underlying22 (ht rfl)) rfl ?_
    refine RG.op (ok_lss (ht rfl) (ht rfl)) rfl ?_
    refine RG.nil ?_
    refine AT.next ?_
    refine CG.cond (ht rfl) (fun hc => ?_) (fun hc => ?_)
    · have h := ct h hc
      refine CG.skip ?_
      refine AT.next ?_
      refine CG.seq ?_
      refine CG.block ?_
      refine CG.region ?_
      refine RG.op (ok_move (ht rfl)) rfl ?_
      refine RG.op (ok_move (ht rfl)) rfl ?_
      obtain ⟨t, q_t, h⟩ := bs h
      refine RG.opGt rfl rfl rfl rfl (fun hg => ok_fieldAddr fd30_4 rfl flDLNode_4 rfl (ht rfl)) ?_
      refine RG.opGt rfl rfl rfl rfl (fun hg => ok_load ti22 rfl rfl (htO rfl hg)) ?_
      refine RG.opGt rfl rfl rfl rfl (fun hg => ok_move (ht rfl)) ?_
      obtain ⟨e, h1t, h0t⟩ := og q_t
      have q_eg := fun hb => (h1t hb).1
      refine RG.opGt rfl rfl rfl rfl (fun hg => ok_indexAddr Tryz.underlying22 ti3 rfl (htO rfl hg) (htO rfl hg) (q_eg hg)) ?_
      refine RG.opGt rfl rfl rfl rfl (fun hg => ok_load ti3 rfl rfl (htO rfl hg)) ?_
      refine RG.opGt rfl rfl rfl rfl (fun hg => ok_geq (htO rfl hg) hI) ?_
      refine RG.op (ok_pickAndM (ht rfl) (fun hb => (htO rfl hb)) (fun hb => (h1t hb).2) h0t) rfl ?_
      refine RG.op (ok_move (ht rfl)) rfl ?_
      obtain ⟨t1, q_t1, h⟩ := bs h
      refine RG.opGt rfl rfl rfl rfl (fun hg => ok_fieldAddr fd30_4 rfl flDLNode_4 rfl (ht rfl)) ?_
      refine RG.opGt rfl rfl rfl rfl (fun hg => ok_load ti22 rfl rfl (htO rfl hg)) ?_
      refine RG.opGt rfl rfl rfl rfl (fun hg => ok_move (ht rfl)) ?_
      obtain ⟨e1, h1t1, h0t1⟩ := og q_t1
      have q_e1g := fun hb => (h1t1 hb).1
      refine RG.opGt rfl rfl rfl rfl (fun hg => ok_indexAddr Tryz.underlying22 ti3 rfl (htO rfl hg) (htO rfl hg) (q_e1g hg)) ?_
      refine RG.opGt rfl rfl rfl rfl (fun hg => ok_load ti3 rfl rfl (htO rfl hg)) ?_
      refine RG.opGt rfl rfl rfl rfl (fun hg => ok_leq (htO rfl hg) hI) ?_
      refine RG.op (ok_pickAndM (ht rfl) (fun hb => (htO rfl hb)) (fun hb => (h1t1 hb).2) h0t1) rfl ?_
      refine RG.op (ok_assign (ht rfl)) rfl ?_
      refine RG.nil ?_
      refine AT.in_normal ?_
      refine AT.next ?_
      refine CG.region ?_
      refine RG.op (ok_move (ht rfl)) rfl ?_
      refine RG.op (ok_add (ht rfl) hI) rfl ?_
      refine RG.op (ok_assign (ht rfl)) rfl ?_
      refine RG.nil ?_
      exact AT.round (LG.sub (ih t1 (IntKind.i64.wrap (i + (1 : Int))) h) ⟨rfl, rfl, rfl, trivial⟩)
    · have h := cf h hc
      refine CG.exit ?_
      refine AT.then_exit (AT.then_exit (AT.in_exit ?_))
      refine AT.next ?_
      refine CG.seq ?_
      refine CG.draw (ts := [tPtr (rSl (rI .i64)) n.Kinds, tD (rSl (rI .i64)) n.Kinds, tD rB ok, tD rB ok, tOpt ok (tPtr (rI .i64) n.Table), tOpt ok (tD (rI .i64) n.Table), tOpt ok (tD rB (decide ((0 : Int) ≤ n.Table))), tD rB (ok && (decide ((0 : Int) ≤ n.Table))), tD rB (ok && (decide ((0 : Int) ≤ n.Table))), tOpt (ok && (decide ((0 : Int) ≤ n.Table))) (tPtr (rI .i64) n.Table), tOpt (ok && (decide ((0 : Int) ≤ n.Table))) (tD (rI .i64) n.Table), tOpt (ok && (decide ((0 : Int) ≤ n.Table))) (tD rB (decide (n.Table ≤ (3 : Int)))), tD rB ((ok && (decide ((0 : Int) ≤ n.Table))) && (decide (n.Table ≤ (3 : Int)))), tD rB ((ok && (decide ((0 : Int) ≤ n.Table))) && (decide (n.Table ≤ (3 : Int)))), tOpt ((ok && (decide ((0 : Int) ≤ n.Table))) && (decide (n.Table ≤ (3 : Int)))) (tPtr (rSl (rI .i64)) n.Kinds), tOpt ((ok && (decide ((0 : Int) ≤ n.Table))) && (decide (n.Table ≤ (3 : Int)))) (tD (rSl (rI .i64)) n.Kinds), tOpt ((ok && (decide ((0 : Int) ≤ n.Table))) && (decide (n.Table ≤ (3 : Int)))) (tD (rI .i64) (n.Kinds.length : Int)), tOpt ((ok && (decide ((0 : Int) ≤ n.Table))) && (decide (n.Table ≤ (3 : Int)))) (tD rB (decide ((1 : Int) ≤ (n.Kinds.length : Int)))), tD rB (((ok && (decide ((0 : Int) ≤ n.Table))) && (decide (n.Table ≤ (3 : Int)))) && (decide ((1 : Int) ≤ (n.Kinds.length : Int)))), tD rB (((ok && (decide ((0 : Int) ≤ n.Table))) && (decide (n.Table ≤ (3 : Int)))) && (decide ((1 : Int) ≤ (n.Kinds.length : Int)))), tOpt (((ok && (decide ((0 : Int) ≤ n.Table))) && (decide (n.Table ≤ (3 : Int)))) && (decide ((1 : Int) ≤ (n.Kinds.length : Int)))) (tPtr (rSl (rI .i64)) n.Kinds), tOpt (((ok && (decide ((0 : Int) ≤ n.Table))) && (decide (n.Table ≤ (3 : Int)))) && (decide ((1 : Int) ≤ (n.Kinds.length : Int)))) (tD (rSl (rI .i64)) n.Kinds), tOpt (((ok && (decide ((0 : Int) ≤ n.Table))) && (decide (n.Table ≤ (3 : Int)))) && (decide ((1 : Int) ≤ (n.Kinds.length : Int)))) (tD (rI .i64) (n.Kinds.length : Int)), tOpt (((ok && (decide ((0 : Int) ≤ n.Table))) && (decide (n.Table ≤ (3 : Int)))) && (decide ((1 : Int) ≤ (n.Kinds.length : Int)))) (tD rB (decide ((n.Kinds.length : Int) ≤ (4 : Int)))), tD rB ((((ok && (decide ((0 : Int) ≤ n.Table))) && (decide (n.Table ≤ (3 : Int)))) && (decide ((1 : Int) ≤ (n.Kinds.length : Int)))) && (decide ((n.Kinds.length : Int) ≤ (4 : Int)))), tD (rSl (rI .i64)) n.Kinds, tD rB ((((ok && (decide ((0 : Int) ≤ n.Table))) && (decide (n.Table ≤ (3 : Int)))) && (decide ((1 : Int) ≤ (n.Kinds.length : Int)))) && (decide ((n.Kinds.length : Int) ≤ (4 : Int))))]) mixed rfl rfl
        ⟨⟨[⟨3, _, none⟩], _, rfl, ⟨rfl, trivial⟩, rfl, rfl, OpG.plain rfl (ok_fieldAddr fd30_4 rfl flDLNode_4 rfl (ht rfl))⟩,
        ⟨⟨[⟨49, _, some 0⟩], _, rfl, ⟨rfl, trivial⟩, rfl, rfl, OpG.plain rfl (ok_load ti22 rfl rfl (ht rfl))⟩,
        ⟨⟨[⟨9, _, none⟩], _, rfl, ⟨rfl, trivial⟩, rfl, rfl, OpG.plain rfl (ok_move (ht rfl))⟩,
        ⟨⟨[⟨51, _, some 2⟩], _, rfl, ⟨rfl, trivial⟩, rfl, rfl, OpG.plain rfl (ok_move (ht rfl))⟩,
        ⟨⟨[⟨3, _, none⟩, ⟨52, _, some 3⟩], _, rfl, ⟨rfl, rfl, trivial⟩, rfl, rfl, OpG.gt rfl rfl rfl rfl (fun hg => ok_fieldAddr fd30_3 rfl flDLNode_3 rfl (ht rfl))⟩,
        ⟨⟨[⟨53, _, some 4⟩, ⟨52, _, some 3⟩], _, rfl, ⟨rfl, rfl, trivial⟩, rfl, rfl, OpG.gt rfl rfl rfl rfl (fun hg => ok_load ti3 rfl rfl (htO rfl hg))⟩,
        ⟨⟨[⟨54, _, some 5⟩, ⟨52, _, some 3⟩], _, rfl, ⟨rfl, rfl, trivial⟩, rfl, rfl, OpG.gt rfl rfl rfl rfl (fun hg => ok_geq (htO rfl hg) hI)⟩,
        ⟨⟨[⟨52, _, some 3⟩, ⟨55, _, some 6⟩], _, rfl, ⟨rfl, rfl, trivial⟩, rfl, rfl, OpG.plain rfl (ok_pickAnd (ht rfl) (fun hb => (htO rfl hb)))⟩,
        ⟨⟨[⟨56, _, some 7⟩], _, rfl, ⟨rfl, trivial⟩, rfl, rfl, OpG.plain rfl (ok_move (ht rfl))⟩,
        ⟨⟨[⟨3, _, none⟩, ⟨57, _, some 8⟩], _, rfl, ⟨rfl, rfl, trivial⟩, rfl, rfl, OpG.gt rfl rfl rfl rfl (fun hg => ok_fieldAddr fd30_3 rfl flDLNode_3 rfl (ht rfl))⟩,
        ⟨⟨[⟨58, _, some 9⟩, ⟨57, _, some 8⟩], _, rfl, ⟨rfl, rfl, trivial⟩, rfl, rfl, OpG.gt rfl rfl rfl rfl (fun hg => ok_load ti3 rfl rfl (htO rfl hg))⟩,
        ⟨⟨[⟨59, _, some 10⟩, ⟨57, _, some 8⟩], _, rfl, ⟨rfl, rfl, trivial⟩, rfl, rfl, OpG.gt rfl rfl rfl rfl (fun hg => ok_leq (htO rfl hg) hI)⟩,
        ⟨⟨[⟨57, _, some 8⟩, ⟨60, _, some 11⟩], _, rfl, ⟨rfl, rfl, trivial⟩, rfl, rfl, OpG.plain rfl (ok_pickAnd (ht rfl) (fun hb => (htO rfl hb)))⟩,
        ⟨⟨[⟨61, _, some 12⟩], _, rfl, ⟨rfl, trivial⟩, rfl, rfl, OpG.plain rfl (ok_move (ht rfl))⟩,
        ⟨⟨[⟨3, _, none⟩, ⟨62, _, some 13⟩], _, rfl, ⟨rfl, rfl, trivial⟩, rfl, rfl, OpG.gt rfl rfl rfl rfl (fun hg => ok_fieldAddr fd30_4 rfl flDLNode_4 rfl (ht rfl))⟩,
        ⟨⟨[⟨63, _, some 14⟩, ⟨62, _, some 13⟩], _, rfl, ⟨rfl, rfl, trivial⟩, rfl, rfl, OpG.gt rfl rfl rfl rfl (fun hg => ok_load ti22 rfl rfl (htO rfl hg))⟩,
        ⟨⟨[⟨64, _, some 15⟩, ⟨62, _, some 13⟩], _, rfl, ⟨rfl, rfl, trivial⟩, rfl, rfl, OpG.gt rfl rfl rfl rfl (fun hg => ok_lenSl Tryz.underlying22 (htO rfl hg))⟩,
        ⟨⟨[⟨65, _, some 16⟩, ⟨62, _, some 13⟩], _, rfl, ⟨rfl, rfl, trivial⟩, rfl, rfl, OpG.gt rfl rfl rfl rfl (fun hg => ok_geq (htO rfl hg) hI)⟩,
        ⟨⟨[⟨62, _, some 13⟩, ⟨66, _, some 17⟩], _, rfl, ⟨rfl, rfl, trivial⟩, rfl, rfl, OpG.plain rfl (ok_pickAnd (ht rfl) (fun hb => (htO rfl hb)))⟩,
        ⟨⟨[⟨67, _, some 18⟩], _, rfl, ⟨rfl, trivial⟩, rfl, rfl, OpG.plain rfl (ok_move (ht rfl))⟩,
        ⟨⟨[⟨3, _, none⟩, ⟨68, _, some 19⟩], _, rfl, ⟨rfl, rfl, trivial⟩, rfl, rfl, OpG.gt rfl rfl rfl rfl (fun hg => ok_fieldAddr fd30_4 rfl flDLNode_4 rfl (ht rfl))⟩,
        ⟨⟨[⟨69, _, some 20⟩, ⟨68, _, some 19⟩], _, rfl, ⟨rfl, rfl, trivial⟩, rfl, rfl, OpG.gt rfl rfl rfl rfl (fun hg => ok_load ti22 rfl rfl (htO rfl hg))⟩,
        ⟨⟨[⟨70, _, some 21⟩, ⟨68, _, some 19⟩], _, rfl, ⟨rfl, rfl, trivial⟩, rfl, rfl, OpG.gt rfl rfl rfl rfl (fun hg => ok_lenSl Tryz.underlying22 (htO rfl hg))⟩,
        ⟨⟨[⟨71, _, some 22⟩, ⟨68, _, some 19⟩], _, rfl, ⟨rfl, rfl, trivial⟩, rfl, rfl, OpG.gt rfl rfl rfl rfl (fun hg => ok_leq (htO rfl hg) hI)⟩,
        ⟨⟨[⟨68, _, some 19⟩, ⟨72, _, some 23⟩], _, rfl, ⟨rfl, rfl, trivial⟩, rfl, rfl, OpG.plain rfl (ok_pickAnd (ht rfl) (fun hb => (htO rfl hb)))⟩,
        ⟨⟨[⟨50, _, some 1⟩], _, rfl, ⟨rfl, trivial⟩, rfl, rfl, OpG.plain rfl (ok_assign (ht rfl))⟩,
        ⟨⟨[⟨73, _, some 24⟩], _, rfl, ⟨rfl, trivial⟩, rfl, rfl, OpG.plain rfl (ok_assign (ht rfl))⟩,
        trivial⟩⟩⟩⟩⟩⟩⟩⟩⟩⟩⟩⟩⟩⟩⟩⟩⟩⟩⟩⟩⟩⟩⟩⟩⟩⟩⟩ ?_
      refine AT.next ?_
      refine CG.ret ?_
      refine AT.in_ret (AT.then_ret ?_)
      cases so h
      exact AT.ret2 rfl rfl rfl
  · have h := cf h hc
    refine CG.seq ?_
    refine CG.region ?_
    refine RG.op (ok_eqlI (ht rfl) hI) rfl ?_
    refine RG.op (ok_assign (ht rfl)) rfl ?_
    refine RG.nil ?_
    refine AT.next ?_
    refine CG.cond (ht rfl) (fun hc => ?_) (fun hc => ?_)
    · have h := ct h hc
      refine CG.seq ?_
      refine CG.region ?_
      refine RG.op (ok_move (ht rfl)) rfl ?_
      refine RG.op (ok_move (ht rfl)) rfl ?_
      obtain ⟨l, q_l, h⟩ := bs h
      refine RG.append ti3 rfl rfl rfl rfl Tryz.underlying22 rfl rfl (ht rfl) (ht rfl) q_l (fun l1 c => ?_)
      refine RG.op (ok_move (ht rfl)) rfl ?_
      obtain ⟨out, q_out, h⟩ := bs h
      refine RG.append ti3 rfl rfl rfl rfl Tryz.underlying22 rfl rfl (ht rfl) (ht rfl) q_out (fun l2 c1 => ?_)
      refine RG.op (ok_assign (ht rfl)) rfl ?_
      refine RG.nil ?_
      refine AT.next ?_
      refine CG.seq ?_
      refine CG.region ?_
      refine RG.op (ok_move (ht rfl)) rfl ?_
      refine RG.op (ok_fieldAddr fd30_6 rfl flDLNode_6 rfl (ht rfl)) rfl ?_
      refine RG.op (ok_load ti25 rfl rfl (ht rfl)) rfl ?_
      refine RG.op (ok_move (ht rfl)) rfl ?_
      refine RG.freeze ?_
      refine RG.tipAt 80 rfl ?_
      refine RG.tipAt 8 rfl ?_
      refine RG.tipAt 81 rfl ?_
      refine RG.tipAt 84 rfl ?_
      obtain ⟨r, q_r, h⟩ := bs h
      refine RG.op (ok_call cb118 (f118_ok _ _ q_r) ⟨(ht rfl), (tO_d (ht rfl)), trivial⟩) rfl ?_
      refine RG.op (ok_assign (ht rfl)) rfl ?_
      refine RG.op (ok_assign (ht rfl)) rfl ?_
      refine RG.nil ?_
      refine AT.next ?_
      refine CG.ret ?_
      refine AT.in_ret (AT.then_ret ?_)
      refine AT.dataAt 6 rfl ?_
      refine AT.drop ?_
      cases so h
      exact AT.ret2 rfl rfl rfl
    · have h := cf h hc
      refine CG.seq ?_
      refine CG.region ?_
      refine RG.op (ok_eqlI (ht rfl) hI) rfl ?_
      refine RG.op (ok_assign (ht rfl)) rfl ?_
      refine RG.nil ?_
      refine AT.next ?_
      refine CG.cond (ht rfl) (fun hc => ?_) (fun hc => ?_)
      · have h := ct h hc
        refine CG.seq ?_
        refine CG.region ?_
        refine RG.op (ok_move (ht rfl)) rfl ?_
        refine RG.op (ok_fieldAddr fd30_6 rfl flDLNode_6 rfl (ht rfl)) rfl ?_
        refine RG.op (ok_load ti25 rfl rfl (ht rfl)) rfl ?_
        refine RG.op (ok_move (ht rfl)) rfl ?_
        obtain ⟨r1, q_r1, h⟩ := bs h
        refine RG.op (ok_call cb118 (f118_ok _ _ q_r1) ⟨(ht rfl), (ht rfl), trivial⟩) rfl ?_
        refine RG.op (ok_assign (ht rfl)) rfl ?_
        refine RG.op (ok_assign (ht rfl)) rfl ?_
        refine RG.nil ?_
        refine AT.next ?_
        refine CG.ret ?_
        refine AT.in_ret (AT.then_ret ?_)
        refine AT.drop ?_
        cases so h
        exact AT.ret2 rfl rfl rfl
      · have h := cf h hc
        refine CG.seq ?_
        refine CG.region ?_
        refine RG.op (ok_eqlI (ht rfl) hI) rfl ?_
        refine RG.op (ok_assign (ht rfl)) rfl ?_
        refine RG.nil ?_
        refine AT.next ?_
        refine CG.cond (ht rfl) (fun hc => ?_) (fun hc => ?_)
        · have h := ct h hc
          refine CG.seq ?_
          refine CG.seq ?_
          refine CG.region ?_
          refine RG.op (ok_assign hI) rfl ?_
          refine RG.nil ?_
          refine AT.next ?_
          refine CG.block ?_
          refine CG.loop ?_
          refine LG.sub (LG.ind4 (Z := fun n2 out1 l3 c2 i1 => ref13_kinds_l2 n a1 n2 out1 i1 = some R) (Of := fun out1 l3 c2 i1 => [arr (rI .i64) 3 l3 c2 out1]) (Gf := fun out1 l3 c2 i1 => [(1, tD (rSl (rI .i64)) a1), (3, tPtr rpDLNode n), (8, tV (oslV l3 c2 out1.length)), (9, tD rB true), (11, tD (rI .i64) i1)]) (fun out1 l3 c2 i1 h => nn h) (fun n2 ih1 out1 l3 c2 i1 h => ?_) FUEL ([] : List Int) none 0 (0 : Int) h) ⟨rfl, rfl, rfl, rfl, rfl, trivial⟩
          refine LG.unfold ?_
          refine CG.seq ?_
          refine CG.seq ?_
          refine CG.region ?_
          refine RG.op (ok_move (ht rfl)) rfl ?_
          refine RG.op (ok_fieldAddr fd30_7 rfl flDLNode_7 rfl (ht rfl)) rfl ?_
          refine RG.op (ok_load ti22 rfl rfl (ht rfl)) rfl ?_
          refine RG.op (ok_lenSl Tryz.underlying22 (ht rfl)) rfl ?_
          refine RG.op (ok_lss (ht rfl) (ht rfl)) rfl ?_
          refine RG.nil ?_
          refine AT.next ?_
          refine CG.cond (ht rfl) (fun hc => ?_) (fun hc => ?_)
          · have h := ct h hc
            refine CG.skip ?_
            refine AT.next ?_
            refine CG.seq ?_
            refine CG.block ?_
            refine CG.seq ?_
            refine CG.seq ?_
            refine CG.region ?_
            refine RG.op (ok_fieldAddr fd30_7 rfl flDLNode_7 rfl (ht rfl)) rfl ?_
            refine RG.op (ok_load ti22 rfl rfl (ht rfl)) rfl ?_
            refine RG.op (ok_move (ht rfl)) rfl ?_
            obtain ⟨e2, q_e2, h⟩ := bs h
            refine RG.op (ok_indexAddr Tryz.underlying22 ti3 rfl (ht rfl) (ht rfl) q_e2) rfl ?_
            refine RG.op (ok_load ti3 rfl rfl (ht rfl)) rfl ?_
            refine RG.op (ok_lss (ht rfl) hI) rfl ?_
            refine RG.op (ok_move (ht rfl)) rfl ?_
            refine RG.opGf rfl rfl rfl rfl (fun hg => ok_fieldAddr fd30_7 rfl flDLNode_7 rfl (ht rfl)) ?_
            refine RG.opGf rfl rfl rfl rfl (fun hg => ok_load ti22 rfl rfl (htO rfl hg)) ?_
            refine RG.opGf rfl rfl rfl rfl (fun hg => ok_move (ht rfl)) ?_
            refine RG.opGf rfl rfl rfl rfl (fun hg => ok_indexAddr Tryz.underlying22 ti3 rfl (htO rfl hg) (htO rfl hg) q_e2) ?_
            refine RG.opGf rfl rfl rfl rfl (fun hg => ok_load ti3 rfl rfl (htO rfl hg)) ?_
            refine RG.opGf rfl rfl rfl rfl (fun hg => ok_move (ht rfl)) ?_
            refine RG.opGf rfl rfl rfl rfl (fun hg => ok_lenSl Tryz.underlying22 (htO rfl hg)) ?_
            refine RG.opGf rfl rfl rfl rfl (fun hg => ok_geq (htO rfl hg) (htO rfl hg)) ?_
            refine RG.op (ok_pickOr (ht rfl) (fun hb => (htO rfl (noti hb)))) rfl ?_
            refine RG.nil ?_
            refine AT.next ?_
            refine CG.cond (ht rfl) (fun hc => ?_) (fun hc => ?_)
            · have h := ct h hc
              refine CG.seq ?_
              refine CG.region ?_
              refine RG.op (ok_assign (show HasTy _ _ _ (tD (rSl (rI .i64)) ([])) from hNil)) rfl ?_
              refine RG.op (ok_assign hB) rfl ?_
              refine RG.nil ?_
              refine AT.next ?_
              refine CG.ret ?_
              refine AT.then_ret (AT.in_ret (AT.then_ret (AT.then_ret (AT.in_ret (AT.then_ret (AT.in_ret (AT.then_ret ?_)))))))
              refine AT.drop ?_
              cases so h
              exact AT.ret2 rfl rfl rfl
            · have h := cf h hc
              refine CG.skip ?_
              refine AT.next ?_
              refine CG.region ?_
              refine RG.op (ok_move (ht rfl)) rfl ?_
              refine RG.op (ok_move (ht rfl)) rfl ?_
              refine RG.op (ok_fieldAddr fd30_7 rfl flDLNode_7 rfl (ht rfl)) rfl ?_
              refine RG.op (ok_load ti22 rfl rfl (ht rfl)) rfl ?_
              refine RG.op (ok_move (ht rfl)) rfl ?_
              refine RG.op (ok_indexAddr Tryz.underlying22 ti3 rfl (ht rfl) (ht rfl) q_e2) rfl ?_
              refine RG.op (ok_load ti3 rfl rfl (ht rfl)) rfl ?_
              obtain ⟨e3, q_e3, h⟩ := bs h
              refine RG.op (ok_indexAddr Tryz.underlying22 ti3 rfl (ht rfl) (ht rfl) q_e3) rfl ?_
              refine RG.op (ok_load ti3 rfl rfl (ht rfl)) rfl ?_
              refine RG.op (ok_buildSlice (r := (rI .i64)) (ys := [e3]) (xs := [.tmp 126]) Tryz.underlying22 ti3 rfl rfl rfl rfl rfl ⟨(ht rfl), trivial⟩) rfl ?_
              obtain ⟨out2, q_out2, h⟩ := bs h
              refine RG.append ti3 rfl rfl rfl rfl Tryz.underlying22 rfl rfl (ht rfl) (ht rfl) q_out2 (fun l4 c3 => ?_)
              refine RG.op (ok_assign (ht rfl)) rfl ?_
              refine RG.nil ?_
              refine AT.in_normal ?_
              refine AT.next ?_
              refine CG.region ?_
              refine RG.op (ok_move (ht rfl)) rfl ?_
              refine RG.op (ok_add (ht rfl) hI) rfl ?_
              refine RG.op (ok_assign (ht rfl)) rfl ?_
              refine RG.nil ?_
              exact AT.round (LG.sub (ih1 out2 l4 c3 (IntKind.i64.wrap (i1 + (1 : Int))) h) ⟨rfl, rfl, rfl, rfl, rfl, trivial⟩)
          · have h := cf h hc
            refine CG.exit ?_
            refine AT.then_exit (AT.then_exit (AT.in_exit ?_))
            refine AT.next ?_
            refine CG.seq ?_
            refine CG.seq ?_
            refine CG.region ?_
            refine RG.op (ok_assign hI) rfl ?_
            refine RG.nil ?_
            refine AT.next ?_
            refine CG.block ?_
            refine CG.loop ?_
            refine LG.sub (LG.ind5 (Z := fun n3 out3 l5 c4 ok1 i2 => ref13_kinds_l3 n a1 n3 out3 ok1 i2 = some R) (Of := fun out3 l5 c4 ok1 i2 => [arr (rI .i64) 3 l5 c4 out3]) (Gf := fun out3 l5 c4 ok1 i2 => [(1, tD (rSl (rI .i64)) a1), (3, tPtr rpDLNode n), (8, tV (oslV l5 c4 out3.length)), (9, tD rB ok1), (12, tD (rI .i64) i2)]) (fun out3 l5 c4 ok1 i2 h => nn h) (fun n3 ih2 out3 l5 c4 ok1 i2 h => ?_) FUEL out1 l3 c2 true (0 : Int) h) ⟨rfl, rfl, rfl, rfl, rfl, trivial⟩
            refine LG.unfold ?_
            refine CG.seq ?_
            refine CG.seq ?_
            refine CG.region ?_
            refine RG.op (ok_move (ht rfl)) rfl ?_
            refine RG.op (ok_fieldAddr fd30_8 rfl flDLNode_8 rfl (ht rfl)) rfl ?_
            refine RG.op (ok_load ti26 rfl rfl (ht rfl)) rfl ?_
            refine RG.op (ok_lenSl Tryz.underlying26 (ht rfl)) rfl ?_
            refine RG.op (ok_lss (ht rfl) (ht rfl)) rfl ?_
            refine RG.nil ?_
            refine AT.next ?_
            refine CG.cond (ht rfl) (fun hc => ?_) (fun hc => ?_)
            · have h := ct h hc
              refine CG.skip ?_
              refine AT.next ?_
              refine CG.seq ?_
              refine CG.block ?_
              refine CG.seq ?_
              refine CG.region ?_
              refine RG.op (ok_fieldAddr fd30_8 rfl flDLNode_8 rfl (ht rfl)) rfl ?_
              refine RG.op (ok_load ti26 rfl rfl (ht rfl)) rfl ?_
              refine RG.op (ok_move (ht rfl)) rfl ?_
              obtain ⟨e4, q_e4, h⟩ := bs h
              refine RG.op (ok_indexAddr Tryz.underlying26 ti61 rfl (ht rfl) (ht rfl) q_e4) rfl ?_
              refine RG.op (ok_load ti61 rfl rfl (ht rfl)) rfl ?_
              refine RG.op (ok_move (ht rfl)) rfl ?_
              obtain ⟨r2, q_r2, h⟩ := bs h
              refine RG.op (ok_call cb119 (f119_ok _ _ q_r2) ⟨(ht rfl), (ht rfl), trivial⟩) rfl ?_
              refine RG.op (ok_move (ht rfl)) rfl ?_
              refine RG.op (ok_extract rfl (ht rfl)) rfl ?_
              refine RG.op (ok_extract rfl (ht rfl)) rfl ?_
              refine RG.op (ok_assign (ht rfl)) rfl ?_
              refine RG.op (ok_assign (ht rfl)) rfl ?_
              refine RG.nil ?_
              refine AT.next ?_
              refine CG.seq ?_
              refine CG.region ?_
              refine RG.op (ok_move (ht rfl)) rfl ?_
              refine RG.op (ok_move (ht rfl)) rfl ?_
              refine RG.op (ok_buildSlice (r := (rI .i64)) (ys := [r2.1]) (xs := [.tmp 147]) Tryz.underlying22 ti3 rfl rfl rfl rfl rfl ⟨(ht rfl), trivial⟩) rfl ?_
              obtain ⟨out4, q_out4, h⟩ := bs h
              refine RG.append ti3 rfl rfl rfl rfl Tryz.underlying22 rfl rfl (ht rfl) (ht rfl) q_out4 (fun l6 c5 => ?_)
              refine RG.op (ok_assign (ht rfl)) rfl ?_
              refine RG.nil ?_
              refine AT.next ?_
              refine CG.region ?_
              refine RG.op (ok_move (ht rfl)) rfl ?_
              refine RG.op (ok_move (ht rfl)) rfl ?_
              refine RG.opGt rfl rfl rfl rfl (fun hg => ok_move (ht rfl)) ?_
              refine RG.op (ok_pickAnd (ht rfl) (fun hb => (htO rfl hb))) rfl ?_
              refine RG.op (ok_assign (ht rfl)) rfl ?_
              refine RG.nil ?_
              refine AT.in_normal ?_
              refine AT.next ?_
              refine CG.region ?_
              refine RG.op (ok_move (ht rfl)) rfl ?_
              refine RG.op (ok_add (ht rfl) hI) rfl ?_
              refine RG.op (ok_assign (ht rfl)) rfl ?_
              refine RG.nil ?_
              exact AT.round (LG.sub (ih2 out4 l6 c5 (ok1 && r2.2) (IntKind.i64.wrap (i2 + (1 : Int))) h) ⟨rfl, rfl, rfl, rfl, rfl, trivial⟩)
            · have h := cf h hc
              refine CG.exit ?_
              refine AT.then_exit (AT.then_exit (AT.in_exit ?_))
              refine AT.next ?_
              refine CG.seq ?_
              refine CG.region ?_
              refine RG.op (ok_move (ht rfl)) rfl ?_
              refine RG.op (ok_move (ht rfl)) rfl ?_
              refine RG.op (ok_move (ht rfl)) rfl ?_
              refine RG.opGt rfl rfl rfl rfl (fun hg => ok_fieldAddr fd30_7 rfl flDLNode_7 rfl (ht rfl)) ?_
              refine RG.opGt rfl rfl rfl rfl (fun hg => ok_load ti22 rfl rfl (htO rfl hg)) ?_
              refine RG.opGt rfl rfl rfl rfl (fun hg => ok_lenSl Tryz.underlying22 (htO rfl hg)) ?_
              refine RG.opGt rfl rfl rfl rfl (fun hg => ok_leq (htO rfl hg) hI) ?_
              refine RG.op (ok_pickAnd (ht rfl) (fun hb => (htO rfl hb))) rfl ?_
              refine RG.op (ok_move (ht rfl)) rfl ?_
              refine RG.opGt rfl rfl rfl rfl (fun hg => ok_fieldAddr fd30_8 rfl flDLNode_8 rfl (ht rfl)) ?_
              refine RG.opGt rfl rfl rfl rfl (fun hg => ok_load ti26 rfl rfl (htO rfl hg)) ?_
              refine RG.opGt rfl rfl rfl rfl (fun hg => ok_lenSl Tryz.underlying26 (htO rfl hg)) ?_
              refine RG.opGt rfl rfl rfl rfl (fun hg => ok_leq (htO rfl hg) hI) ?_
              refine RG.op (ok_pickAnd (ht rfl) (fun hb => (htO rfl hb))) rfl ?_
              refine RG.op (ok_move (ht rfl)) rfl ?_
              refine RG.opGt rfl rfl rfl rfl (fun hg => ok_move (ht rfl)) ?_
              refine RG.opGt rfl rfl rfl rfl (fun hg => ok_lenO Tryz.underlying22 (.head _) (htO rfl hg)) ?_
              refine RG.opGt rfl rfl rfl rfl (fun hg => ok_gtr (htO rfl hg) hI) ?_
              refine RG.op (ok_pickAnd (ht rfl) (fun hb => (htO rfl hb))) rfl ?_
              refine RG.op (ok_assign (ht rfl)) rfl ?_
              refine RG.op (ok_assign (ht rfl)) rfl ?_
              refine RG.nil ?_
              refine AT.next ?_
              refine CG.ret ?_
              refine AT.in_ret (AT.then_ret ?_)
              refine AT.freeze ?_
              refine AT.tipAt 8 rfl ?_
              refine AT.tipAt 154 rfl ?_
              refine AT.tipAt 6 rfl ?_
              refine AT.dataAt 6 rfl ?_
              refine AT.drop ?_
              cases so h
              exact AT.ret2 rfl rfl rfl
        · have h := cf h hc
          refine CG.seq ?_
          refine CG.region ?_
          refine RG.op (ok_eqlI (ht rfl) hI) rfl ?_
          refine RG.op (ok_assign (ht rfl)) rfl ?_
          refine RG.nil ?_
          refine AT.next ?_
          refine CG.cond (ht rfl) (fun hc => ?_) (fun hc => ?_)
          · have h := ct h hc
            refine CG.seq ?_
            refine CG.seq ?_
            refine CG.region ?_
            refine RG.op (ok_assign hI) rfl ?_
            refine RG.nil ?_
            refine AT.next ?_
            refine CG.block ?_
            refine CG.loop ?_
            refine LG.sub (LG.ind5 (Z := fun n4 out5 l7 c6 ok2 i3 => ref13_kinds_l4 n a1 n4 out5 ok2 i3 = some R) (Of := fun out5 l7 c6 ok2 i3 => [arr (rI .i64) 3 l7 c6 out5]) (Gf := fun out5 l7 c6 ok2 i3 => [(1, tD (rSl (rI .i64)) a1), (3, tPtr rpDLNode n), (8, tV (oslV l7 c6 out5.length)), (9, tD rB ok2), (15, tD (rI .i64) i3)]) (fun out5 l7 c6 ok2 i3 h => nn h) (fun n4 ih3 out5 l7 c6 ok2 i3 h => ?_) FUEL ([] : List Int) none 0 true (0 : Int) h) ⟨rfl, rfl, rfl, rfl, rfl, trivial⟩
            refine LG.unfold ?_
            refine CG.seq ?_
            refine CG.seq ?_
            refine CG.region ?_
            refine RG.op (ok_move (ht rfl)) rfl ?_
            refine RG.op (ok_fieldAddr fd30_9 rfl flDLNode_9 rfl (ht rfl)) rfl ?_
            refine RG.op (ok_load ti27 rfl rfl (ht rfl)) rfl ?_
            refine RG.op (ok_lenSl Tryz.underlying27 (ht rfl)) rfl ?_
            refine RG.op (ok_lss (ht rfl) (ht rfl)) rfl ?_
            refine RG.nil ?_
            refine AT.next ?_
            refine CG.cond (ht rfl) (fun hc => ?_) (fun hc => ?_)
            · have h := ct h hc
              refine CG.skip ?_
              refine AT.next ?_
              refine CG.seq ?_
              refine CG.block ?_
              refine CG.seq ?_
              refine CG.region ?_
              refine RG.op (ok_fieldAddr fd30_9 rfl flDLNode_9 rfl (ht rfl)) rfl ?_
              refine RG.op (ok_load ti27 rfl rfl (ht rfl)) rfl ?_
              refine RG.op (ok_move (ht rfl)) rfl ?_
              obtain ⟨e5, q_e5, h⟩ := bs h
              refine RG.op (ok_indexAddr Tryz.underlying27 ti25 rfl (ht rfl) (ht rfl) q_e5) rfl ?_
              refine RG.op (ok_load ti25 rfl rfl (ht rfl)) rfl ?_
              refine RG.op (ok_move (ht rfl)) rfl ?_
              obtain ⟨r3, q_r3, h⟩ := bs h
              refine RG.op (ok_call cb120 (f120_ok _ _ q_r3) ⟨(ht rfl), (ht rfl), trivial⟩) rfl ?_
              refine RG.op (ok_move (ht rfl)) rfl ?_
              refine RG.op (ok_extract rfl (ht rfl)) rfl ?_
              refine RG.op (ok_extract rfl (ht rfl)) rfl ?_
              refine RG.op (ok_assign (ht rfl)) rfl ?_
              refine RG.op (ok_assign (ht rfl)) rfl ?_
              refine RG.nil ?_
              refine AT.next ?_
              refine CG.seq ?_
              refine CG.region ?_
              refine RG.op (ok_move (ht rfl)) rfl ?_
              refine RG.op (ok_move (ht rfl)) rfl ?_
              refine RG.op (ok_buildSlice (r := (rI .i64)) (ys := [r3.1]) (xs := [.tmp 193]) Tryz.underlying22 ti3 rfl rfl rfl rfl rfl ⟨(ht rfl), trivial⟩) rfl ?_
              obtain ⟨out6, q_out6, h⟩ := bs h
              refine RG.append ti3 rfl rfl rfl rfl Tryz.underlying22 rfl rfl (ht rfl) (ht rfl) q_out6 (fun l8 c7 => ?_)
              refine RG.op (ok_assign (ht rfl)) rfl ?_
              refine RG.nil ?_
              refine AT.next ?_
              refine CG.region ?_
              refine RG.op (ok_move (ht rfl)) rfl ?_
              refine RG.op (ok_move (ht rfl)) rfl ?_
              refine RG.opGt rfl rfl rfl rfl (fun hg => ok_move (ht rfl)) ?_
              refine RG.opGt rfl rfl rfl rfl (fun hg => ok_eqlI (htO rfl hg) hI) ?_
              refine RG.op (ok_pickAnd (ht rfl) (fun hb => (htO rfl hb))) rfl ?_
              refine RG.op (ok_assign (ht rfl)) rfl ?_
              refine RG.nil ?_
              refine AT.in_normal ?_
              refine AT.next ?_
              refine CG.region ?_
              refine RG.op (ok_move (ht rfl)) rfl ?_
              refine RG.op (ok_add (ht rfl) hI) rfl ?_
              refine RG.op (ok_assign (ht rfl)) rfl ?_
              refine RG.nil ?_
              exact AT.round (LG.sub (ih3 out6 l8 c7 (ok2 && (r3.2 == (0 : Int))) (IntKind.i64.wrap (i3 + (1 : Int))) h) ⟨rfl, rfl, rfl, rfl, rfl, trivial⟩)
            · have h := cf h hc
              refine CG.exit ?_
              refine AT.then_exit (AT.then_exit (AT.in_exit ?_))
              refine AT.next ?_
              refine CG.seq ?_
              refine CG.region ?_
              refine RG.op (ok_move (ht rfl)) rfl ?_
              refine RG.op (ok_move (ht rfl)) rfl ?_
              refine RG.op (ok_move (ht rfl)) rfl ?_
              refine RG.opGt rfl rfl rfl rfl (fun hg => ok_move (ht rfl)) ?_
              refine RG.opGt rfl rfl rfl rfl (fun hg => ok_lenO Tryz.underlying22 (.head _) (htO rfl hg)) ?_
              refine RG.opGt rfl rfl rfl rfl (fun hg => ok_geq (htO rfl hg) hI) ?_
              refine RG.op (ok_pickAnd (ht rfl) (fun hb => (htO rfl hb))) rfl ?_
              refine RG.op (ok_move (ht rfl)) rfl ?_
              refine RG.opGt rfl rfl rfl rfl (fun hg => ok_move (ht rfl)) ?_
              refine RG.opGt rfl rfl rfl rfl (fun hg => ok_lenO Tryz.underlying22 (.head _) (htO rfl hg)) ?_
              refine RG.opGt rfl rfl rfl rfl (fun hg => ok_leq (htO rfl hg) hI) ?_
              refine RG.op (ok_pickAnd (ht rfl) (fun hb => (htO rfl hb))) rfl ?_
              refine RG.op (ok_assign (ht rfl)) rfl ?_
              refine RG.op (ok_assign (ht rfl)) rfl ?_
              refine RG.nil ?_
              refine AT.next ?_
              refine CG.ret ?_
              refine AT.in_ret (AT.then_ret ?_)
              refine AT.freeze ?_
              refine AT.tipAt 8 rfl ?_
              refine AT.tipAt 201 rfl ?_
              refine AT.tipAt 6 rfl ?_
              refine AT.dataAt 6 rfl ?_
              refine AT.drop ?_
              cases so h
              exact AT.ret2 rfl rfl rfl
          · have h := cf h hc
            refine CG.seq ?_
            refine CG.region ?_
            refine RG.op (ok_eqlI (ht rfl) hI) rfl ?_
            refine RG.op (ok_assign (ht rfl)) rfl ?_
            refine RG.nil ?_
            refine AT.next ?_
            refine CG.cond (ht rfl) (fun hc => ?_) (fun hc => ?_)
            · have h := ct h hc
              refine CG.seq ?_
              refine CG.region ?_
              refine RG.op (ok_move (ht rfl)) rfl ?_
              refine RG.op (ok_assign (ht rfl)) rfl ?_
              refine RG.op (ok_assign hB) rfl ?_
              refine RG.nil ?_
              refine AT.next ?_
              refine CG.ret ?_
              refine AT.in_ret (AT.then_ret ?_)
              refine AT.drop ?_
              cases so h
              exact AT.ret2 rfl rfl rfl
            · have h := cf h hc
              refine CG.seq ?_
              refine CG.region ?_
              refine RG.op (ok_eqlI (ht rfl) hI) rfl ?_
              refine RG.op (ok_assign (ht rfl)) rfl ?_
              refine RG.nil ?_
              refine AT.next ?_
              refine CG.cond (ht rfl) (fun hc => ?_) (fun hc => ?_)
              · have h := ct h hc
                refine CG.seq ?_
                refine CG.seq ?_
                refine CG.region ?_
                refine RG.op (ok_move (ht rfl)) rfl ?_
                refine RG.op (ok_lenSl Tryz.underlying22 (ht rfl)) rfl ?_
                refine RG.op (ok_move (ht rfl)) rfl ?_
                refine RG.op (ok_lenSl Tryz.underlying22 (ht rfl)) rfl ?_
                refine RG.op (ok_neqI (ht rfl) (ht rfl)) rfl ?_
                refine RG.nil ?_
                refine AT.next ?_
                refine CG.cond (ht rfl) (fun hc => ?_) (fun hc => ?_)
                · have h := ct h hc
                  refine CG.seq ?_
                  refine CG.region ?_
                  refine RG.op (ok_assign (show HasTy _ _ _ (tD (rSl (rI .i64)) ([])) from hNil)) rfl ?_
                  refine RG.op (ok_assign hB) rfl ?_
                  refine RG.nil ?_
                  refine AT.next ?_
                  refine CG.ret ?_
                  refine AT.then_ret (AT.in_ret (AT.then_ret ?_))
                  refine AT.drop ?_
                  cases so h
                  exact AT.ret2 rfl rfl rfl
                · have h := cf h hc
                  refine CG.skip ?_
                  refine AT.next ?_
                  refine CG.seq ?_
                  refine CG.seq ?_
                  refine CG.region ?_
                  refine RG.op (ok_assign hI) rfl ?_
                  refine RG.nil ?_
                  refine AT.next ?_
                  refine CG.block ?_
                  refine CG.have_len (k := 1) rfl (fun hN => ?_)
                  refine CG.loop ?_
                  refine LG.sub (LG.list5 (Z := fun ls i4 out7 l9 c8 ok3 => (a1.drop i4 = ls) ∧ ref13_kinds_l5 b ls i4 out7 ok3 = some R) (Of := fun _ i4 out7 l9 c8 ok3 => [arr (rI .i64) 3 l9 c8 out7]) (Gf := fun _ i4 out7 l9 c8 ok3 => [(1, tD (rSl (rI .i64)) a1), (2, tD (rSl (rI .i64)) b), (8, tV (oslV l9 c8 out7.length)), (9, tD rB ok3), (18, tD (rI .i64) (i4 : Int))]) (fun i4 out7 l9 c8 ok3 h => ?_) (fun e6 tl ih4 i4 out7 l9 c8 ok3 h => ?_) a1 0 ([] : List Int) none 0 true ⟨rfl, h⟩) ⟨rfl, rfl, rfl, rfl, rfl, trivial⟩
                  · obtain ⟨hx, h⟩ := h
                    refine LG.unfold ?_
                    refine CG.seq ?_
                    refine CG.seq ?_
                    refine CG.region ?_
                    refine RG.op (ok_move (ht rfl)) rfl ?_
                    refine RG.op (ok_move (ht rfl)) rfl ?_
                    refine RG.op (ok_lenSl Tryz.underlying22 (ht rfl)) rfl ?_
                    refine RG.op (ok_lss (ht rfl) (ht rfl)) rfl ?_
                    refine RG.nil ?_
                    refine AT.next ?_
                    refine CG.condF (ht rfl) (dropF hx) ?_
                    refine CG.exit ?_
                    refine AT.then_exit (AT.then_exit (AT.in_exit ?_))
                    refine AT.next ?_
                    refine CG.seq ?_
                    refine CG.region ?_
                    refine RG.op (ok_move (ht rfl)) rfl ?_
                    refine RG.op (ok_move (ht rfl)) rfl ?_
                    refine RG.op (ok_assign (ht rfl)) rfl ?_
                    refine RG.op (ok_assign (ht rfl)) rfl ?_
                    refine RG.nil ?_
                    refine AT.next ?_
                    refine CG.ret ?_
                    refine AT.in_ret (AT.then_ret ?_)
                    refine AT.freeze ?_
                    refine AT.tipAt 8 rfl ?_
                    refine AT.tipAt 259 rfl ?_
                    refine AT.tipAt 6 rfl ?_
                    refine AT.dataAt 6 rfl ?_
                    refine AT.drop ?_
                    cases so h
                    exact AT.ret2 rfl rfl rfl
                  · obtain ⟨hx, h⟩ := h
                    refine LG.unfold ?_
                    refine CG.seq ?_
                    refine CG.seq ?_
                    refine CG.region ?_
                    refine RG.op (ok_move (ht rfl)) rfl ?_
                    refine RG.op (ok_move (ht rfl)) rfl ?_
                    refine RG.op (ok_lenSl Tryz.underlying22 (ht rfl)) rfl ?_
                    refine RG.op (ok_lss (ht rfl) (ht rfl)) rfl ?_
                    refine RG.nil ?_
                    refine AT.next ?_
                    refine CG.condT (ht rfl) (dropT hx) ?_
                    refine CG.skip ?_
                    refine AT.next ?_
                    refine CG.seq ?_
                    refine CG.block ?_
                    refine CG.seq ?_
                    refine CG.region ?_
                    refine RG.op (ok_move (ht rfl)) rfl ?_
                    refine RG.op (ok_move (ht rfl)) rfl ?_
                    refine RG.op (ok_indexAddr Tryz.underlying22 ti3 rfl (ht rfl) (ht rfl) (dropI hx)) rfl ?_
                    refine RG.op (ok_load ti3 rfl rfl (ht rfl)) rfl ?_
                    refine RG.op (ok_assign (ht rfl)) rfl ?_
                    refine RG.nil ?_
                    refine AT.next ?_
                    refine CG.sjoin1 (Z := fun k => ref13_kinds_k1 b (ref13_kinds_l5 b tl) i4 out7 ok3 k = some R) (Of := fun k => [arr (rI .i64) 3 l9 c8 out7]) (Gf := fun k => [(1, tD (rSl (rI .i64)) a1), (2, tD (rSl (rI .i64)) b), (8, tV (oslV l9 c8 out7.length)), (9, tD rB ok3), (18, tD (rI .i64) (i4 : Int)), (19, tD (rI .i64) k)]) (fun k h => ?_) (fun K => ?_)
                    · skip
                      refine CG.seq ?_
                      refine CG.region ?_
                      refine RG.op (ok_move (ht rfl)) rfl ?_
                      refine RG.op (ok_move (ht rfl)) rfl ?_
                      refine RG.op (ok_buildSlice (r := (rI .i64)) (ys := [k]) (xs := [.tmp 240]) Tryz.underlying22 ti3 rfl rfl rfl rfl rfl ⟨(ht rfl), trivial⟩) rfl ?_
                      obtain ⟨out8, q_out8, h⟩ := bs h
                      refine RG.append ti3 rfl rfl rfl rfl Tryz.underlying22 rfl rfl (ht rfl) (ht rfl) q_out8 (fun l10 c9 => ?_)
                      refine RG.op (ok_assign (ht rfl)) rfl ?_
                      refine RG.nil ?_
                      refine AT.next ?_
                      refine CG.region ?_
                      refine RG.op (ok_move (ht rfl)) rfl ?_
                      refine RG.op (ok_move (ht rfl)) rfl ?_
                      obtain ⟨t2, q_t2, h⟩ := bs h
                      refine RG.opGt rfl rfl rfl rfl (fun hg => ok_move (ht rfl)) ?_
                      refine RG.opGt rfl rfl rfl rfl (fun hg => ok_move (ht rfl)) ?_
                      obtain ⟨e7, h1t2, h0t2⟩ := og q_t2
                      have q_e7g := fun hb => (h1t2 hb).1
                      refine RG.opGt rfl rfl rfl rfl (fun hg => ok_indexAddr Tryz.underlying22 ti3 rfl (htO rfl hg) (htO rfl hg) (q_e7g hg)) ?_
                      refine RG.opGt rfl rfl rfl rfl (fun hg => ok_load ti3 rfl rfl (htO rfl hg)) ?_
                      refine RG.opGt rfl rfl rfl rfl (fun hg => ok_move (ht rfl)) ?_
                      refine RG.opGt rfl rfl rfl rfl (fun hg => ok_eqlI (htO rfl hg) (htO rfl hg)) ?_
                      refine RG.opGt rfl rfl rfl rfl (fun hg => ok_move (htO rfl hg)) ?_
                      obtain ⟨t3, h1t2⟩ := og2 (fun hb => (h1t2 hb).2)
                      have q_t3g := fun hb => (h1t2 hb).1
                      refine RG.opGof rfl rfl rfl rfl (fun hg => ok_move (ht rfl)) ?_
                      refine RG.opGof rfl rfl rfl rfl (fun hg => ok_move (ht rfl)) ?_
                      obtain ⟨e8, h1t3, h0t3⟩ := og3 q_t3g
                      have q_e8g := fun hb => (h1t3 hb).1
                      refine RG.opGof rfl rfl rfl rfl (fun hg => ok_indexAddr Tryz.underlying22 ti3 rfl (htO rfl hg) (htO rfl hg) (q_e8g hg)) ?_
                      refine RG.opGof rfl rfl rfl rfl (fun hg => ok_load ti3 rfl rfl (htO rfl hg)) ?_
                      refine RG.opGof rfl rfl rfl rfl (fun hg => ok_eqlI (htO rfl hg) hI) ?_
                      refine RG.opGt rfl rfl rfl rfl (fun hg => ok_pickOrM (htO rfl hg) (fun hb => (htO rfl (andi hg (noti hb)))) (fun hb => (h1t3 (andi hg hb)).2) (fun hb => h0t3 hg hb)) ?_
                      refine RG.op (ok_pickAndM (ht rfl) (fun hb => (htO rfl hb)) (fun hb => (h1t2 hb).2) h0t2) rfl ?_
                      refine RG.op (ok_assign (ht rfl)) rfl ?_
                      refine RG.nil ?_
                      refine AT.in_normal ?_
                      refine AT.next ?_
                      refine CG.region ?_
                      refine RG.op (ok_move (ht rfl)) rfl ?_
                      refine RG.op (ok_incN (dropL hx hN) (ht rfl) hI) rfl ?_
                      refine RG.op (ok_assign (ht rfl)) rfl ?_
                      refine RG.nil ?_
                      exact AT.round (LG.sub (ih4 (i4 + 1) out8 l10 c9 t2 ⟨dropS hx, h⟩) ⟨rfl, rfl, rfl, rfl, rfl, trivial⟩)
                    · skip
                      refine CG.seq ?_
                      refine CG.region ?_
                      refine RG.op (ok_move (ht rfl)) rfl ?_
                      refine RG.op (ok_eqlI (ht rfl) hI) rfl ?_
                      refine RG.nil ?_
                      refine AT.next ?_
                      refine CG.cond (ht rfl) (fun hc => ?_) (fun hc => ?_)
                      · have h := ct h hc
                        refine CG.region ?_
                        refine RG.op (ok_move (ht rfl)) rfl ?_
                        refine RG.op (ok_move (ht rfl)) rfl ?_
                        obtain ⟨e9, q_e9, h⟩ := bs h
                        refine RG.op (ok_indexAddr Tryz.underlying22 ti3 rfl (ht rfl) (ht rfl) q_e9) rfl ?_
                        refine RG.op (ok_load ti3 rfl rfl (ht rfl)) rfl ?_
                        refine RG.op (ok_assign (ht rfl)) rfl ?_
                        refine RG.nil ?_
                        exact AT.sub (K e9 h) ⟨rfl, rfl, rfl, rfl, rfl, rfl, trivial⟩
                      · have h := cf h hc
                        refine CG.skip ?_
                        exact AT.sub (K e6 h) ⟨rfl, rfl, rfl, rfl, rfl, rfl, trivial⟩
              · have h := cf h hc
                refine CG.skip ?_
                refine AT.in_normal ?_
                refine AT.next ?_
                refine CG.seq ?_
                refine CG.seq ?_
                refine CG.region ?_
                refine RG.op (ok_assign hI) rfl ?_
                refine RG.nil ?_
                refine AT.next ?_
                refine CG.block ?_
                refine CG.loop ?_
                refine LG.drop ?_
                refine LG.sub (LG.ind2 (Z := fun n5 ok4 i5 => ref13_kinds_l6 n a1 n5 ok4 i5 = some R) (Of := fun ok4 i5 => []) (Gf := fun ok4 i5 => [(1, tD (rSl (rI .i64)) a1), (3, tPtr rpDLNode n), (9, tD rB ok4), (20, tD (rI .i64) i5)]) (fun ok4 i5 h => nn h) (fun n5 ih5 ok4 i5 h => ?_) FUEL true (0 : Int) h) ⟨rfl, rfl, rfl, rfl, trivial⟩
                refine LG.unfold ?_
                refine CG.seq ?_
                refine CG.seq ?_
                refine CG.region ?_
                refine RG.op (ok_move (ht rfl)) rfl ?_
                refine RG.op (ok_fieldAddr fd30_10 rfl flDLNode_10 rfl (ht rfl)) rfl ?_
                refine RG.op (ok_load ti28 rfl rfl (ht rfl)) rfl ?_
                refine RG.op (ok_lenSl Tryz.underlying28 (ht rfl)) rfl ?_
                refine RG.op (ok_lss (ht rfl) (ht rfl)) rfl ?_
                refine RG.nil ?_
                refine AT.next ?_
                refine CG.cond (ht rfl) (fun hc => ?_) (fun hc => ?_)
                · have h := ct h hc
                  refine CG.skip ?_
                  refine AT.next ?_
                  refine CG.seq ?_
                  refine CG.block ?_
                  refine CG.region ?_
                  refine RG.op (ok_move (ht rfl)) rfl ?_
                  refine RG.op (ok_move (ht rfl)) rfl ?_
                  obtain ⟨t4, q_t4, h⟩ := bs h
                  refine RG.opGt rfl rfl rfl rfl (fun hg => ok_fieldAddr fd30_10 rfl flDLNode_10 rfl (ht rfl)) ?_
                  refine RG.opGt rfl rfl rfl rfl (fun hg => ok_load ti28 rfl rfl (htO rfl hg)) ?_
                  refine RG.opGt rfl rfl rfl rfl (fun hg => ok_move (ht rfl)) ?_
                  obtain ⟨e10, h1t4, h0t4⟩ := og q_t4
                  have q_e10g := fun hb => (h1t4 hb).1
                  refine RG.opGt rfl rfl rfl rfl (fun hg => ok_indexAddr Tryz.underlying28 ti86 rfl (htO rfl hg) (htO rfl hg) (q_e10g hg)) ?_
                  refine RG.opGt rfl rfl rfl rfl (fun hg => ok_fieldAddr fd86_0 rfl flDOrd_0 rfl (htO rfl hg)) ?_
                  refine RG.opGt rfl rfl rfl rfl (fun hg => ok_load ti3 rfl rfl (htO rfl hg)) ?_
                  refine RG.opGt rfl rfl rfl rfl (fun hg => ok_geq (htO rfl hg) hI) ?_
                  refine RG.op (ok_pickAndM (ht rfl) (fun hb => (htO rfl hb)) (fun hb => (h1t4 hb).2) h0t4) rfl ?_
                  refine RG.op (ok_move (ht rfl)) rfl ?_
                  obtain ⟨t5, q_t5, h⟩ := bs h
                  refine RG.opGt rfl rfl rfl rfl (fun hg => ok_fieldAddr fd30_10 rfl flDLNode_10 rfl (ht rfl)) ?_
                  refine RG.opGt rfl rfl rfl rfl (fun hg => ok_load ti28 rfl rfl (htO rfl hg)) ?_
                  refine RG.opGt rfl rfl rfl rfl (fun hg => ok_move (ht rfl)) ?_
                  obtain ⟨e11, h1t5, h0t5⟩ := og q_t5
                  have q_e11g := fun hb => (h1t5 hb).1
                  refine RG.opGt rfl rfl rfl rfl (fun hg => ok_indexAddr Tryz.underlying28 ti86 rfl (htO rfl hg) (htO rfl hg) (q_e11g hg)) ?_
                  refine RG.opGt rfl rfl rfl rfl (fun hg => ok_fieldAddr fd86_0 rfl flDOrd_0 rfl (htO rfl hg)) ?_
                  refine RG.opGt rfl rfl rfl rfl (fun hg => ok_load ti3 rfl rfl (htO rfl hg)) ?_
                  refine RG.opGt rfl rfl rfl rfl (fun hg => ok_move (ht rfl)) ?_
                  refine RG.opGt rfl rfl rfl rfl (fun hg => ok_lenSl Tryz.underlying22 (htO rfl hg)) ?_
                  refine RG.opGt rfl rfl rfl rfl (fun hg => ok_lss (htO rfl hg) (htO rfl hg)) ?_
                  refine RG.op (ok_pickAndM (ht rfl) (fun hb => (htO rfl hb)) (fun hb => (h1t5 hb).2) h0t5) rfl ?_
                  refine RG.op (ok_assign (ht rfl)) rfl ?_
                  refine RG.nil ?_
                  refine AT.in_normal ?_
                  refine AT.next ?_
                  refine CG.region ?_
                  refine RG.op (ok_move (ht rfl)) rfl ?_
                  refine RG.op (ok_add (ht rfl) hI) rfl ?_
                  refine RG.op (ok_assign (ht rfl)) rfl ?_
                  refine RG.nil ?_
                  exact AT.round (LG.sub (ih5 t5 (IntKind.i64.wrap (i5 + (1 : Int))) h) ⟨rfl, rfl, rfl, rfl, trivial⟩)
                · have h := cf h hc
                  refine CG.exit ?_
                  refine AT.then_exit (AT.then_exit (AT.in_exit ?_))
                  refine AT.next ?_
                  refine CG.seq ?_
                  refine CG.draw (ts := [tD (rSl (rI .i64)) a1, tD rB ok4, tD rB ok4, tOpt ok4 (tPtr (rSl rpDOrd) n.Order), tOpt ok4 (tD (rSl rpDOrd) n.Order), tOpt ok4 (tD (rI .i64) (n.Order.length : Int)), tOpt ok4 (tD rB (decide ((n.Order.length : Int) ≤ (3 : Int)))), tD rB (ok4 && (decide ((n.Order.length : Int) ≤ (3 : Int)))), tD rB (ok4 && (decide ((n.Order.length : Int) ≤ (3 : Int)))), tOpt (ok4 && (decide ((n.Order.length : Int) ≤ (3 : Int)))) (tPtr (rI .i64) n.Limit), tOpt (ok4 && (decide ((n.Order.length : Int) ≤ (3 : Int)))) (tD (rI .i64) n.Limit), tOpt (ok4 && (decide ((n.Order.length : Int) ≤ (3 : Int)))) (tD rB (decide ((-1 : Int) ≤ n.Limit))), tD rB ((ok4 && (decide ((n.Order.length : Int) ≤ (3 : Int)))) && (decide ((-1 : Int) ≤ n.Limit))), tD rB ((ok4 && (decide ((n.Order.length : Int) ≤ (3 : Int)))) && (decide ((-1 : Int) ≤ n.Limit))), tOpt ((ok4 && (decide ((n.Order.length : Int) ≤ (3 : Int)))) && (decide ((-1 : Int) ≤ n.Limit))) (tPtr (rI .i64) n.Limit), tOpt ((ok4 && (decide ((n.Order.length : Int) ≤ (3 : Int)))) && (decide ((-1 : Int) ≤ n.Limit))) (tD (rI .i64) n.Limit), tOpt ((ok4 && (decide ((n.Order.length : Int) ≤ (3 : Int)))) && (decide ((-1 : Int) ≤ n.Limit))) (tD rB (decide (n.Limit ≤ (2147483647 : Int)))), tD rB (((ok4 && (decide ((n.Order.length : Int) ≤ (3 : Int)))) && (decide ((-1 : Int) ≤ n.Limit))) && (decide (n.Limit ≤ (2147483647 : Int)))), tD (rSl (rI .i64)) a1, tD rB (((ok4 && (decide ((n.Order.length : Int) ≤ (3 : Int)))) && (decide ((-1 : Int) ≤ n.Limit))) && (decide (n.Limit ≤ (2147483647 : Int))))]) mixed rfl rfl
                    ⟨⟨[⟨1, _, none⟩], _, rfl, ⟨rfl, trivial⟩, rfl, rfl, OpG.plain rfl (ok_move (ht rfl))⟩,
                    ⟨⟨[⟨9, _, none⟩], _, rfl, ⟨rfl, trivial⟩, rfl, rfl, OpG.plain rfl (ok_move (ht rfl))⟩,
                    ⟨⟨[⟨290, _, some 1⟩], _, rfl, ⟨rfl, trivial⟩, rfl, rfl, OpG.plain rfl (ok_move (ht rfl))⟩,
                    ⟨⟨[⟨3, _, none⟩, ⟨291, _, some 2⟩], _, rfl, ⟨rfl, rfl, trivial⟩, rfl, rfl, OpG.gt rfl rfl rfl rfl (fun hg => ok_fieldAddr fd30_10 rfl flDLNode_10 rfl (ht rfl))⟩,
                    ⟨⟨[⟨292, _, some 3⟩, ⟨291, _, some 2⟩], _, rfl, ⟨rfl, rfl, trivial⟩, rfl, rfl, OpG.gt rfl rfl rfl rfl (fun hg => ok_load ti28 rfl rfl (htO rfl hg))⟩,
                    ⟨⟨[⟨293, _, some 4⟩, ⟨291, _, some 2⟩], _, rfl, ⟨rfl, rfl, trivial⟩, rfl, rfl, OpG.gt rfl rfl rfl rfl (fun hg => ok_lenSl Tryz.underlying28 (htO rfl hg))⟩,
                    ⟨⟨[⟨294, _, some 5⟩, ⟨291, _, some 2⟩], _, rfl, ⟨rfl, rfl, trivial⟩, rfl, rfl, OpG.gt rfl rfl rfl rfl (fun hg => ok_leq (htO rfl hg) hI)⟩,
                    ⟨⟨[⟨291, _, some 2⟩, ⟨295, _, some 6⟩], _, rfl, ⟨rfl, rfl, trivial⟩, rfl, rfl, OpG.plain rfl (ok_pickAnd (ht rfl) (fun hb => (htO rfl hb)))⟩,
                    ⟨⟨[⟨296, _, some 7⟩], _, rfl, ⟨rfl, trivial⟩, rfl, rfl, OpG.plain rfl (ok_move (ht rfl))⟩,
                    ⟨⟨[⟨3, _, none⟩, ⟨297, _, some 8⟩], _, rfl, ⟨rfl, rfl, trivial⟩, rfl, rfl, OpG.gt rfl rfl rfl rfl (fun hg => ok_fieldAddr fd30_11 rfl flDLNode_11 rfl (ht rfl))⟩,
                    ⟨⟨[⟨298, _, some 9⟩, ⟨297, _, some 8⟩], _, rfl, ⟨rfl, rfl, trivial⟩, rfl, rfl, OpG.gt rfl rfl rfl rfl (fun hg => ok_load ti3 rfl rfl (htO rfl hg))⟩,
                    ⟨⟨[⟨299, _, some 10⟩, ⟨297, _, some 8⟩], _, rfl, ⟨rfl, rfl, trivial⟩, rfl, rfl, OpG.gt rfl rfl rfl rfl (fun hg => ok_geq (htO rfl hg) hI)⟩,
                    ⟨⟨[⟨297, _, some 8⟩, ⟨300, _, some 11⟩], _, rfl, ⟨rfl, rfl, trivial⟩, rfl, rfl, OpG.plain rfl (ok_pickAnd (ht rfl) (fun hb => (htO rfl hb)))⟩,
                    ⟨⟨[⟨301, _, some 12⟩], _, rfl, ⟨rfl, trivial⟩, rfl, rfl, OpG.plain rfl (ok_move (ht rfl))⟩,
                    ⟨⟨[⟨3, _, none⟩, ⟨302, _, some 13⟩], _, rfl, ⟨rfl, rfl, trivial⟩, rfl, rfl, OpG.gt rfl rfl rfl rfl (fun hg => ok_fieldAddr fd30_11 rfl flDLNode_11 rfl (ht rfl))⟩,
                    ⟨⟨[⟨303, _, some 14⟩, ⟨302, _, some 13⟩], _, rfl, ⟨rfl, rfl, trivial⟩, rfl, rfl, OpG.gt rfl rfl rfl rfl (fun hg => ok_load ti3 rfl rfl (htO rfl hg))⟩,
                    ⟨⟨[⟨304, _, some 15⟩, ⟨302, _, some 13⟩], _, rfl, ⟨rfl, rfl, trivial⟩, rfl, rfl, OpG.gt rfl rfl rfl rfl (fun hg => ok_leq (htO rfl hg) hI)⟩,
                    ⟨⟨[⟨302, _, some 13⟩, ⟨305, _, some 16⟩], _, rfl, ⟨rfl, rfl, trivial⟩, rfl, rfl, OpG.plain rfl (ok_pickAnd (ht rfl) (fun hb => (htO rfl hb)))⟩,
                    ⟨⟨[⟨289, _, some 0⟩], _, rfl, ⟨rfl, trivial⟩, rfl, rfl, OpG.plain rfl (ok_assign (ht rfl))⟩,
                    ⟨⟨[⟨306, _, some 17⟩], _, rfl, ⟨rfl, trivial⟩, rfl, rfl, OpG.plain rfl (ok_assign (ht rfl))⟩,
                    trivial⟩⟩⟩⟩⟩⟩⟩⟩⟩⟩⟩⟩⟩⟩⟩⟩⟩⟩⟩⟩ ?_
                  refine AT.next ?_
                  refine CG.ret ?_
                  cases so h
                  exact AT.ret2 rfl rfl rfl

end Go.Proofs.YtbhkincjkpeaoaaGreat

