/- Facts of this claim: P10. -/
import Derived.Test.YtbhkincjkpeaoaaGreatTeT
import Derived.Test.YtbhkincjkpeaoaaGreatTeP9
namespace Go.Proofs.YtbhkincjkpeaoaaGreat
open Go

set_option maxRecDepth 100000 in
theorem f63_ok (e : DExpr) {R : Bool} (h : ref10_Safe e = some R) : Spec Tryz.prog 63 [tD rpDExpr e] (tD rB R) := by
  refine Spec.of Tryz.func63 rfl rfl rfl fun w0 S0 => ?_
  refine CG.seq ?_
  refine CG.region ?_
  refine RG.op (ok_box (ht rfl)) rfl ?_
  refine RG.op (ok_assign hB) rfl ?_
  refine RG.nil ?_
  refine AT.next ?_
  refine CG.seq ?_
  refine CG.seq ?_
  refine CG.region ?_
  refine RG.op (ok_fieldAddr fd25_0 rfl flDExpr_0 rfl (ht rfl)) rfl ?_
  refine RG.op (ok_load ti23 rfl rfl (ht rfl)) rfl ?_
  refine RG.op (ok_lenSl Tryz.underlying23 (ht rfl)) rfl ?_
  refine RG.op (ok_move hI) rfl ?_
  refine RG.nil ?_
  refine AT.next ?_
  refine CG.block ?_
  refine CG.have_len (k := 6) rfl (fun hN => ?_)
  refine CG.loop ?_
  refine LG.sub (LG.list1 (Z := fun ls i  => (e.Nodes.drop i = ls) ∧ ref10_Safe_l1 ls  = some R) (Of := fun _ i  => []) (Gf := fun _ i  => [(6, tD (rSl rpDENode) e.Nodes), (7, tD (rI .i64) (e.Nodes.length : Int)), (8, tD (rI .i64) (i : Int))]) (fun i  h => ?_) (fun e1 tl ih i  h => ?_) e.Nodes 0  ⟨rfl, h⟩) ⟨rfl, rfl, rfl, trivial⟩
  · obtain ⟨hx, h⟩ := h
    refine LG.unfold ?_
    refine CG.seq ?_
    refine CG.region ?_
    refine RG.op (ok_lss (ht rfl) (ht rfl)) rfl ?_
    refine RG.nil ?_
    refine AT.next ?_
    refine CG.seq ?_
    refine CG.condF (ht rfl) (dropF hx) ?_
    refine CG.exit ?_
    refine AT.then_exit (AT.then_exit (AT.in_exit ?_))
    refine AT.next ?_
    refine CG.seq ?_
    refine CG.region ?_
    refine RG.op (ok_assign hB) rfl ?_
    refine RG.nil ?_
    refine AT.next ?_
    refine CG.ret ?_
    cases so h
    exact AT.ret1 rfl rfl
  · obtain ⟨hx, h⟩ := h
    refine LG.unfold ?_
    refine CG.seq ?_
    refine CG.region ?_
    refine RG.op (ok_lss (ht rfl) (ht rfl)) rfl ?_
    refine RG.nil ?_
    refine AT.next ?_
    refine CG.seq ?_
    refine CG.condT (ht rfl) (dropT hx) ?_
    refine CG.skip ?_
    refine AT.next ?_
    refine CG.seq ?_
    refine CG.block ?_
    refine CG.seq ?_
    refine CG.region ?_
    refine RG.op (ok_indexAddr Tryz.underlying23 ti83 rfl (ht rfl) (ht rfl) (dropI hx)) rfl ?_
    refine RG.op (ok_load ti83 rfl rfl (ht rfl)) rfl ?_
    refine RG.alloc (r := rpDENode) (x := (⟨(0 : Int), (0 : Int), (0 : Int), (0 : Int), (⟨(0 : Int), (0 : Int), (0 : Int), []⟩ : DValue)⟩ : DENode)) ti83 (fun _ => zrDENode _) rfl (fun b => ?_)
    refine RG.storeB ti83 rfl sfld_whole rfl (ht rfl) (ht rfl) ?_
    refine RG.settleB 4 rfl ?_
    refine RG.nil ?_
    refine AT.next ?_
    refine CG.seq ?_
    refine CG.region ?_
    refine RG.op (ok_fieldAddr fd83_0 rfl flDENode_0 rfl (ht rfl)) rfl ?_
    refine RG.op (ok_load ti3 rfl rfl (ht rfl)) rfl ?_
    refine RG.op (ok_eqlI (ht rfl) hI) rfl ?_
    refine RG.op (ok_move (ht rfl)) rfl ?_
    refine RG.opGf rfl rfl rfl rfl (fun hg => ok_fieldAddr fd83_0 rfl flDENode_0 rfl (ht rfl)) ?_
    refine RG.opGf rfl rfl rfl rfl (fun hg => ok_load ti3 rfl rfl (htO rfl hg)) ?_
    refine RG.opGf rfl rfl rfl rfl (fun hg => ok_geq (htO rfl hg) hI) ?_
    refine RG.opGf rfl rfl rfl rfl (fun hg => ok_move (htO rfl hg)) ?_
    refine RG.opGot rfl rfl rfl rfl (fun hg => ok_fieldAddr fd83_0 rfl flDENode_0 rfl (ht rfl)) ?_
    refine RG.opGot rfl rfl rfl rfl (fun hg => ok_load ti3 rfl rfl (htO rfl hg)) ?_
    refine RG.opGot rfl rfl rfl rfl (fun hg => ok_leq (htO rfl hg) hI) ?_
    refine RG.opGf rfl rfl rfl rfl (fun hg => ok_pickAnd (htO rfl hg) (fun hb => (htO rfl (andi hg hb)))) ?_
    refine RG.op (ok_pickOr (ht rfl) (fun hb => (htO rfl (noti hb)))) rfl ?_
    refine RG.nil ?_
    refine AT.next ?_
    refine CG.cond (ht rfl) (fun hc => ?_) (fun hc => ?_)
    · have h := ct h hc
      refine CG.seq ?_
      refine CG.region ?_
      refine RG.op (ok_assign hB) rfl ?_
      refine RG.nil ?_
      refine AT.next ?_
      refine CG.ret ?_
      refine AT.in_ret (AT.then_ret (AT.then_ret (AT.in_ret (AT.then_ret ?_))))
      cases so h
      exact AT.ret1 rfl rfl
    · have h := cf h hc
      refine CG.skip ?_
      refine AT.in_normal ?_
      refine AT.next ?_
      refine CG.region ?_
      refine RG.op (ok_incN (dropL hx hN) (ht rfl) hI) rfl ?_
      refine RG.op (ok_move (ht rfl)) rfl ?_
      refine RG.nil ?_
      exact AT.round (LG.sub (ih (i + 1)  ⟨dropS hx, h⟩) ⟨rfl, rfl, rfl, trivial⟩)

set_option maxRecDepth 100000 in
theorem f42_ok (e : DExpr) {R : Bool} (h : ref13_unsafe e = some R) : Spec Tryz.prog 42 [tD rpDExpr e] (tD rB R) := by
  refine Spec.of Tryz.func42 rfl rfl rfl fun w0 S0 => ?_
  refine CG.seq ?_
  refine CG.region ?_
  refine RG.op (ok_box (ht rfl)) rfl ?_
  refine RG.op (ok_assign hB) rfl ?_
  refine RG.nil ?_
  refine AT.next ?_
  refine CG.seq ?_
  refine CG.region ?_
  refine RG.op (ok_fieldAddr fd25_0 rfl flDExpr_0 rfl (ht rfl)) rfl ?_
  refine RG.op (ok_load ti23 rfl rfl (ht rfl)) rfl ?_
  refine RG.op (ok_lenSl Tryz.underlying23 (ht rfl)) rfl ?_
  refine RG.op (ok_gtr (ht rfl) hI) rfl ?_
  refine RG.op (ok_move (ht rfl)) rfl ?_
  obtain ⟨t, q_t, h⟩ := bs h
  refine RG.opGt rfl rfl rfl rfl (fun hg => ok_load ti25 rfl rfl (ht rfl)) ?_
  obtain ⟨r, h1t, h0t⟩ := og q_t
  have q_rg := fun hb => (h1t hb).1
  refine RG.opGt rfl rfl rfl rfl (fun hg => ok_call cb63 (f63_ok _ (q_rg hg)) ⟨(htO rfl hg), trivial⟩) ?_
  refine RG.opGt rfl rfl rfl rfl (fun hg => ok_not (htO rfl hg)) ?_
  refine RG.op (ok_pickAndM (ht rfl) (fun hb => (htO rfl hb)) (fun hb => (h1t hb).2) h0t) rfl ?_
  refine RG.op (ok_assign (ht rfl)) rfl ?_
  refine RG.nil ?_
  refine AT.next ?_
  refine CG.ret ?_
  cases so h
  exact AT.ret1 rfl rfl

set_option maxRecDepth 100000 in
theorem f19_ok (l : DLogic) {R : Bool} (h : ref13_Safe l = some R) : Spec Tryz.prog 19 [tD rpDLogic l] (tD rB R) := by
  refine Spec.of Tryz.func19 rfl rfl rfl fun w0 S0 => ?_
  refine CG.seq ?_
  refine CG.region ?_
  refine RG.op (ok_box (ht rfl)) rfl ?_
  refine RG.op (ok_assign hB) rfl ?_
  refine RG.nil ?_
  refine AT.next ?_
  refine CG.seq ?_
  refine CG.seq ?_
  refine CG.region ?_
  refine RG.op (ok_assign hI) rfl ?_
  refine RG.nil ?_
  refine AT.next ?_
  refine CG.block ?_
  refine CG.loop ?_
  refine LG.sub (LG.ind1 (Z := fun n i => ref13_Safe_l1 l n i = some R) (Of := fun i => []) (Gf := fun i => [(1, tPtr rpDLogic l), (3, tD (rI .i64) i)]) (fun i h => nn h) (fun n ih i h => ?_) FUEL (0 : Int) h) ⟨rfl, rfl, trivial⟩
  refine LG.unfold ?_
  refine CG.seq ?_
  refine CG.seq ?_
  refine CG.region ?_
  refine RG.op (ok_move (ht rfl)) rfl ?_
  refine RG.op (ok_fieldAddr fd33_0 rfl flDLogic_0 rfl (ht rfl)) rfl ?_
  refine RG.op (ok_load ti31 rfl rfl (ht rfl)) rfl ?_
  refine RG.op (ok_lenSl Tryz.underlying31 (ht rfl)) rfl ?_
  refine RG.op (ok_lss (ht rfl) (ht rfl)) rfl ?_
  refine RG.nil ?_
  refine AT.next ?_
  refine CG.cond (ht rfl) (fun hc => ?_) (fun hc => ?_)
  · have h := ct h hc
    refine CG.skip ?_
    refine AT.next ?_
    refine CG.seq ?_
    refine CG.block ?_
    refine CG.seq ?_
    refine CG.region ?_
    refine RG.op (ok_fieldAddr fd33_0 rfl flDLogic_0 rfl (ht rfl)) rfl ?_
    refine RG.op (ok_load ti31 rfl rfl (ht rfl)) rfl ?_
    refine RG.op (ok_move (ht rfl)) rfl ?_
    obtain ⟨e, q_e, h⟩ := bs h
    refine RG.op (ok_indexAddr Tryz.underlying31 ti30 rfl (ht rfl) (ht rfl) q_e) rfl ?_
    refine RG.op (ok_load ti30 rfl rfl (ht rfl)) rfl ?_
    refine RG.alloc (r := rpDLNode) (x := (⟨(0 : Int), (0 : Int), (0 : Int), (0 : Int), [], false, (⟨[]⟩ : DExpr), [], [], [], [], (0 : Int)⟩ : DLNode)) ti30 (fun _ => zrDLNode _) rfl (fun b => ?_)
    refine RG.storeB ti30 rfl sfld_whole rfl (ht rfl) (ht rfl) ?_
    refine RG.settleB 4 rfl ?_
    refine RG.nil ?_
    refine AT.next ?_
    refine CG.seq ?_
    refine CG.seq ?_
    refine CG.region ?_
    refine RG.op (ok_fieldAddr fd30_6 rfl flDLNode_6 rfl (ht rfl)) rfl ?_
    refine RG.op (ok_load ti25 rfl rfl (ht rfl)) rfl ?_
    obtain ⟨r, q_r, h⟩ := bs h
    refine RG.op (ok_call cb42 (f42_ok _ q_r) ⟨(ht rfl), trivial⟩) rfl ?_
    refine RG.nil ?_
    refine AT.next ?_
    refine CG.cond (ht rfl) (fun hc => ?_) (fun hc => ?_)
    · have h := ct h hc
      refine CG.seq ?_
      refine CG.region ?_
      refine RG.op (ok_assign hB) rfl ?_
      refine RG.nil ?_
      refine AT.next ?_
      refine CG.ret ?_
      refine AT.then_ret (AT.in_ret (AT.then_ret (AT.then_ret (AT.in_ret (AT.then_ret ?_)))))
      cases so h
      exact AT.ret1 rfl rfl
    · have h := cf h hc
      refine CG.skip ?_
      refine AT.next ?_
      refine CG.seq ?_
      refine CG.seq ?_
      refine CG.region ?_
      refine RG.op (ok_assign hI) rfl ?_
      refine RG.nil ?_
      refine AT.next ?_
      refine CG.block ?_
      refine CG.loop ?_
      refine LG.sub (LG.ind1 (Z := fun n1 k => ref13_Safe_l2 (ref13_Safe_l1 l n) i e n1 k = some R) (Of := fun k => []) (Gf := fun k => [(1, tPtr rpDLogic l), (3, tD (rI .i64) i), (4, tPtr rpDLNode e), (5, tD (rI .i64) k)]) (fun k h => nn h) (fun n1 ih1 k h => ?_) FUEL (0 : Int) h) ⟨rfl, rfl, rfl, rfl, trivial⟩
      refine LG.unfold ?_
      refine CG.seq ?_
      refine CG.seq ?_
      refine CG.region ?_
      refine RG.op (ok_move (ht rfl)) rfl ?_
      refine RG.op (ok_fieldAddr fd30_9 rfl flDLNode_9 rfl (ht rfl)) rfl ?_
      refine RG.op (ok_load ti27 rfl rfl (ht rfl)) rfl ?_
      refine RG.op (ok_lenSl Tryz.underlying27 (ht rfl)) rfl ?_
      refine RG.op (ok_lss (ht rfl) (ht rfl)) rfl ?_
      refine RG.nil ?_
      refine AT.next ?_
      refine CG.cond (ht rfl) (fun hc => ?_) (fun hc => ?_)
      · have h := ct h hc
        refine CG.skip ?_
        refine AT.next ?_
        refine CG.seq ?_
        refine CG.block ?_
        refine CG.seq ?_
        refine CG.region ?_
        refine RG.op (ok_fieldAddr fd30_9 rfl flDLNode_9 rfl (ht rfl)) rfl ?_
        refine RG.op (ok_load ti27 rfl rfl (ht rfl)) rfl ?_
        refine RG.op (ok_move (ht rfl)) rfl ?_
        obtain ⟨e1, q_e1, h⟩ := bs h
        refine RG.op (ok_indexAddr Tryz.underlying27 ti25 rfl (ht rfl) (ht rfl) q_e1) rfl ?_
        refine RG.op (ok_load ti25 rfl rfl (ht rfl)) rfl ?_
        obtain ⟨r1, q_r1, h⟩ := bs h
        refine RG.op (ok_call cb42 (f42_ok _ q_r1) ⟨(ht rfl), trivial⟩) rfl ?_
        refine RG.nil ?_
        refine AT.next ?_
        refine CG.cond (ht rfl) (fun hc => ?_) (fun hc => ?_)
        · have h := ct h hc
          refine CG.seq ?_
          refine CG.region ?_
          refine RG.op (ok_assign hB) rfl ?_
          refine RG.nil ?_
          refine AT.next ?_
          refine CG.ret ?_
          refine AT.in_ret (AT.then_ret (AT.then_ret (AT.in_ret (AT.then_ret (AT.in_ret (AT.then_ret (AT.then_ret (AT.in_ret (AT.then_ret ?_)))))))))
          cases so h
          exact AT.ret1 rfl rfl
        · have h := cf h hc
          refine CG.skip ?_
          refine AT.in_normal ?_
          refine AT.next ?_
          refine CG.region ?_
          refine RG.op (ok_move (ht rfl)) rfl ?_
          refine RG.op (ok_add (ht rfl) hI) rfl ?_
          refine RG.op (ok_assign (ht rfl)) rfl ?_
          refine RG.nil ?_
          exact AT.round (LG.sub (ih1 (IntKind.i64.wrap (k + (1 : Int))) h) ⟨rfl, rfl, rfl, rfl, trivial⟩)
      · have h := cf h hc
        refine CG.exit ?_
        refine AT.then_exit (AT.then_exit (AT.in_exit ?_))
        refine AT.next ?_
        refine CG.seq ?_
        refine CG.region ?_
        refine RG.op (ok_assign hI) rfl ?_
        refine RG.nil ?_
        refine AT.next ?_
        refine CG.block ?_
        refine CG.loop ?_
        refine LG.sub (LG.ind1 (Z := fun n2 k1 => ref13_Safe_l3 (ref13_Safe_l1 l n) i e n2 k1 = some R) (Of := fun k1 => []) (Gf := fun k1 => [(1, tPtr rpDLogic l), (3, tD (rI .i64) i), (4, tPtr rpDLNode e), (6, tD (rI .i64) k1)]) (fun k1 h => nn h) (fun n2 ih2 k1 h => ?_) FUEL (0 : Int) h) ⟨rfl, rfl, rfl, rfl, trivial⟩
        refine LG.unfold ?_
        refine CG.seq ?_
        refine CG.seq ?_
        refine CG.region ?_
        refine RG.op (ok_move (ht rfl)) rfl ?_
        refine RG.op (ok_fieldAddr fd30_8 rfl flDLNode_8 rfl (ht rfl)) rfl ?_
        refine RG.op (ok_load ti26 rfl rfl (ht rfl)) rfl ?_
        refine RG.op (ok_lenSl Tryz.underlying26 (ht rfl)) rfl ?_
        refine RG.op (ok_lss (ht rfl) (ht rfl)) rfl ?_
        refine RG.nil ?_
        refine AT.next ?_
        refine CG.cond (ht rfl) (fun hc => ?_) (fun hc => ?_)
        · have h := ct h hc
          refine CG.skip ?_
          refine AT.next ?_
          refine CG.seq ?_
          refine CG.block ?_
          refine CG.seq ?_
          refine CG.region ?_
          refine RG.op (ok_fieldAddr fd30_8 rfl flDLNode_8 rfl (ht rfl)) rfl ?_
          refine RG.op (ok_load ti26 rfl rfl (ht rfl)) rfl ?_
          refine RG.op (ok_move (ht rfl)) rfl ?_
          obtain ⟨e2, q_e2, h⟩ := bs h
          refine RG.op (ok_indexAddr Tryz.underlying26 ti61 rfl (ht rfl) (ht rfl) q_e2) rfl ?_
          refine RG.op (ok_fieldAddr fd61_0 rfl flDAgg_0 rfl (ht rfl)) rfl ?_
          refine RG.op (ok_load ti3 rfl rfl (ht rfl)) rfl ?_
          refine RG.op (ok_eqlI (ht rfl) hI) rfl ?_
          refine RG.op (ok_move (ht rfl)) rfl ?_
          obtain ⟨t, q_t, h⟩ := bs h
          refine RG.opGf rfl rfl rfl rfl (fun hg => ok_fieldAddr fd30_8 rfl flDLNode_8 rfl (ht rfl)) ?_
          refine RG.opGf rfl rfl rfl rfl (fun hg => ok_load ti26 rfl rfl (htO rfl hg)) ?_
          refine RG.opGf rfl rfl rfl rfl (fun hg => ok_move (ht rfl)) ?_
          refine RG.opGf rfl rfl rfl rfl (fun hg => ok_indexAddr Tryz.underlying26 ti61 rfl (htO rfl hg) (htO rfl hg) q_e2) ?_
          refine RG.opGf rfl rfl rfl rfl (fun hg => ok_fieldAddr fd61_1 rfl flDAgg_1 rfl (htO rfl hg)) ?_
          refine RG.opGf rfl rfl rfl rfl (fun hg => ok_load ti25 rfl rfl (htO rfl hg)) ?_
          obtain ⟨r2, h1t, h0t⟩ := og q_t
          have q_r2g := fun hb => (h1t hb).1
          refine RG.opGf rfl rfl rfl rfl (fun hg => ok_call cb42 (f42_ok _ (q_r2g hg)) ⟨(htO rfl hg), trivial⟩) ?_
          refine RG.op (ok_pickOrM (ht rfl) (fun hb => (htO rfl (noti hb))) (fun hb => (h1t hb).2) h0t) rfl ?_
          refine RG.nil ?_
          refine AT.next ?_
          refine CG.cond (ht rfl) (fun hc => ?_) (fun hc => ?_)
          · have h := ct h hc
            refine CG.seq ?_
            refine CG.region ?_
            refine RG.op (ok_assign hB) rfl ?_
            refine RG.nil ?_
            refine AT.next ?_
            refine CG.ret ?_
            refine AT.in_ret (AT.then_ret (AT.then_ret (AT.in_ret (AT.in_ret (AT.then_ret (AT.then_ret (AT.in_ret (AT.then_ret ?_))))))))
            cases so h
            exact AT.ret1 rfl rfl
          · have h := cf h hc
            refine CG.skip ?_
            refine AT.in_normal ?_
            refine AT.next ?_
            refine CG.region ?_
            refine RG.op (ok_move (ht rfl)) rfl ?_
            refine RG.op (ok_add (ht rfl) hI) rfl ?_
            refine RG.op (ok_assign (ht rfl)) rfl ?_
            refine RG.nil ?_
            exact AT.round (LG.sub (ih2 (IntKind.i64.wrap (k1 + (1 : Int))) h) ⟨rfl, rfl, rfl, rfl, trivial⟩)
        · have h := cf h hc
          refine CG.exit ?_
          refine AT.then_exit (AT.then_exit (AT.in_exit ?_))
          refine AT.in_normal ?_
          refine AT.next ?_
          refine CG.region ?_
          refine RG.op (ok_move (ht rfl)) rfl ?_
          refine RG.op (ok_add (ht rfl) hI) rfl ?_
          refine RG.op (ok_assign (ht rfl)) rfl ?_
          refine RG.nil ?_
          exact AT.round (LG.sub (ih (IntKind.i64.wrap (i + (1 : Int))) h) ⟨rfl, rfl, trivial⟩)
  · have h := cf h hc
    refine CG.exit ?_
    refine AT.then_exit (AT.then_exit (AT.in_exit ?_))
    refine AT.next ?_
    refine CG.seq ?_
    refine CG.region ?_
    refine RG.op (ok_assign hB) rfl ?_
    refine RG.nil ?_
    refine AT.next ?_
    refine CG.ret ?_
    cases so h
    exact AT.ret1 rfl rfl

set_option maxRecDepth 100000 in
theorem f21_own (l : DLogic) {R : (List Int)} (h : ref13_Tables l = some R) : SpecO Tryz.prog 21 [tD rpDLogic l] false (rI .i64) 3 R := by
  refine SpecO.of Tryz.func21 rfl rfl rfl fun w0 S0 => ?_
  refine CG.seq ?_
  refine CG.region ?_
  refine RG.op (ok_box (ht rfl)) rfl ?_
  refine RG.fresh false (rI .i64) 3 ?_
  refine RG.op (ok_assign hVn) rfl ?_
  refine RG.nil ?_
  refine AT.next ?_
  refine CG.seq ?_
  refine CG.region ?_
  refine RG.fresh false (rI .i64) 3 ?_
  refine RG.op (ok_assign hVn) rfl ?_
  refine RG.nil ?_
  refine AT.next ?_
  refine CG.seq ?_
  refine CG.seq ?_
  refine CG.region ?_
  refine RG.op (ok_assign hI) rfl ?_
  refine RG.nil ?_
  refine AT.next ?_
  refine CG.block ?_
  refine CG.loop ?_
  refine LG.front1 ?_
  refine LG.drop ?_
  refine LG.sub (LG.nat4 (Z := fun k i out l1 c => (4 - i = k) ∧ ref13_Tables_l1 l k i out = some R) (Of := fun _ i out l1 c => [arr (rI .i64) 3 l1 c out]) (Gf := fun _ i out l1 c => [(1, tPtr rpDLogic l), (3, tV (oslV l1 c out.length)), (4, tD (rI .i64) (i : Int))]) (fun i out l1 c h => ?_) (fun k1 ih i out l1 c h => ?_) 4 0 ([] : List Int) none 0 ⟨rfl, h⟩) ⟨rfl, rfl, rfl, trivial⟩
  · obtain ⟨hx, h⟩ := h
    refine LG.unfold ?_
    refine CG.seq ?_
    refine CG.seq ?_
    refine CG.region ?_
    refine RG.op (ok_move (ht rfl)) rfl ?_
    refine RG.op (ok_lss (ht rfl) hI) rfl ?_
    refine RG.nil ?_
    refine AT.next ?_
    refine CG.condF (ht rfl) (natF hx) ?_
    refine CG.exit ?_
    refine AT.then_exit (AT.then_exit (AT.in_exit ?_))
    refine AT.next ?_
    refine CG.seq ?_
    refine CG.region ?_
    refine RG.op (ok_move (ht rfl)) rfl ?_
    refine RG.op (ok_assign (ht rfl)) rfl ?_
    refine RG.nil ?_
    refine AT.next ?_
    refine CG.ret ?_
    cases so h
    exact AT.retO rfl rfl
  · obtain ⟨hx, h⟩ := h
    refine LG.unfold ?_
    refine CG.seq ?_
    refine CG.seq ?_
    refine CG.region ?_
    refine RG.op (ok_move (ht rfl)) rfl ?_
    refine RG.op (ok_lss (ht rfl) hI) rfl ?_
    refine RG.nil ?_
    refine AT.next ?_
    refine CG.condT (ht rfl) (natT hx) ?_
    refine CG.skip ?_
    refine AT.next ?_
    refine CG.seq ?_
    refine CG.block ?_
    refine CG.seq ?_
    refine CG.region ?_
    refine RG.op (ok_assign hI) rfl ?_
    refine RG.nil ?_
    refine AT.next ?_
    refine CG.bjoin3 (Z := fun out1 l2 c1 => ref13_Tables_k1 (ref13_Tables_l1 l k1) i out1 = some R) (Of := fun out1 l2 c1 => [arr (rI .i64) 3 l2 c1 out1]) (Gf := fun out1 l2 c1 => [(1, tPtr rpDLogic l), (3, tV (oslV l2 c1 out1.length)), (4, tD (rI .i64) (i : Int))]) (fun out1 l2 c1 h => ?_) (fun K => ?_)
    · skip
      refine AT.in_normal ?_
      refine AT.next ?_
      refine CG.region ?_
      refine RG.op (ok_move (ht rfl)) rfl ?_
      refine RG.op (ok_incN (natL hx (by decide)) (ht rfl) hI) rfl ?_
      refine RG.op (ok_assign (ht rfl)) rfl ?_
      refine RG.nil ?_
      exact AT.round (LG.sub (ih (i + 1) out1 l2 c1 ⟨natS hx, h⟩) ⟨rfl, rfl, rfl, trivial⟩)
    · skip
      refine CG.loop ?_
      refine LG.sub (LG.ind4 (Z := fun n out2 l3 c2 i1 => ref13_Tables_l2 l (ref13_Tables_l1 l k1) i n out2 i1 = some R) (Of := fun out2 l3 c2 i1 => [arr (rI .i64) 3 l3 c2 out2]) (Gf := fun out2 l3 c2 i1 => [(1, tPtr rpDLogic l), (3, tV (oslV l3 c2 out2.length)), (4, tD (rI .i64) (i : Int)), (5, tD (rI .i64) i1)]) (fun out2 l3 c2 i1 h => nn h) (fun n ih1 out2 l3 c2 i1 h => ?_) FUEL out l1 c (0 : Int) h) ⟨rfl, rfl, rfl, rfl, trivial⟩
      refine LG.unfold ?_
      refine CG.seq ?_
      refine CG.seq ?_
      refine CG.region ?_
      refine RG.op (ok_move (ht rfl)) rfl ?_
      refine RG.op (ok_fieldAddr fd33_0 rfl flDLogic_0 rfl (ht rfl)) rfl ?_
      refine RG.op (ok_load ti31 rfl rfl (ht rfl)) rfl ?_
      refine RG.op (ok_lenSl Tryz.underlying31 (ht rfl)) rfl ?_
      refine RG.op (ok_lss (ht rfl) (ht rfl)) rfl ?_
      refine RG.nil ?_
      refine AT.next ?_
      refine CG.cond (ht rfl) (fun hc => ?_) (fun hc => ?_)
      · have h := ct h hc
        refine CG.skip ?_
        refine AT.next ?_
        refine CG.seq ?_
        refine CG.block ?_
        refine CG.seq ?_
        refine CG.region ?_
        refine RG.op (ok_fieldAddr fd33_0 rfl flDLogic_0 rfl (ht rfl)) rfl ?_
        refine RG.op (ok_load ti31 rfl rfl (ht rfl)) rfl ?_
        refine RG.op (ok_move (ht rfl)) rfl ?_
        obtain ⟨e1, q_e1, h⟩ := bs h
        refine RG.op (ok_indexAddr Tryz.underlying31 ti30 rfl (ht rfl) (ht rfl) q_e1) rfl ?_
        refine RG.op (ok_fieldAddr fd30_0 rfl flDLNode_0 rfl (ht rfl)) rfl ?_
        refine RG.op (ok_load ti3 rfl rfl (ht rfl)) rfl ?_
        refine RG.op (ok_eqlI (ht rfl) hI) rfl ?_
        refine RG.op (ok_move (ht rfl)) rfl ?_
        refine RG.opGt rfl rfl rfl rfl (fun hg => ok_fieldAddr fd33_0 rfl flDLogic_0 rfl (ht rfl)) ?_
        refine RG.opGt rfl rfl rfl rfl (fun hg => ok_load ti31 rfl rfl (htO rfl hg)) ?_
        refine RG.opGt rfl rfl rfl rfl (fun hg => ok_move (ht rfl)) ?_
        refine RG.opGt rfl rfl rfl rfl (fun hg => ok_indexAddr Tryz.underlying31 ti30 rfl (htO rfl hg) (htO rfl hg) q_e1) ?_
        refine RG.opGt rfl rfl rfl rfl (fun hg => ok_fieldAddr fd30_3 rfl flDLNode_3 rfl (htO rfl hg)) ?_
        refine RG.opGt rfl rfl rfl rfl (fun hg => ok_load ti3 rfl rfl (htO rfl hg)) ?_
        refine RG.opGt rfl rfl rfl rfl (fun hg => ok_move (ht rfl)) ?_
        refine RG.opGt rfl rfl rfl rfl (fun hg => ok_eqlI (htO rfl hg) (htO rfl hg)) ?_
        refine RG.op (ok_pickAnd (ht rfl) (fun hb => (htO rfl hb))) rfl ?_
        refine RG.nil ?_
        refine AT.next ?_
        refine CG.cond (ht rfl) (fun hc => ?_) (fun hc => ?_)
        · have h := ct h hc
          refine CG.seq ?_
          refine CG.region ?_
          refine RG.op (ok_move (ht rfl)) rfl ?_
          refine RG.op (ok_move (ht rfl)) rfl ?_
          refine RG.op (ok_buildSlice (r := (rI .i64)) (ys := [(i : Int)]) (xs := [.tmp 35]) Tryz.underlying22 ti3 rfl rfl rfl rfl rfl ⟨(ht rfl), trivial⟩) rfl ?_
          obtain ⟨out3, q_out3, h⟩ := bs h
          refine RG.append ti3 rfl rfl rfl rfl Tryz.underlying22 rfl rfl (ht rfl) (ht rfl) q_out3 (fun l4 c3 => ?_)
          refine RG.op (ok_assign (ht rfl)) rfl ?_
          refine RG.nil ?_
          refine AT.next ?_
          refine CG.exit ?_
          refine AT.in_exit_ne rfl (AT.then_exit (AT.then_exit (AT.in_exit ?_)))
          exact AT.sub (K out3 l4 c3 h) ⟨rfl, rfl, rfl, trivial⟩
        · have h := cf h hc
          refine CG.skip ?_
          refine AT.in_normal ?_
          refine AT.next ?_
          refine CG.region ?_
          refine RG.op (ok_move (ht rfl)) rfl ?_
          refine RG.op (ok_add (ht rfl) hI) rfl ?_
          refine RG.op (ok_assign (ht rfl)) rfl ?_
          refine RG.nil ?_
          exact AT.round (LG.sub (ih1 out2 l3 c2 (IntKind.i64.wrap (i1 + (1 : Int))) h) ⟨rfl, rfl, rfl, rfl, trivial⟩)
      · have h := cf h hc
        refine CG.exit ?_
        refine AT.then_exit (AT.then_exit (AT.in_exit ?_))
        exact AT.sub (K out2 l3 c2 h) ⟨rfl, rfl, rfl, trivial⟩
theorem f21_ok (l : DLogic) {R : (List Int)} (h : ref13_Tables l = some R) : Spec Tryz.prog 21 [tD rpDLogic l] (tD (rSl (rI .i64)) R) := (f21_own _ h).spec

set_option maxRecDepth 100000 in
theorem f22_ok (l : DLogic) (at1 : Int) {R : DLogic} (h : ref13_Part l at1 = some R) : Spec Tryz.prog 22 [tD rpDLogic l, tD (rI .i64) at1] (tD rpDLogic R) := by
  refine Spec.of Tryz.func22 rfl rfl rfl fun w0 S0 => ?_
  refine CG.seq ?_
  refine CG.region ?_
  refine RG.op (ok_box (ht rfl)) rfl ?_
  refine RG.alloc (r := rpDLogic) (x := (⟨[]⟩ : DLogic)) ti33 (fun _ => zrDLogic _) rfl (fun b => ?_)
  refine RG.nil ?_
  refine AT.next ?_
  refine CG.seq ?_
  refine CG.region ?_
  refine RG.fresh true rpDLNode 30 ?_
  refine RG.alloc (r := rpOLogic_0) (x := mkOLogic_0 (⟨[]⟩ : DLogic) (oslV none 0 (([] : List DLNode).length))) ti33 zrOLogic_0 rfl (fun b1 => ?_)
  refine RG.nil ?_
  refine AT.next ?_
  refine CG.seq ?_
  refine CG.region ?_
  refine RG.op (ok_move (ht rfl)) rfl ?_
  refine RG.op (ok_load ti33 rfl rfl (ht rfl)) rfl ?_
  refine RG.op (ok_move (ht rfl)) rfl ?_
  obtain ⟨r, q_r, h⟩ := bs h
  refine RG.op (ok_call cb43 (f43_ok _ _ q_r) ⟨(ht rfl), (ht rfl), trivial⟩) rfl ?_
  refine RG.op (ok_sub (ht rfl) (ht rfl)) rfl ?_
  refine RG.op (ok_add (ht rfl) hI) rfl ?_
  refine RG.op (ok_assign (ht rfl)) rfl ?_
  refine RG.nil ?_
  refine AT.next ?_
  refine CG.seq ?_
  refine CG.seq ?_
  refine CG.region ?_
  refine RG.op (ok_move (ht rfl)) rfl ?_
  refine RG.op (ok_assign (ht rfl)) rfl ?_
  refine RG.nil ?_
  refine AT.next ?_
  refine CG.block ?_
  refine CG.loop ?_
  refine LG.front1 ?_
  refine LG.front1 ?_
  refine LG.front2 ?_
  refine LG.sub (LG.ind4 (Z := fun n i out l1 c => ref13_Part_l1 l at1 r n i out = some R) (Of := fun i out l1 c => [bx rpDLogic 33 b (⟨[]⟩ : DLogic), bx rpOLogic_0 33 b1 (mkOLogic_0 out (oslV l1 c out.Nodes.length)), tip rpDLNode 30 l1 c out.Nodes]) (Gf := fun i out l1 c => [(1, tD (rI .i64) at1), (2, tPtr rpDLogic l), (4, tV (bptr b 0)), (5, tV (bptr b1 0)), (6, tD (rI .i64) (IntKind.i64.wrap ((IntKind.i64.wrap (at1 - r)) + (1 : Int)))), (7, tD (rI .i64) i)]) (fun i out l1 c h => nn h) (fun n ih i out l1 c h => ?_) FUEL (IntKind.i64.wrap ((IntKind.i64.wrap (at1 - r)) + (1 : Int))) ({ (⟨[]⟩ : DLogic) with Nodes := ([] : List DLNode) } : DLogic) none 0 h) ⟨rfl, rfl, rfl, rfl, rfl, rfl, trivial⟩
  refine LG.unfold ?_
  refine CG.seq ?_
  refine CG.seq ?_
  refine CG.region ?_
  refine RG.op (ok_move (ht rfl)) rfl ?_
  refine RG.op (ok_move (ht rfl)) rfl ?_
  refine RG.op (ok_leq (ht rfl) (ht rfl)) rfl ?_
  refine RG.nil ?_
  refine AT.next ?_
  refine CG.cond (ht rfl) (fun hc => ?_) (fun hc => ?_)
  · have h := ct h hc
    refine CG.skip ?_
    refine AT.next ?_
    refine CG.seq ?_
    refine CG.block ?_
    obtain ⟨e, q_e, h⟩ := bs h
    obtain ⟨r1, q_r1, h⟩ := bs h
    refine CG.drawM 11 (ts := [tV (bptr b1 0), tO rpDLNode l1 c out.Nodes, tPtr (rSl rpDLNode) l.Nodes, tD (rSl rpDLNode) l.Nodes, tD (rI .i64) i, tPtr rpDLNode e, tD rpDLNode e, tD (rI .i64) (IntKind.i64.wrap ((IntKind.i64.wrap (at1 - r)) + (1 : Int))), tD (rI .i64) (IntKind.i64.wrap (0 - (IntKind.i64.wrap ((IntKind.i64.wrap (at1 - r)) + (1 : Int))))), tD rpDLNode r1, tD (rSl rpDLNode) ([r1])]) mixed rfl rfl rfl
      ⟨⟨[⟨5, _, none⟩], _, rfl, ⟨rfl, trivial⟩, rfl, rfl, OpG.plain rfl (ok_fieldAddrC (n := 0) fd33_0 rfl (ht rfl) rfl)⟩,
      ⟨⟨[⟨20, _, some 0⟩], _, rfl, ⟨rfl, trivial⟩, rfl, rfl, OpG.plain rfl (ok_loadFT ti31 flOLogic_0_0 (.tail _ (.head _)) (.tail _ (.tail _ (.head _))) rfl (ht rfl))⟩,
      ⟨⟨[⟨2, _, none⟩], _, rfl, ⟨rfl, trivial⟩, rfl, rfl, OpG.plain rfl (ok_fieldAddr fd33_0 rfl flDLogic_0 rfl (ht rfl))⟩,
      ⟨⟨[⟨22, _, some 2⟩], _, rfl, ⟨rfl, trivial⟩, rfl, rfl, OpG.plain rfl (ok_load ti31 rfl rfl (ht rfl))⟩,
      ⟨⟨[⟨7, _, none⟩], _, rfl, ⟨rfl, trivial⟩, rfl, rfl, OpG.plain rfl (ok_move (ht rfl))⟩,
      ⟨⟨[⟨23, _, some 3⟩, ⟨24, _, some 4⟩], _, rfl, ⟨rfl, rfl, trivial⟩, rfl, rfl, OpG.plain rfl (ok_indexAddr Tryz.underlying31 ti30 rfl (ht rfl) (ht rfl) q_e)⟩,
      ⟨⟨[⟨25, _, some 5⟩], _, rfl, ⟨rfl, trivial⟩, rfl, rfl, OpG.plain rfl (ok_load ti30 rfl rfl (ht rfl))⟩,
      ⟨⟨[⟨6, _, none⟩], _, rfl, ⟨rfl, trivial⟩, rfl, rfl, OpG.plain rfl (ok_move (ht rfl))⟩,
      ⟨⟨[⟨27, _, some 7⟩], _, rfl, ⟨rfl, trivial⟩, rfl, rfl, OpG.plain rfl (ok_neg (ht rfl))⟩,
      ⟨⟨[⟨26, _, some 6⟩, ⟨28, _, some 8⟩], _, rfl, ⟨rfl, rfl, trivial⟩, rfl, rfl, OpG.plain rfl (ok_call cb30 (f30_ok _ _ q_r1) ⟨(ht rfl), (ht rfl), trivial⟩)⟩,
      ⟨⟨[⟨29, _, some 9⟩], _, rfl, ⟨rfl, trivial⟩, rfl, rfl, OpG.plain rfl (ok_buildSlice (r := rpDLNode) (ys := [r1]) (xs := [.tmp 29]) Tryz.underlying31 ti30 rfl rfl rfl rfl rfl ⟨(ht rfl), trivial⟩)⟩,
      trivial⟩⟩⟩⟩⟩⟩⟩⟩⟩⟩⟩ ?_
    refine RG.front2 ?_
    obtain ⟨l2, q_l2, h⟩ := bs h
    refine RG.appendT ti30 rfl rfl rfl rfl Tryz.underlying31 rfl rfl (ht rfl) (ht rfl) q_l2 (fun l3 c1 => ?_)
    refine RG.op (ok_fieldAddrC (n := 0) fd33_0 rfl (ht rfl) rfl) rfl ?_
    refine RG.front2 ?_
    refine RG.storeFX ti31 rfl (sxOLogic_0_to_0_at_0 _ _ _) rfl (ht rfl) (hRV (tO_v (ht rfl))) ?_
    refine RG.nil ?_
    refine AT.in_normal ?_
    refine AT.next ?_
    refine CG.region ?_
    refine RG.op (ok_move (ht rfl)) rfl ?_
    refine RG.op (ok_add (ht rfl) hI) rfl ?_
    refine RG.op (ok_assign (ht rfl)) rfl ?_
    refine RG.nil ?_
    refine AT.front1 ?_
    refine AT.front1 ?_
    refine AT.front2 ?_
    exact AT.round (LG.sub (ih (IntKind.i64.wrap (i + (1 : Int))) ({ out with Nodes := l2 } : DLogic) l3 c1 h) ⟨rfl, rfl, rfl, rfl, rfl, rfl, trivial⟩)
  · have h := cf h hc
    refine CG.exit ?_
    refine AT.then_exit (AT.then_exit (AT.in_exit ?_))
    refine AT.next ?_
    refine CG.seq ?_
    refine CG.region ?_
    refine RG.front2 ?_
    refine RG.op (ok_loadObj (q := rpDLogic) (y := out) ti33 rfl rfl rfl rfl (.tail _ (.tail _ (.head _))) (fun _ _ _ ho h => cvOLogic_0_to_D (own_tip ho (.head _)) h) (ht rfl)) rfl ?_
    refine RG.front1 ?_
    refine RG.storeB ti33 rfl sfld_whole rfl (ht rfl) (ht rfl) ?_
    refine RG.settleB 4 rfl ?_
    refine RG.nil ?_
    refine AT.next ?_
    refine CG.ret ?_
    refine AT.drop ?_
    refine AT.drop ?_
    cases so h
    exact AT.ret1c rfl ti33 rfl rfl rfl

set_option maxRecDepth 100000 in
theorem f4_ok (l : DLogic) (place : Int) {R : Bool} (h : law13_LogicTells l place = some R) : Spec Tryz.prog 4 [tD rpDLogic l, tD (rI .i64) place] (tD rB R) := by
  refine Spec.of Tryz.func4 rfl rfl rfl fun w0 S0 => ?_
  refine CG.seq ?_
  refine CG.region ?_
  refine RG.op (ok_box (ht rfl)) rfl ?_
  refine RG.op (ok_assign hB) rfl ?_
  refine RG.nil ?_
  refine AT.next ?_
  refine CG.seq ?_
  refine CG.seq ?_
  refine CG.region ?_
  obtain ⟨r, q_r, h⟩ := bs h
  refine RG.op (ok_call cb6 (f6_ok  q_r) trivial) rfl ?_
  refine RG.op (ok_not (ht rfl)) rfl ?_
  refine RG.nil ?_
  refine AT.next ?_
  refine CG.cond (ht rfl) (fun hc => ?_) (fun hc => ?_)
  · have h := ct h hc
    refine CG.seq ?_
    refine CG.region ?_
    refine RG.op (ok_assign hB) rfl ?_
    refine RG.nil ?_
    refine AT.next ?_
    refine CG.ret ?_
    refine AT.then_ret ?_
    cases so h
    exact AT.ret1 rfl rfl
  · have h := cf h hc
    refine CG.skip ?_
    refine AT.next ?_
    refine CG.seq ?_
    refine CG.seq ?_
    refine CG.region ?_
    refine RG.op (ok_load ti33 rfl rfl (ht rfl)) rfl ?_
    obtain ⟨r1, q_r1, h⟩ := bs h
    refine RG.op (ok_call cb8 (f8_ok _ q_r1) ⟨(ht rfl), trivial⟩) rfl ?_
    refine RG.nil ?_
    refine AT.next ?_
    refine CG.cond (ht rfl) (fun hc => ?_) (fun hc => ?_)
    · have h := ct h hc
      refine CG.seq ?_
      refine CG.region ?_
      refine RG.op (ok_assign hB) rfl ?_
      refine RG.nil ?_
      refine AT.next ?_
      refine CG.ret ?_
      refine AT.then_ret ?_
      cases so h
      exact AT.ret1 rfl rfl
    · have h := cf h hc
      refine CG.skip ?_
      refine AT.next ?_
      refine CG.seq ?_
      refine CG.region ?_
      refine RG.op (ok_load ti33 rfl rfl (ht rfl)) rfl ?_
      refine RG.op (ok_move (ht rfl)) rfl ?_
      obtain ⟨r2, q_r2, h⟩ := bs h
      refine RG.op (ok_call cb15 (f15_ok _ _ q_r2) ⟨(ht rfl), (ht rfl), trivial⟩) rfl ?_
      refine RG.op (ok_move (ht rfl)) rfl ?_
      refine RG.op (ok_extract rfl (ht rfl)) rfl ?_
      refine RG.op (ok_extract rfl (ht rfl)) rfl ?_
      refine RG.alloc (r := rpDLogic) (x := (⟨[]⟩ : DLogic)) ti33 (fun _ => zrDLogic _) rfl (fun b => ?_)
      refine RG.storeB ti33 rfl sfld_whole rfl (ht rfl) (ht rfl) ?_
      refine RG.settleB 5 rfl ?_
      refine RG.op (ok_assign (ht rfl)) rfl ?_
      refine RG.nil ?_
      refine AT.next ?_
      refine CG.seq ?_
      obtain ⟨r3, q_r3, h⟩ := bs h
      obtain ⟨r4, q_r4, h⟩ := bs h
      refine CG.draw (ts := [tD rpDLogic l, tD rB r3, tD rpDLogic l, tD (rSl (rI .i64)) r4, tD rB r3, tD (rSl (rI .i64)) r4]) mixed rfl rfl
        ⟨⟨[⟨2, _, none⟩], _, rfl, ⟨rfl, trivial⟩, rfl, rfl, OpG.plain rfl (ok_load ti33 rfl rfl (ht rfl))⟩,
        ⟨⟨[⟨19, _, some 0⟩], _, rfl, ⟨rfl, trivial⟩, rfl, rfl, OpG.plain rfl (ok_call cb16 (f16_ok _ q_r3) ⟨(ht rfl), trivial⟩)⟩,
        ⟨⟨[⟨2, _, none⟩], _, rfl, ⟨rfl, trivial⟩, rfl, rfl, OpG.plain rfl (ok_load ti33 rfl rfl (ht rfl))⟩,
        ⟨⟨[⟨21, _, some 2⟩], _, rfl, ⟨rfl, trivial⟩, rfl, rfl, OpG.plain rfl (ok_call cb17 (f17_ok _ q_r4) ⟨(ht rfl), trivial⟩)⟩,
        ⟨⟨[⟨20, _, some 1⟩], _, rfl, ⟨rfl, trivial⟩, rfl, rfl, OpG.plain rfl (ok_assign (ht rfl))⟩,
        ⟨⟨[⟨22, _, some 3⟩], _, rfl, ⟨rfl, trivial⟩, rfl, rfl, OpG.plain rfl (ok_assign (ht rfl))⟩,
        trivial⟩⟩⟩⟩⟩⟩ ?_
      refine AT.next ?_
      refine CG.seq ?_
      refine CG.seq ?_
      refine CG.region ?_
      refine RG.op (ok_load ti33 rfl rfl (ht rfl)) rfl ?_
      obtain ⟨r5, q_r5, h⟩ := bs h
      refine RG.op (ok_call cb18 (f18_ok _ q_r5) ⟨(ht rfl), trivial⟩) rfl ?_
      refine RG.op (ok_not (ht rfl)) rfl ?_
      refine RG.nil ?_
      refine AT.next ?_
      refine CG.cond (ht rfl) (fun hc => ?_) (fun hc => ?_)
      · have h := ct h hc
        refine CG.seq ?_
        refine CG.region ?_
        refine RG.op (ok_fieldAddr fd33_0 rfl flDLogic_0 rfl (ht rfl)) rfl ?_
        refine RG.op (ok_load ti31 rfl rfl (ht rfl)) rfl ?_
        refine RG.op (ok_lenSl Tryz.underlying31 (ht rfl)) rfl ?_
        refine RG.op (ok_eqlI (ht rfl) hI) rfl ?_
        refine RG.op (ok_move (ht rfl)) rfl ?_
        refine RG.opGt rfl rfl rfl rfl (fun hg => ok_move (ht rfl)) ?_
        refine RG.opGt rfl rfl rfl rfl (fun hg => ok_eqlI (htO rfl hg) hI) ?_
        refine RG.op (ok_pickAnd (ht rfl) (fun hb => (htO rfl hb))) rfl ?_
        refine RG.op (ok_move (ht rfl)) rfl ?_
        refine RG.opGt rfl rfl rfl rfl (fun hg => ok_move (ht rfl)) ?_
        refine RG.opGt rfl rfl rfl rfl (fun hg => ok_not (htO rfl hg)) ?_
        refine RG.op (ok_pickAnd (ht rfl) (fun hb => (htO rfl hb))) rfl ?_
        refine RG.op (ok_move (ht rfl)) rfl ?_
        refine RG.opGt rfl rfl rfl rfl (fun hg => ok_move (ht rfl)) ?_
        refine RG.opGt rfl rfl rfl rfl (fun hg => ok_lenSl Tryz.underlying22 (htO rfl hg)) ?_
        refine RG.opGt rfl rfl rfl rfl (fun hg => ok_eqlI (htO rfl hg) hI) ?_
        refine RG.op (ok_pickAnd (ht rfl) (fun hb => (htO rfl hb))) rfl ?_
        refine RG.op (ok_assign (ht rfl)) rfl ?_
        refine RG.nil ?_
        refine AT.next ?_
        refine CG.ret ?_
        refine AT.then_ret ?_
        cases so h
        exact AT.ret1 rfl rfl
      · have h := cf h hc
        refine CG.skip ?_
        refine AT.next ?_
        refine CG.seq ?_
        refine CG.seq ?_
        refine CG.region ?_
        refine RG.op (ok_move (ht rfl)) rfl ?_
        refine RG.op (ok_load ti33 rfl rfl (ht rfl)) rfl ?_
        obtain ⟨r6, q_r6, h⟩ := bs h
        refine RG.op (ok_call cb19 (f19_ok _ q_r6) ⟨(ht rfl), trivial⟩) rfl ?_
        refine RG.op (ok_neqB Tryz.underlying4 (ht rfl) (ht rfl)) rfl ?_
        refine RG.op (ok_move (ht rfl)) rfl ?_
        obtain ⟨t, q_t, h⟩ := bs h
        refine RG.opGf rfl rfl rfl rfl (fun hg => ok_move (ht rfl)) ?_
        refine RG.opGf rfl rfl rfl rfl (fun hg => ok_load ti33 rfl rfl (ht rfl)) ?_
        obtain ⟨r7, h1t, h0t⟩ := og q_t
        have q_r7g := fun hb => (h1t hb).1
        refine RG.opGf rfl rfl rfl rfl (fun hg => ok_call cb21 (f21_ok _ (q_r7g hg)) ⟨(htO rfl hg), trivial⟩) ?_
        obtain ⟨r8, h1t⟩ := og2 (fun hb => (h1t hb).2)
        have q_r8g := fun hb => (h1t hb).1
        refine RG.opGf rfl rfl rfl rfl (fun hg => ok_call cb20 (f20_ok _ _ (q_r8g hg)) ⟨(htO rfl hg), (htO rfl hg), trivial⟩) ?_
        refine RG.opGf rfl rfl rfl rfl (fun hg => ok_not (htO rfl hg)) ?_
        refine RG.op (ok_pickOrM (ht rfl) (fun hb => (htO rfl (noti hb))) (fun hb => (h1t hb).2) h0t) rfl ?_
        refine RG.nil ?_
        refine AT.next ?_
        refine CG.cond (ht rfl) (fun hc => ?_) (fun hc => ?_)
        · have h := ct h hc
          refine CG.seq ?_
          refine CG.region ?_
          refine RG.op (ok_assign hB) rfl ?_
          refine RG.nil ?_
          refine AT.next ?_
          refine CG.ret ?_
          refine AT.then_ret ?_
          cases so h
          exact AT.ret1 rfl rfl
        · have h := cf h hc
          refine CG.skip ?_
          refine AT.next ?_
          refine CG.seq ?_
          refine CG.seq ?_
          refine CG.region ?_
          refine RG.op (ok_move (ht rfl)) rfl ?_
          refine RG.op (ok_lss (ht rfl) hI) rfl ?_
          refine RG.op (ok_move (ht rfl)) rfl ?_
          refine RG.opGf rfl rfl rfl rfl (fun hg => ok_move (ht rfl)) ?_
          refine RG.opGf rfl rfl rfl rfl (fun hg => ok_fieldAddr fd33_0 rfl flDLogic_0 rfl (ht rfl)) ?_
          refine RG.opGf rfl rfl rfl rfl (fun hg => ok_load ti31 rfl rfl (htO rfl hg)) ?_
          refine RG.opGf rfl rfl rfl rfl (fun hg => ok_lenSl Tryz.underlying31 (htO rfl hg)) ?_
          refine RG.opGf rfl rfl rfl rfl (fun hg => ok_geq (htO rfl hg) (htO rfl hg)) ?_
          refine RG.op (ok_pickOr (ht rfl) (fun hb => (htO rfl (noti hb)))) rfl ?_
          refine RG.nil ?_
          refine AT.next ?_
          refine CG.cond (ht rfl) (fun hc => ?_) (fun hc => ?_)
          · have h := ct h hc
            refine CG.seq ?_
            refine CG.region ?_
            refine RG.op (ok_fieldAddr fd33_0 rfl flDLogic_0 rfl (ht rfl)) rfl ?_
            refine RG.op (ok_load ti31 rfl rfl (ht rfl)) rfl ?_
            refine RG.op (ok_lenSl Tryz.underlying31 (ht rfl)) rfl ?_
            refine RG.op (ok_eqlI (ht rfl) hI) rfl ?_
            refine RG.op (ok_move (ht rfl)) rfl ?_
            refine RG.opGt rfl rfl rfl rfl (fun hg => ok_move (ht rfl)) ?_
            refine RG.opGt rfl rfl rfl rfl (fun hg => ok_eqlI (htO rfl hg) hI) ?_
            refine RG.op (ok_pickAnd (ht rfl) (fun hb => (htO rfl hb))) rfl ?_
            refine RG.op (ok_assign (ht rfl)) rfl ?_
            refine RG.nil ?_
            refine AT.next ?_
            refine CG.ret ?_
            refine AT.then_ret ?_
            cases so h
            exact AT.ret1 rfl rfl
          · have h := cf h hc
            refine CG.skip ?_
            refine AT.next ?_
            refine CG.seq ?_
            obtain ⟨t1, q_t1, h⟩ := bs h
            obtain ⟨r9, h1t1, h0t1⟩ := og q_t1
            have q_r9g := fun hb => (h1t1 hb).1
            obtain ⟨r10, h1t1⟩ := og2 (fun hb => (h1t1 hb).2)
            have q_r10g := fun hb => (h1t1 hb).1
            refine CG.draw (ts := [tD (rI .i64) r2.2, tD rB (r2.2 == (0 : Int)), tD rB (r2.2 == (0 : Int)), tOpt (r2.2 == (0 : Int)) (tD rpDLogic r2.1), tOpt (r2.2 == (0 : Int)) (tD rpDLogic l), tOpt (r2.2 == (0 : Int)) (tD (rI .i64) place), tOpt (r2.2 == (0 : Int)) (tD rpDLogic r9), tOpt (r2.2 == (0 : Int)) (tD rB r10), tD rB t1, tD rB t1]) mixed rfl rfl
              ⟨⟨[⟨6, _, none⟩], _, rfl, ⟨rfl, trivial⟩, rfl, rfl, OpG.plain rfl (ok_move (ht rfl))⟩,
              ⟨⟨[⟨71, _, some 0⟩], _, rfl, ⟨rfl, trivial⟩, rfl, rfl, OpG.plain rfl (ok_eqlI (ht rfl) hI)⟩,
              ⟨⟨[⟨72, _, some 1⟩], _, rfl, ⟨rfl, trivial⟩, rfl, rfl, OpG.plain rfl (ok_move (ht rfl))⟩,
              ⟨⟨[⟨5, _, none⟩, ⟨73, _, some 2⟩], _, rfl, ⟨rfl, rfl, trivial⟩, rfl, rfl, OpG.gt rfl rfl rfl rfl (fun hg => ok_load ti33 rfl rfl (ht rfl))⟩,
              ⟨⟨[⟨2, _, none⟩, ⟨73, _, some 2⟩], _, rfl, ⟨rfl, rfl, trivial⟩, rfl, rfl, OpG.gt rfl rfl rfl rfl (fun hg => ok_load ti33 rfl rfl (ht rfl))⟩,
              ⟨⟨[⟨1, _, none⟩, ⟨73, _, some 2⟩], _, rfl, ⟨rfl, rfl, trivial⟩, rfl, rfl, OpG.gt rfl rfl rfl rfl (fun hg => ok_move (ht rfl))⟩,
              ⟨⟨[⟨75, _, some 4⟩, ⟨76, _, some 5⟩, ⟨73, _, some 2⟩], _, rfl, ⟨rfl, rfl, rfl, trivial⟩, rfl, rfl, OpG.gt rfl rfl rfl rfl (fun hg => ok_call cb22 (f22_ok _ _ (q_r9g hg)) ⟨(htO rfl hg), (htO rfl hg), trivial⟩)⟩,
              ⟨⟨[⟨74, _, some 3⟩, ⟨77, _, some 6⟩, ⟨73, _, some 2⟩], _, rfl, ⟨rfl, rfl, rfl, trivial⟩, rfl, rfl, OpG.gt rfl rfl rfl rfl (fun hg => ok_call cb14 (f14_ok _ _ (q_r10g hg)) ⟨(htO rfl hg), (htO rfl hg), trivial⟩)⟩,
              ⟨⟨[⟨73, _, some 2⟩, ⟨78, _, some 7⟩], _, rfl, ⟨rfl, rfl, trivial⟩, rfl, rfl, OpG.plain rfl (ok_pickAndM (ht rfl) (fun hb => (htO rfl hb)) (fun hb => (h1t1 hb).2) h0t1)⟩,
              ⟨⟨[⟨79, _, some 8⟩], _, rfl, ⟨rfl, trivial⟩, rfl, rfl, OpG.plain rfl (ok_assign (ht rfl))⟩,
              trivial⟩⟩⟩⟩⟩⟩⟩⟩⟩⟩ ?_
            refine AT.next ?_
            refine CG.ret ?_
            cases so h
            exact AT.ret1 rfl rfl

end Go.Proofs.YtbhkincjkpeaoaaGreat

