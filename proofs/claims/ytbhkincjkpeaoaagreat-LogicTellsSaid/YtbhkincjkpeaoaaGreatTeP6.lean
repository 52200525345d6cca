/- Facts of this claim: P6. -/
import Derived.Test.YtbhkincjkpeaoaaGreatTeT
import Derived.Test.YtbhkincjkpeaoaaGreatTeP5
namespace Go.Proofs.YtbhkincjkpeaoaaGreat
open Go

set_option maxRecDepth 100000 in
theorem f96_ok (n : DLNode) {R : Bool} (h : ref13_Own n = some R) : Spec Tryz.prog 96 [tD rpDLNode n] (tD rB R) := by
  refine Spec.of Tryz.func96 rfl rfl rfl fun w0 S0 => ?_
  refine CG.seq ?_
  refine CG.region ?_
  refine RG.op (ok_box (ht rfl)) rfl ?_
  refine RG.op (ok_assign hB) rfl ?_
  refine RG.nil ?_
  refine AT.next ?_
  refine CG.seq ?_
  refine CG.seq ?_
  refine CG.region ?_
  refine RG.op (ok_fieldAddr fd30_0 rfl flDLNode_0 rfl (ht rfl)) rfl ?_
  refine RG.op (ok_load ti3 rfl rfl (ht rfl)) rfl ?_
  refine RG.op (ok_neqI (ht rfl) hI) rfl ?_
  refine RG.op (ok_move (ht rfl)) rfl ?_
  refine RG.opGt rfl rfl rfl rfl (fun hg => ok_fieldAddr fd30_3 rfl flDLNode_3 rfl (ht rfl)) ?_
  refine RG.opGt rfl rfl rfl rfl (fun hg => ok_load ti3 rfl rfl (htO rfl hg)) ?_
  refine RG.opGt rfl rfl rfl rfl (fun hg => ok_neqI (htO rfl hg) hI) ?_
  refine RG.opGt rfl rfl rfl rfl (fun hg => ok_move (htO rfl hg)) ?_
  refine RG.opGof rfl rfl rfl rfl (fun hg => ok_fieldAddr fd30_4 rfl flDLNode_4 rfl (ht rfl)) ?_
  refine RG.opGof rfl rfl rfl rfl (fun hg => ok_load ti22 rfl rfl (htO rfl hg)) ?_
  refine RG.opGof rfl rfl rfl rfl (fun hg => ok_lenSl Tryz.underlying22 (htO rfl hg)) ?_
  refine RG.opGof rfl rfl rfl rfl (fun hg => ok_gtr (htO rfl hg) hI) ?_
  refine RG.opGt rfl rfl rfl rfl (fun hg => ok_pickOr (htO rfl hg) (fun hb => (htO rfl (andi hg (noti hb))))) ?_
  refine RG.op (ok_pickAnd (ht rfl) (fun hb => (htO rfl hb))) rfl ?_
  refine RG.nil ?_
  refine AT.next ?_
  refine CG.cond (ht rfl) (fun hc => ?_) (fun hc => ?_)
  · have h := ct h hc
    refine CG.seq ?_
    refine CG.region ?_
    refine RG.op (ok_assign hB) rfl ?_
    refine RG.nil ?_
    refine AT.next ?_
    refine CG.ret ?_
    refine AT.then_ret ?_
    cases so h
    exact AT.ret1 rfl rfl
  · have h := cf h hc
    refine CG.skip ?_
    refine AT.next ?_
    refine CG.seq ?_
    refine CG.seq ?_
    refine CG.region ?_
    refine RG.op (ok_fieldAddr fd30_0 rfl flDLNode_0 rfl (ht rfl)) rfl ?_
    refine RG.op (ok_load ti3 rfl rfl (ht rfl)) rfl ?_
    refine RG.op (ok_neqI (ht rfl) hI) rfl ?_
    refine RG.op (ok_move (ht rfl)) rfl ?_
    refine RG.opGt rfl rfl rfl rfl (fun hg => ok_fieldAddr fd30_5 rfl flDLNode_5 rfl (ht rfl)) ?_
    refine RG.opGt rfl rfl rfl rfl (fun hg => ok_load ti4 rfl rfl (htO rfl hg)) ?_
    refine RG.op (ok_pickAnd (ht rfl) (fun hb => (htO rfl hb))) rfl ?_
    refine RG.op (ok_move (ht rfl)) rfl ?_
    refine RG.opGf rfl rfl rfl rfl (fun hg => ok_fieldAddr fd30_0 rfl flDLNode_0 rfl (ht rfl)) ?_
    refine RG.opGf rfl rfl rfl rfl (fun hg => ok_load ti3 rfl rfl (htO rfl hg)) ?_
    refine RG.opGf rfl rfl rfl rfl (fun hg => ok_neqI (htO rfl hg) hI) ?_
    refine RG.opGf rfl rfl rfl rfl (fun hg => ok_move (htO rfl hg)) ?_
    refine RG.opGot rfl rfl rfl rfl (fun hg => ok_fieldAddr fd30_0 rfl flDLNode_0 rfl (ht rfl)) ?_
    refine RG.opGot rfl rfl rfl rfl (fun hg => ok_load ti3 rfl rfl (htO rfl hg)) ?_
    refine RG.opGot rfl rfl rfl rfl (fun hg => ok_neqI (htO rfl hg) hI) ?_
    refine RG.opGf rfl rfl rfl rfl (fun hg => ok_pickAnd (htO rfl hg) (fun hb => (htO rfl (andi hg hb)))) ?_
    refine RG.opGf rfl rfl rfl rfl (fun hg => ok_move (htO rfl hg)) ?_
    refine RG.opGot rfl rfl rfl rfl (fun hg => ok_fieldAddr fd30_6 rfl flDLNode_6 rfl (ht rfl)) ?_
    refine RG.opGot rfl rfl rfl rfl (fun hg => ok_fieldAddr fd25_0 rfl flDExpr_0 rfl (htO rfl hg)) ?_
    refine RG.opGot rfl rfl rfl rfl (fun hg => ok_load ti23 rfl rfl (htO rfl hg)) ?_
    refine RG.opGot rfl rfl rfl rfl (fun hg => ok_lenSl Tryz.underlying23 (htO rfl hg)) ?_
    refine RG.opGot rfl rfl rfl rfl (fun hg => ok_gtr (htO rfl hg) hI) ?_
    refine RG.opGf rfl rfl rfl rfl (fun hg => ok_pickAnd (htO rfl hg) (fun hb => (htO rfl (andi hg hb)))) ?_
    refine RG.op (ok_pickOr (ht rfl) (fun hb => (htO rfl (noti hb)))) rfl ?_
    refine RG.nil ?_
    refine AT.next ?_
    refine CG.cond (ht rfl) (fun hc => ?_) (fun hc => ?_)
    · have h := ct h hc
      refine CG.seq ?_
      refine CG.region ?_
      refine RG.op (ok_assign hB) rfl ?_
      refine RG.nil ?_
      refine AT.next ?_
      refine CG.ret ?_
      refine AT.then_ret ?_
      cases so h
      exact AT.ret1 rfl rfl
    · have h := cf h hc
      refine CG.skip ?_
      refine AT.next ?_
      refine CG.seq ?_
      refine CG.seq ?_
      refine CG.region ?_
      refine RG.op (ok_fieldAddr fd30_0 rfl flDLNode_0 rfl (ht rfl)) rfl ?_
      refine RG.op (ok_load ti3 rfl rfl (ht rfl)) rfl ?_
      refine RG.op (ok_neqI (ht rfl) hI) rfl ?_
      refine RG.op (ok_move (ht rfl)) rfl ?_
      refine RG.opGt rfl rfl rfl rfl (fun hg => ok_fieldAddr fd30_7 rfl flDLNode_7 rfl (ht rfl)) ?_
      refine RG.opGt rfl rfl rfl rfl (fun hg => ok_load ti22 rfl rfl (htO rfl hg)) ?_
      refine RG.opGt rfl rfl rfl rfl (fun hg => ok_lenSl Tryz.underlying22 (htO rfl hg)) ?_
      refine RG.opGt rfl rfl rfl rfl (fun hg => ok_gtr (htO rfl hg) hI) ?_
      refine RG.opGt rfl rfl rfl rfl (fun hg => ok_move (htO rfl hg)) ?_
      refine RG.opGof rfl rfl rfl rfl (fun hg => ok_fieldAddr fd30_8 rfl flDLNode_8 rfl (ht rfl)) ?_
      refine RG.opGof rfl rfl rfl rfl (fun hg => ok_load ti26 rfl rfl (htO rfl hg)) ?_
      refine RG.opGof rfl rfl rfl rfl (fun hg => ok_lenSl Tryz.underlying26 (htO rfl hg)) ?_
      refine RG.opGof rfl rfl rfl rfl (fun hg => ok_gtr (htO rfl hg) hI) ?_
      refine RG.opGt rfl rfl rfl rfl (fun hg => ok_pickOr (htO rfl hg) (fun hb => (htO rfl (andi hg (noti hb))))) ?_
      refine RG.op (ok_pickAnd (ht rfl) (fun hb => (htO rfl hb))) rfl ?_
      refine RG.op (ok_move (ht rfl)) rfl ?_
      refine RG.opGf rfl rfl rfl rfl (fun hg => ok_fieldAddr fd30_0 rfl flDLNode_0 rfl (ht rfl)) ?_
      refine RG.opGf rfl rfl rfl rfl (fun hg => ok_load ti3 rfl rfl (htO rfl hg)) ?_
      refine RG.opGf rfl rfl rfl rfl (fun hg => ok_neqI (htO rfl hg) hI) ?_
      refine RG.opGf rfl rfl rfl rfl (fun hg => ok_move (htO rfl hg)) ?_
      refine RG.opGot rfl rfl rfl rfl (fun hg => ok_fieldAddr fd30_9 rfl flDLNode_9 rfl (ht rfl)) ?_
      refine RG.opGot rfl rfl rfl rfl (fun hg => ok_load ti27 rfl rfl (htO rfl hg)) ?_
      refine RG.opGot rfl rfl rfl rfl (fun hg => ok_lenSl Tryz.underlying27 (htO rfl hg)) ?_
      refine RG.opGot rfl rfl rfl rfl (fun hg => ok_gtr (htO rfl hg) hI) ?_
      refine RG.opGf rfl rfl rfl rfl (fun hg => ok_pickAnd (htO rfl hg) (fun hb => (htO rfl (andi hg hb)))) ?_
      refine RG.op (ok_pickOr (ht rfl) (fun hb => (htO rfl (noti hb)))) rfl ?_
      refine RG.nil ?_
      refine AT.next ?_
      refine CG.cond (ht rfl) (fun hc => ?_) (fun hc => ?_)
      · have h := ct h hc
        refine CG.seq ?_
        refine CG.region ?_
        refine RG.op (ok_assign hB) rfl ?_
        refine RG.nil ?_
        refine AT.next ?_
        refine CG.ret ?_
        refine AT.then_ret ?_
        cases so h
        exact AT.ret1 rfl rfl
      · have h := cf h hc
        refine CG.skip ?_
        refine AT.next ?_
        refine CG.seq ?_
        refine CG.region ?_
        refine RG.op (ok_fieldAddr fd30_0 rfl flDLNode_0 rfl (ht rfl)) rfl ?_
        refine RG.op (ok_load ti3 rfl rfl (ht rfl)) rfl ?_
        refine RG.op (ok_eqlI (ht rfl) hI) rfl ?_
        refine RG.op (ok_move (ht rfl)) rfl ?_
        refine RG.opGf rfl rfl rfl rfl (fun hg => ok_fieldAddr fd30_10 rfl flDLNode_10 rfl (ht rfl)) ?_
        refine RG.opGf rfl rfl rfl rfl (fun hg => ok_load ti28 rfl rfl (htO rfl hg)) ?_
        refine RG.opGf rfl rfl rfl rfl (fun hg => ok_lenSl Tryz.underlying28 (htO rfl hg)) ?_
        refine RG.opGf rfl rfl rfl rfl (fun hg => ok_eqlI (htO rfl hg) hI) ?_
        refine RG.opGf rfl rfl rfl rfl (fun hg => ok_move (htO rfl hg)) ?_
        refine RG.opGot rfl rfl rfl rfl (fun hg => ok_fieldAddr fd30_11 rfl flDLNode_11 rfl (ht rfl)) ?_
        refine RG.opGot rfl rfl rfl rfl (fun hg => ok_load ti3 rfl rfl (htO rfl hg)) ?_
        refine RG.opGot rfl rfl rfl rfl (fun hg => ok_eqlI (htO rfl hg) hI) ?_
        refine RG.opGf rfl rfl rfl rfl (fun hg => ok_pickAnd (htO rfl hg) (fun hb => (htO rfl (andi hg hb)))) ?_
        refine RG.op (ok_pickOr (ht rfl) (fun hb => (htO rfl (noti hb)))) rfl ?_
        refine RG.op (ok_assign (ht rfl)) rfl ?_
        refine RG.nil ?_
        refine AT.next ?_
        refine CG.ret ?_
        cases so h
        exact AT.ret1 rfl rfl

set_option maxRecDepth 100000 in
theorem f139_ok (tag : Int) {R : Int} (h : ref08_Parts tag = some R) : Spec Tryz.prog 139 [tD (rI .i64) tag] (tD (rI .i64) R) := by
  refine Spec.of Tryz.func139 rfl rfl rfl fun w0 S0 => ?_
  refine CG.seq ?_
  refine CG.region ?_
  refine RG.op (ok_assign hI) rfl ?_
  refine RG.nil ?_
  refine AT.next ?_
  refine CG.seq ?_
  refine CG.block ?_
  refine CG.seq ?_
  refine CG.region ?_
  refine RG.op (ok_move (ht rfl)) rfl ?_
  refine RG.op (ok_lss (ht rfl) hI) rfl ?_
  refine RG.op (ok_move (ht rfl)) rfl ?_
  refine RG.opGf rfl rfl rfl rfl (fun hg => ok_move (ht rfl)) ?_
  refine RG.opGf rfl rfl rfl rfl (fun hg => ok_gtr (htO rfl hg) hI) ?_
  refine RG.op (ok_pickOr (ht rfl) (fun hb => (htO rfl (noti hb)))) rfl ?_
  refine RG.op (ok_assign (ht rfl)) rfl ?_
  refine RG.nil ?_
  refine AT.next ?_
  refine CG.cond (ht rfl) (fun hc => ?_) (fun hc => ?_)
  · have h := ct h hc
    refine CG.seq ?_
    refine CG.region ?_
    refine RG.op (ok_assign hI) rfl ?_
    refine RG.nil ?_
    refine AT.next ?_
    refine CG.ret ?_
    refine AT.in_ret (AT.then_ret ?_)
    cases so h
    exact AT.ret1 rfl rfl
  · have h := cf h hc
    refine CG.seq ?_
    refine CG.region ?_
    refine RG.op (ok_move (ht rfl)) rfl ?_
    refine RG.op (ok_leq (ht rfl) hI) rfl ?_
    refine RG.op (ok_assign (ht rfl)) rfl ?_
    refine RG.nil ?_
    refine AT.next ?_
    refine CG.cond (ht rfl) (fun hc => ?_) (fun hc => ?_)
    · have h := ct h hc
      refine CG.seq ?_
      refine CG.region ?_
      refine RG.op (ok_assign hI) rfl ?_
      refine RG.nil ?_
      refine AT.next ?_
      refine CG.ret ?_
      refine AT.in_ret (AT.then_ret ?_)
      cases so h
      exact AT.ret1 rfl rfl
    · have h := cf h hc
      refine CG.seq ?_
      refine CG.region ?_
      refine RG.op (ok_move (ht rfl)) rfl ?_
      refine RG.op (ok_leq (ht rfl) hI) rfl ?_
      refine RG.op (ok_assign (ht rfl)) rfl ?_
      refine RG.nil ?_
      refine AT.next ?_
      refine CG.cond (ht rfl) (fun hc => ?_) (fun hc => ?_)
      · have h := ct h hc
        refine CG.seq ?_
        refine CG.region ?_
        refine RG.op (ok_assign hI) rfl ?_
        refine RG.nil ?_
        refine AT.next ?_
        refine CG.ret ?_
        refine AT.in_ret (AT.then_ret ?_)
        cases so h
        exact AT.ret1 rfl rfl
      · have h := cf h hc
        refine CG.skip ?_
        refine AT.in_normal ?_
        refine AT.next ?_
        refine CG.seq ?_
        refine CG.region ?_
        refine RG.op (ok_assign hI) rfl ?_
        refine RG.nil ?_
        refine AT.next ?_
        refine CG.ret ?_
        cases so h
        exact AT.ret1 rfl rfl

set_option maxRecDepth 100000 in
theorem f137_ok (tag : Int) {R : Int} (h : ref10_Parts tag = some R) : Spec Tryz.prog 137 [tD (rI .i64) tag] (tD (rI .i64) R) := by
  refine Spec.of Tryz.func137 rfl rfl rfl fun w0 S0 => ?_
  refine CG.seq ?_
  refine CG.region ?_
  refine RG.op (ok_assign hI) rfl ?_
  refine RG.nil ?_
  refine AT.next ?_
  refine CG.seq ?_
  refine CG.seq ?_
  refine CG.region ?_
  refine RG.op (ok_move (ht rfl)) rfl ?_
  refine RG.op (ok_eqlI (ht rfl) hI) rfl ?_
  refine RG.op (ok_move (ht rfl)) rfl ?_
  refine RG.opGf rfl rfl rfl rfl (fun hg => ok_move (ht rfl)) ?_
  refine RG.opGf rfl rfl rfl rfl (fun hg => ok_geq (htO rfl hg) hI) ?_
  refine RG.opGf rfl rfl rfl rfl (fun hg => ok_move (htO rfl hg)) ?_
  refine RG.opGot rfl rfl rfl rfl (fun hg => ok_move (ht rfl)) ?_
  refine RG.opGot rfl rfl rfl rfl (fun hg => ok_leq (htO rfl hg) hI) ?_
  refine RG.opGf rfl rfl rfl rfl (fun hg => ok_pickAnd (htO rfl hg) (fun hb => (htO rfl (andi hg hb)))) ?_
  refine RG.op (ok_pickOr (ht rfl) (fun hb => (htO rfl (noti hb)))) rfl ?_
  refine RG.nil ?_
  refine AT.next ?_
  refine CG.cond (ht rfl) (fun hc => ?_) (fun hc => ?_)
  · have h := ct h hc
    refine CG.seq ?_
    refine CG.region ?_
    refine RG.op (ok_assign hI) rfl ?_
    refine RG.nil ?_
    refine AT.next ?_
    refine CG.ret ?_
    refine AT.then_ret ?_
    cases so h
    exact AT.ret1 rfl rfl
  · have h := cf h hc
    refine CG.skip ?_
    refine AT.next ?_
    refine CG.seq ?_
    refine CG.region ?_
    refine RG.op (ok_move (ht rfl)) rfl ?_
    obtain ⟨r, q_r, h⟩ := bs h
    refine RG.op (ok_call cb139 (f139_ok _ q_r) ⟨(ht rfl), trivial⟩) rfl ?_
    refine RG.op (ok_assign (ht rfl)) rfl ?_
    refine RG.nil ?_
    refine AT.next ?_
    refine CG.ret ?_
    cases so h
    exact AT.ret1 rfl rfl

set_option maxRecDepth 100000 in
theorem f141_ok (v : DValue) {R : Bool} (h : ref02_Right v = some R) : Spec Tryz.prog 141 [tD rpDValue v] (tD rB R) := by
  refine Spec.of Tryz.func141 rfl rfl rfl fun w0 S0 => ?_
  refine CG.seq ?_
  refine CG.region ?_
  refine RG.op (ok_box (ht rfl)) rfl ?_
  refine RG.op (ok_assign hB) rfl ?_
  refine RG.nil ?_
  refine AT.next ?_
  refine CG.seq ?_
  refine CG.seq ?_
  refine CG.region ?_
  refine RG.op (ok_fieldAddr fd81_0 rfl flDValue_0 rfl (ht rfl)) rfl ?_
  refine RG.op (ok_load ti3 rfl rfl (ht rfl)) rfl ?_
  refine RG.nil ?_
  refine AT.next ?_
  refine CG.block ?_
  refine CG.seq ?_
  refine CG.region ?_
  refine RG.op (ok_eqlI (ht rfl) hI) rfl ?_
  refine RG.op (ok_assign (ht rfl)) rfl ?_
  refine RG.nil ?_
  refine AT.next ?_
  refine CG.cond (ht rfl) (fun hc => ?_) (fun hc => ?_)
  · have h := ct h hc
    refine CG.seq ?_
    refine CG.region ?_
    refine RG.op (ok_load ti81 rfl rfl (ht rfl)) rfl ?_
    refine RG.op (ok_build (y := (⟨(0 : Int), (0 : Int), (0 : Int), []⟩ : DValue)) ti81 fs81 zrDValue (rfl)) rfl ?_
    refine RG.op (ok_eqlD eq81 (ht rfl) (ht rfl)) rfl ?_
    refine RG.op (ok_assign (ht rfl)) rfl ?_
    refine RG.nil ?_
    refine AT.next ?_
    refine CG.ret ?_
    refine AT.in_ret (AT.then_ret ?_)
    cases so h
    exact AT.ret1 rfl rfl
  · have h := cf h hc
    refine CG.seq ?_
    refine CG.region ?_
    refine RG.op (ok_eqlI (ht rfl) hI) rfl ?_
    refine RG.op (ok_assign (ht rfl)) rfl ?_
    refine RG.nil ?_
    refine AT.next ?_
    refine CG.cond (ht rfl) (fun hc => ?_) (fun hc => ?_)
    · have h := ct h hc
      refine CG.seq ?_
      refine CG.region ?_
      refine RG.op (ok_fieldAddr fd81_2 rfl flDValue_2 rfl (ht rfl)) rfl ?_
      refine RG.op (ok_load ti79 rfl rfl (ht rfl)) rfl ?_
      refine RG.op (ok_eqlI (ht rfl) hI) rfl ?_
      refine RG.op (ok_move (ht rfl)) rfl ?_
      refine RG.opGt rfl rfl rfl rfl (fun hg => ok_fieldAddr fd81_3 rfl flDValue_3 rfl (ht rfl)) ?_
      refine RG.opGt rfl rfl rfl rfl (fun hg => ok_load ti9 rfl rfl (htO rfl hg)) ?_
      refine RG.opGt rfl rfl rfl rfl (fun hg => ok_eqlS (htO rfl hg) hS) ?_
      refine RG.op (ok_pickAnd (ht rfl) (fun hb => (htO rfl hb))) rfl ?_
      refine RG.op (ok_move (ht rfl)) rfl ?_
      refine RG.opGt rfl rfl rfl rfl (fun hg => ok_fieldAddr fd81_1 rfl flDValue_1 rfl (ht rfl)) ?_
      refine RG.opGt rfl rfl rfl rfl (fun hg => ok_load ti2 rfl rfl (htO rfl hg)) ?_
      refine RG.opGt rfl rfl rfl rfl (fun hg => ok_eqlI (htO rfl hg) hI) ?_
      refine RG.opGt rfl rfl rfl rfl (fun hg => ok_move (htO rfl hg)) ?_
      refine RG.opGof rfl rfl rfl rfl (fun hg => ok_fieldAddr fd81_1 rfl flDValue_1 rfl (ht rfl)) ?_
      refine RG.opGof rfl rfl rfl rfl (fun hg => ok_load ti2 rfl rfl (htO rfl hg)) ?_
      refine RG.opGof rfl rfl rfl rfl (fun hg => ok_eqlI (htO rfl hg) hI) ?_
      refine RG.opGt rfl rfl rfl rfl (fun hg => ok_pickOr (htO rfl hg) (fun hb => (htO rfl (andi hg (noti hb))))) ?_
      refine RG.op (ok_pickAnd (ht rfl) (fun hb => (htO rfl hb))) rfl ?_
      refine RG.op (ok_assign (ht rfl)) rfl ?_
      refine RG.nil ?_
      refine AT.next ?_
      refine CG.ret ?_
      refine AT.in_ret (AT.then_ret ?_)
      cases so h
      exact AT.ret1 rfl rfl
    · have h := cf h hc
      refine CG.seq ?_
      refine CG.region ?_
      refine RG.op (ok_eqlI (ht rfl) hI) rfl ?_
      refine RG.op (ok_assign (ht rfl)) rfl ?_
      refine RG.nil ?_
      refine AT.next ?_
      refine CG.cond (ht rfl) (fun hc => ?_) (fun hc => ?_)
      · have h := ct h hc
        refine CG.seq ?_
        refine CG.region ?_
        refine RG.op (ok_fieldAddr fd81_2 rfl flDValue_2 rfl (ht rfl)) rfl ?_
        refine RG.op (ok_load ti79 rfl rfl (ht rfl)) rfl ?_
        refine RG.op (ok_eqlI (ht rfl) hI) rfl ?_
        refine RG.op (ok_move (ht rfl)) rfl ?_
        refine RG.opGt rfl rfl rfl rfl (fun hg => ok_fieldAddr fd81_3 rfl flDValue_3 rfl (ht rfl)) ?_
        refine RG.opGt rfl rfl rfl rfl (fun hg => ok_load ti9 rfl rfl (htO rfl hg)) ?_
        refine RG.opGt rfl rfl rfl rfl (fun hg => ok_eqlS (htO rfl hg) hS) ?_
        refine RG.op (ok_pickAnd (ht rfl) (fun hb => (htO rfl hb))) rfl ?_
        refine RG.op (ok_assign (ht rfl)) rfl ?_
        refine RG.nil ?_
        refine AT.next ?_
        refine CG.ret ?_
        refine AT.in_ret (AT.then_ret ?_)
        cases so h
        exact AT.ret1 rfl rfl
      · have h := cf h hc
        refine CG.seq ?_
        refine CG.region ?_
        refine RG.op (ok_eqlI (ht rfl) hI) rfl ?_
        refine RG.op (ok_assign (ht rfl)) rfl ?_
        refine RG.nil ?_
        refine AT.next ?_
        refine CG.cond (ht rfl) (fun hc => ?_) (fun hc => ?_)
        · have h := ct h hc
          refine CG.seq ?_
          refine CG.region ?_
          refine RG.op (ok_fieldAddr fd81_1 rfl flDValue_1 rfl (ht rfl)) rfl ?_
          refine RG.op (ok_load ti2 rfl rfl (ht rfl)) rfl ?_
          refine RG.op (ok_eqlI (ht rfl) hI) rfl ?_
          refine RG.op (ok_move (ht rfl)) rfl ?_
          refine RG.opGt rfl rfl rfl rfl (fun hg => ok_fieldAddr fd81_2 rfl flDValue_2 rfl (ht rfl)) ?_
          refine RG.opGt rfl rfl rfl rfl (fun hg => ok_load ti79 rfl rfl (htO rfl hg)) ?_
          refine RG.opGt rfl rfl rfl rfl (fun hg => ok_eqlI (htO rfl hg) hI) ?_
          refine RG.op (ok_pickAnd (ht rfl) (fun hb => (htO rfl hb))) rfl ?_
          refine RG.op (ok_move (ht rfl)) rfl ?_
          refine RG.opGt rfl rfl rfl rfl (fun hg => ok_fieldAddr fd81_3 rfl flDValue_3 rfl (ht rfl)) ?_
          refine RG.opGt rfl rfl rfl rfl (fun hg => ok_load ti9 rfl rfl (htO rfl hg)) ?_
          refine RG.opGt rfl rfl rfl rfl (fun hg => ok_lenS Tryz.underlying9 (htO rfl hg)) ?_
          refine RG.opGt rfl rfl rfl rfl (fun hg => ok_leq (htO rfl hg) hI) ?_
          refine RG.op (ok_pickAnd (ht rfl) (fun hb => (htO rfl hb))) rfl ?_
          refine RG.op (ok_assign (ht rfl)) rfl ?_
          refine RG.nil ?_
          refine AT.next ?_
          refine CG.ret ?_
          refine AT.in_ret (AT.then_ret ?_)
          cases so h
          exact AT.ret1 rfl rfl
        · have h := cf h hc
          refine CG.skip ?_
          refine AT.in_normal ?_
          refine AT.next ?_
          refine CG.seq ?_
          refine CG.region ?_
          refine RG.op (ok_fieldAddr fd81_0 rfl flDValue_0 rfl (ht rfl)) rfl ?_
          refine RG.op (ok_load ti3 rfl rfl (ht rfl)) rfl ?_
          refine RG.op (ok_eqlI (ht rfl) hI) rfl ?_
          refine RG.op (ok_move (ht rfl)) rfl ?_
          refine RG.opGt rfl rfl rfl rfl (fun hg => ok_fieldAddr fd81_3 rfl flDValue_3 rfl (ht rfl)) ?_
          refine RG.opGt rfl rfl rfl rfl (fun hg => ok_load ti9 rfl rfl (htO rfl hg)) ?_
          refine RG.opGt rfl rfl rfl rfl (fun hg => ok_eqlS (htO rfl hg) hS) ?_
          refine RG.op (ok_pickAnd (ht rfl) (fun hb => (htO rfl hb))) rfl ?_
          refine RG.op (ok_assign (ht rfl)) rfl ?_
          refine RG.nil ?_
          refine AT.next ?_
          refine CG.ret ?_
          cases so h
          exact AT.ret1 rfl rfl

set_option maxRecDepth 100000 in
theorem f140_ok (v : DValue) {R : Bool} (h : ref02_Plain v = some R) : Spec Tryz.prog 140 [tD rpDValue v] (tD rB R) := by
  refine Spec.of Tryz.func140 rfl rfl rfl fun w0 S0 => ?_
  refine CG.seq ?_
  refine CG.region ?_
  refine RG.op (ok_box (ht rfl)) rfl ?_
  refine RG.op (ok_assign hB) rfl ?_
  refine RG.nil ?_
  refine AT.next ?_
  refine CG.seq ?_
  refine CG.region ?_
  refine RG.op (ok_load ti81 rfl rfl (ht rfl)) rfl ?_
  obtain ⟨r, q_r, h⟩ := bs h
  refine RG.op (ok_call cb141 (f141_ok _ q_r) ⟨(ht rfl), trivial⟩) rfl ?_
  refine RG.op (ok_move (ht rfl)) rfl ?_
  refine RG.opGt rfl rfl rfl rfl (fun hg => ok_fieldAddr fd81_0 rfl flDValue_0 rfl (ht rfl)) ?_
  refine RG.opGt rfl rfl rfl rfl (fun hg => ok_load ti3 rfl rfl (htO rfl hg)) ?_
  refine RG.opGt rfl rfl rfl rfl (fun hg => ok_neqI (htO rfl hg) hI) ?_
  refine RG.op (ok_pickAnd (ht rfl) (fun hb => (htO rfl hb))) rfl ?_
  refine RG.op (ok_assign (ht rfl)) rfl ?_
  refine RG.nil ?_
  refine AT.next ?_
  refine CG.ret ?_
  cases so h
  exact AT.ret1 rfl rfl

set_option maxRecDepth 100000 in
theorem f138_ok (n : DENode) {R : Bool} (h : ref10_counts n = some R) : Spec Tryz.prog 138 [tD rpDENode n] (tD rB R) := by
  refine Spec.of Tryz.func138 rfl rfl rfl fun w0 S0 => ?_
  refine CG.seq ?_
  refine CG.region ?_
  refine RG.op (ok_box (ht rfl)) rfl ?_
  refine RG.op (ok_assign hB) rfl ?_
  refine RG.nil ?_
  refine AT.next ?_
  refine CG.seq ?_
  refine CG.seq ?_
  refine CG.region ?_
  refine RG.op (ok_fieldAddr fd83_0 rfl flDENode_0 rfl (ht rfl)) rfl ?_
  refine RG.op (ok_load ti3 rfl rfl (ht rfl)) rfl ?_
  refine RG.nil ?_
  refine AT.next ?_
  refine CG.block ?_
  refine CG.seq ?_
  refine CG.region ?_
  refine RG.op (ok_eqlI (ht rfl) hI) rfl ?_
  refine RG.op (ok_assign (ht rfl)) rfl ?_
  refine RG.nil ?_
  refine AT.next ?_
  refine CG.cond (ht rfl) (fun hc => ?_) (fun hc => ?_)
  · have h := ct h hc
    refine CG.seq ?_
    refine CG.region ?_
    refine RG.op (ok_fieldAddr fd83_4 rfl flDENode_4 rfl (ht rfl)) rfl ?_
    refine RG.op (ok_load ti81 rfl rfl (ht rfl)) rfl ?_
    obtain ⟨r, q_r, h⟩ := bs h
    refine RG.op (ok_call cb140 (f140_ok _ q_r) ⟨(ht rfl), trivial⟩) rfl ?_
    refine RG.op (ok_move (ht rfl)) rfl ?_
    refine RG.opGt rfl rfl rfl rfl (fun hg => ok_fieldAddr fd83_3 rfl flDENode_3 rfl (ht rfl)) ?_
    refine RG.opGt rfl rfl rfl rfl (fun hg => ok_load ti3 rfl rfl (htO rfl hg)) ?_
    refine RG.opGt rfl rfl rfl rfl (fun hg => ok_eqlI (htO rfl hg) hI) ?_
    refine RG.op (ok_pickAnd (ht rfl) (fun hb => (htO rfl hb))) rfl ?_
    refine RG.op (ok_assign (ht rfl)) rfl ?_
    refine RG.nil ?_
    refine AT.next ?_
    refine CG.ret ?_
    refine AT.in_ret (AT.then_ret ?_)
    cases so h
    exact AT.ret1 rfl rfl
  · have h := cf h hc
    refine CG.seq ?_
    refine CG.region ?_
    refine RG.op (ok_eqlI (ht rfl) hI) rfl ?_
    refine RG.op (ok_assign (ht rfl)) rfl ?_
    refine RG.nil ?_
    refine AT.next ?_
    refine CG.cond (ht rfl) (fun hc => ?_) (fun hc => ?_)
    · have h := ct h hc
      refine CG.seq ?_
      refine CG.region ?_
      refine RG.op (ok_fieldAddr fd83_4 rfl flDENode_4 rfl (ht rfl)) rfl ?_
      refine RG.op (ok_load ti81 rfl rfl (ht rfl)) rfl ?_
      refine RG.op (ok_build (y := (⟨(0 : Int), (0 : Int), (0 : Int), []⟩ : DValue)) ti81 fs81 zrDValue (rfl)) rfl ?_
      refine RG.op (ok_eqlD eq81 (ht rfl) (ht rfl)) rfl ?_
      refine RG.op (ok_move (ht rfl)) rfl ?_
      refine RG.opGt rfl rfl rfl rfl (fun hg => ok_fieldAddr fd83_3 rfl flDENode_3 rfl (ht rfl)) ?_
      refine RG.opGt rfl rfl rfl rfl (fun hg => ok_load ti3 rfl rfl (htO rfl hg)) ?_
      refine RG.opGt rfl rfl rfl rfl (fun hg => ok_geq (htO rfl hg) hI) ?_
      refine RG.op (ok_pickAnd (ht rfl) (fun hb => (htO rfl hb))) rfl ?_
      refine RG.op (ok_move (ht rfl)) rfl ?_
      refine RG.opGt rfl rfl rfl rfl (fun hg => ok_fieldAddr fd83_3 rfl flDENode_3 rfl (ht rfl)) ?_
      refine RG.opGt rfl rfl rfl rfl (fun hg => ok_load ti3 rfl rfl (htO rfl hg)) ?_
      refine RG.opGt rfl rfl rfl rfl (fun hg => ok_lss (htO rfl hg) hI) ?_
      refine RG.op (ok_pickAnd (ht rfl) (fun hb => (htO rfl hb))) rfl ?_
      refine RG.op (ok_assign (ht rfl)) rfl ?_
      refine RG.nil ?_
      refine AT.next ?_
      refine CG.ret ?_
      refine AT.in_ret (AT.then_ret ?_)
      cases so h
      exact AT.ret1 rfl rfl
    · have h := cf h hc
      refine CG.skip ?_
      refine AT.in_normal ?_
      refine AT.next ?_
      refine CG.seq ?_
      refine CG.region ?_
      refine RG.op (ok_fieldAddr fd83_4 rfl flDENode_4 rfl (ht rfl)) rfl ?_
      refine RG.op (ok_load ti81 rfl rfl (ht rfl)) rfl ?_
      refine RG.op (ok_build (y := (⟨(0 : Int), (0 : Int), (0 : Int), []⟩ : DValue)) ti81 fs81 zrDValue (rfl)) rfl ?_
      refine RG.op (ok_eqlD eq81 (ht rfl) (ht rfl)) rfl ?_
      refine RG.op (ok_move (ht rfl)) rfl ?_
      refine RG.opGt rfl rfl rfl rfl (fun hg => ok_fieldAddr fd83_3 rfl flDENode_3 rfl (ht rfl)) ?_
      refine RG.opGt rfl rfl rfl rfl (fun hg => ok_load ti3 rfl rfl (htO rfl hg)) ?_
      refine RG.opGt rfl rfl rfl rfl (fun hg => ok_eqlI (htO rfl hg) hI) ?_
      refine RG.op (ok_pickAnd (ht rfl) (fun hb => (htO rfl hb))) rfl ?_
      refine RG.op (ok_assign (ht rfl)) rfl ?_
      refine RG.nil ?_
      refine AT.next ?_
      refine CG.ret ?_
      cases so h
      exact AT.ret1 rfl rfl

set_option maxRecDepth 100000 in
theorem f134_rec : ∀ (fu : Nat) (e : DExpr) (place : Int) {R : Int} (h : ref10_size_f fu e place = some R), Spec Tryz.prog 134 [tD rpDExpr e, tD (rI .i64) place] (tD (rI .i64) R) := by
  intro fu
  induction fu with
  | zero => intro e place R h; exact (nn h).elim
  | succ fu ih =>
    intro e place R h
    refine Spec.of Tryz.func134 rfl rfl rfl fun w0 S0 => ?_
    refine CG.seq ?_
    refine CG.region ?_
    refine RG.op (ok_box (ht rfl)) rfl ?_
    refine RG.op (ok_assign hI) rfl ?_
    refine RG.nil ?_
    refine AT.next ?_
    refine CG.seq ?_
    refine CG.seq ?_
    refine CG.region ?_
    refine RG.op (ok_move (ht rfl)) rfl ?_
    refine RG.op (ok_lss (ht rfl) hI) rfl ?_
    refine RG.op (ok_move (ht rfl)) rfl ?_
    refine RG.opGf rfl rfl rfl rfl (fun hg => ok_move (ht rfl)) ?_
    refine RG.opGf rfl rfl rfl rfl (fun hg => ok_fieldAddr fd25_0 rfl flDExpr_0 rfl (ht rfl)) ?_
    refine RG.opGf rfl rfl rfl rfl (fun hg => ok_load ti23 rfl rfl (htO rfl hg)) ?_
    refine RG.opGf rfl rfl rfl rfl (fun hg => ok_lenSl Tryz.underlying23 (htO rfl hg)) ?_
    refine RG.opGf rfl rfl rfl rfl (fun hg => ok_geq (htO rfl hg) (htO rfl hg)) ?_
    refine RG.op (ok_pickOr (ht rfl) (fun hb => (htO rfl (noti hb)))) rfl ?_
    refine RG.nil ?_
    refine AT.next ?_
    refine CG.cond (ht rfl) (fun hc => ?_) (fun hc => ?_)
    · have h := ct h hc
      refine CG.seq ?_
      refine CG.region ?_
      refine RG.op (ok_assign hI) rfl ?_
      refine RG.nil ?_
      refine AT.next ?_
      refine CG.ret ?_
      refine AT.then_ret ?_
      cases so h
      exact AT.ret1 rfl rfl
    · have h := cf h hc
      refine CG.skip ?_
      refine AT.next ?_
      refine CG.seq ?_
      refine CG.region ?_
      refine RG.op (ok_fieldAddr fd25_0 rfl flDExpr_0 rfl (ht rfl)) rfl ?_
      refine RG.op (ok_load ti23 rfl rfl (ht rfl)) rfl ?_
      refine RG.op (ok_move (ht rfl)) rfl ?_
      obtain ⟨e1, q_e1, h⟩ := bs h
      refine RG.op (ok_indexAddr Tryz.underlying23 ti83 rfl (ht rfl) (ht rfl) q_e1) rfl ?_
      refine RG.op (ok_load ti83 rfl rfl (ht rfl)) rfl ?_
      refine RG.alloc (r := rpDENode) (x := (⟨(0 : Int), (0 : Int), (0 : Int), (0 : Int), (⟨(0 : Int), (0 : Int), (0 : Int), []⟩ : DValue)⟩ : DENode)) ti83 (fun _ => zrDENode _) rfl (fun b => ?_)
      refine RG.storeB ti83 rfl sfld_whole rfl (ht rfl) (ht rfl) ?_
      refine RG.settleB 5 rfl ?_
      refine RG.nil ?_
      refine AT.next ?_
      refine CG.seq ?_
      refine CG.region ?_
      refine RG.op (ok_fieldAddr fd83_0 rfl flDENode_0 rfl (ht rfl)) rfl ?_
      refine RG.op (ok_load ti3 rfl rfl (ht rfl)) rfl ?_
      obtain ⟨r, q_r, h⟩ := bs h
      refine RG.op (ok_call cb137 (f137_ok _ q_r) ⟨(ht rfl), trivial⟩) rfl ?_
      refine RG.op (ok_assign (ht rfl)) rfl ?_
      refine RG.nil ?_
      refine AT.next ?_
      refine CG.seq ?_
      refine CG.seq ?_
      refine CG.region ?_
      refine RG.op (ok_move (ht rfl)) rfl ?_
      refine RG.op (ok_lss (ht rfl) hI) rfl ?_
      refine RG.op (ok_move (ht rfl)) rfl ?_
      obtain ⟨t, q_t, h⟩ := bs h
      refine RG.opGf rfl rfl rfl rfl (fun hg => ok_load ti83 rfl rfl (ht rfl)) ?_
      obtain ⟨r1, h1t, h0t⟩ := og q_t
      have q_r1g := fun hb => (h1t hb).1
      refine RG.opGf rfl rfl rfl rfl (fun hg => ok_call cb138 (f138_ok _ (q_r1g hg)) ⟨(htO rfl hg), trivial⟩) ?_
      refine RG.opGf rfl rfl rfl rfl (fun hg => ok_not (htO rfl hg)) ?_
      refine RG.op (ok_pickOrM (ht rfl) (fun hb => (htO rfl (noti hb))) (fun hb => (h1t hb).2) h0t) rfl ?_
      refine RG.nil ?_
      refine AT.next ?_
      refine CG.cond (ht rfl) (fun hc => ?_) (fun hc => ?_)
      · have h := ct h hc
        refine CG.seq ?_
        refine CG.region ?_
        refine RG.op (ok_assign hI) rfl ?_
        refine RG.nil ?_
        refine AT.next ?_
        refine CG.ret ?_
        refine AT.then_ret ?_
        cases so h
        exact AT.ret1 rfl rfl
      · have h := cf h hc
        refine CG.skip ?_
        refine AT.next ?_
        refine CG.seq ?_
        refine CG.seq ?_
        refine CG.region ?_
        refine RG.op (ok_move (ht rfl)) rfl ?_
        refine RG.op (ok_eqlI (ht rfl) hI) rfl ?_
        refine RG.nil ?_
        refine AT.next ?_
        refine CG.cond (ht rfl) (fun hc => ?_) (fun hc => ?_)
        · have h := ct h hc
          refine CG.seq ?_
          refine CG.seq ?_
          refine CG.region ?_
          refine RG.op (ok_fieldAddr fd83_1 rfl flDENode_1 rfl (ht rfl)) rfl ?_
          refine RG.op (ok_load ti3 rfl rfl (ht rfl)) rfl ?_
          refine RG.op (ok_neqI (ht rfl) hI) rfl ?_
          refine RG.op (ok_move (ht rfl)) rfl ?_
          refine RG.opGf rfl rfl rfl rfl (fun hg => ok_fieldAddr fd83_2 rfl flDENode_2 rfl (ht rfl)) ?_
          refine RG.opGf rfl rfl rfl rfl (fun hg => ok_load ti3 rfl rfl (htO rfl hg)) ?_
          refine RG.opGf rfl rfl rfl rfl (fun hg => ok_neqI (htO rfl hg) hI) ?_
          refine RG.op (ok_pickOr (ht rfl) (fun hb => (htO rfl (noti hb)))) rfl ?_
          refine RG.nil ?_
          refine AT.next ?_
          refine CG.cond (ht rfl) (fun hc => ?_) (fun hc => ?_)
          · have h := ct h hc
            refine CG.seq ?_
            refine CG.region ?_
            refine RG.op (ok_assign hI) rfl ?_
            refine RG.nil ?_
            refine AT.next ?_
            refine CG.ret ?_
            refine AT.then_ret (AT.then_ret ?_)
            cases so h
            exact AT.ret1 rfl rfl
          · have h := cf h hc
            refine CG.skip ?_
            refine AT.next ?_
            refine CG.seq ?_
            refine CG.region ?_
            refine RG.op (ok_assign hI) rfl ?_
            refine RG.nil ?_
            refine AT.next ?_
            refine CG.ret ?_
            refine AT.then_ret ?_
            cases so h
            exact AT.ret1 rfl rfl
        · have h := cf h hc
          refine CG.skip ?_
          refine AT.next ?_
          refine CG.seq ?_
          refine CG.region ?_
          refine RG.op (ok_load ti25 rfl rfl (ht rfl)) rfl ?_
          refine RG.op (ok_move (ht rfl)) rfl ?_
          refine RG.op (ok_sub (ht rfl) hI) rfl ?_
          obtain ⟨r2, q_r2, h⟩ := bs h
          refine RG.op (ok_call cb134 (ih _ _ q_r2) ⟨(ht rfl), (ht rfl), trivial⟩) rfl ?_
          refine RG.op (ok_assign (ht rfl)) rfl ?_
          refine RG.nil ?_
          refine AT.next ?_
          refine CG.seq ?_
          refine CG.seq ?_
          refine CG.region ?_
          refine RG.op (ok_move (ht rfl)) rfl ?_
          refine RG.op (ok_eqlI (ht rfl) hI) rfl ?_
          refine RG.nil ?_
          refine AT.next ?_
          refine CG.cond (ht rfl) (fun hc => ?_) (fun hc => ?_)
          · have h := ct h hc
            refine CG.seq ?_
            refine CG.region ?_
            refine RG.op (ok_assign hI) rfl ?_
            refine RG.nil ?_
            refine AT.next ?_
            refine CG.ret ?_
            refine AT.then_ret ?_
            cases so h
            exact AT.ret1 rfl rfl
          · have h := cf h hc
            refine CG.skip ?_
            refine AT.next ?_
            refine CG.seq ?_
            refine CG.seq ?_
            refine CG.region ?_
            refine RG.op (ok_move (ht rfl)) rfl ?_
            refine RG.op (ok_eqlI (ht rfl) hI) rfl ?_
            refine RG.nil ?_
            refine AT.next ?_
            refine CG.cond (ht rfl) (fun hc => ?_) (fun hc => ?_)
            · have h := ct h hc
              refine CG.seq ?_
              refine CG.seq ?_
              refine CG.region ?_
              refine RG.op (ok_fieldAddr fd83_1 rfl flDENode_1 rfl (ht rfl)) rfl ?_
              refine RG.op (ok_load ti3 rfl rfl (ht rfl)) rfl ?_
              refine RG.op (ok_move (ht rfl)) rfl ?_
              refine RG.op (ok_sub (ht rfl) hI) rfl ?_
              refine RG.op (ok_neqI (ht rfl) (ht rfl)) rfl ?_
              refine RG.op (ok_move (ht rfl)) rfl ?_
              refine RG.opGf rfl rfl rfl rfl (fun hg => ok_fieldAddr fd83_2 rfl flDENode_2 rfl (ht rfl)) ?_
              refine RG.opGf rfl rfl rfl rfl (fun hg => ok_load ti3 rfl rfl (htO rfl hg)) ?_
              refine RG.opGf rfl rfl rfl rfl (fun hg => ok_neqI (htO rfl hg) hI) ?_
              refine RG.op (ok_pickOr (ht rfl) (fun hb => (htO rfl (noti hb)))) rfl ?_
              refine RG.nil ?_
              refine AT.next ?_
              refine CG.cond (ht rfl) (fun hc => ?_) (fun hc => ?_)
              · have h := ct h hc
                refine CG.seq ?_
                refine CG.region ?_
                refine RG.op (ok_assign hI) rfl ?_
                refine RG.nil ?_
                refine AT.next ?_
                refine CG.ret ?_
                refine AT.then_ret (AT.then_ret ?_)
                cases so h
                exact AT.ret1 rfl rfl
              · have h := cf h hc
                refine CG.skip ?_
                refine AT.next ?_
                refine CG.seq ?_
                refine CG.region ?_
                refine RG.op (ok_move (ht rfl)) rfl ?_
                refine RG.op (ok_add (ht rfl) hI) rfl ?_
                refine RG.op (ok_assign (ht rfl)) rfl ?_
                refine RG.nil ?_
                refine AT.next ?_
                refine CG.ret ?_
                refine AT.then_ret ?_
                cases so h
                exact AT.ret1 rfl rfl
            · have h := cf h hc
              refine CG.skip ?_
              refine AT.next ?_
              refine CG.seq ?_
              refine CG.region ?_
              refine RG.op (ok_load ti25 rfl rfl (ht rfl)) rfl ?_
              refine RG.op (ok_move (ht rfl)) rfl ?_
              refine RG.op (ok_sub (ht rfl) hI) rfl ?_
              refine RG.op (ok_move (ht rfl)) rfl ?_
              refine RG.op (ok_sub (ht rfl) (ht rfl)) rfl ?_
              obtain ⟨r3, q_r3, h⟩ := bs h
              refine RG.op (ok_call cb134 (ih _ _ q_r3) ⟨(ht rfl), (ht rfl), trivial⟩) rfl ?_
              refine RG.op (ok_assign (ht rfl)) rfl ?_
              refine RG.nil ?_
              refine AT.next ?_
              refine CG.seq ?_
              refine CG.seq ?_
              refine CG.region ?_
              refine RG.op (ok_move (ht rfl)) rfl ?_
              refine RG.op (ok_eqlI (ht rfl) hI) rfl ?_
              refine RG.op (ok_move (ht rfl)) rfl ?_
              refine RG.opGf rfl rfl rfl rfl (fun hg => ok_fieldAddr fd83_2 rfl flDENode_2 rfl (ht rfl)) ?_
              refine RG.opGf rfl rfl rfl rfl (fun hg => ok_load ti3 rfl rfl (htO rfl hg)) ?_
              refine RG.opGf rfl rfl rfl rfl (fun hg => ok_move (ht rfl)) ?_
              refine RG.opGf rfl rfl rfl rfl (fun hg => ok_sub (htO rfl hg) hI) ?_
              refine RG.opGf rfl rfl rfl rfl (fun hg => ok_neqI (htO rfl hg) (htO rfl hg)) ?_
              refine RG.op (ok_pickOr (ht rfl) (fun hb => (htO rfl (noti hb)))) rfl ?_
              refine RG.op (ok_move (ht rfl)) rfl ?_
              refine RG.opGf rfl rfl rfl rfl (fun hg => ok_fieldAddr fd83_1 rfl flDENode_1 rfl (ht rfl)) ?_
              refine RG.opGf rfl rfl rfl rfl (fun hg => ok_load ti3 rfl rfl (htO rfl hg)) ?_
              refine RG.opGf rfl rfl rfl rfl (fun hg => ok_move (ht rfl)) ?_
              refine RG.opGf rfl rfl rfl rfl (fun hg => ok_sub (htO rfl hg) hI) ?_
              refine RG.opGf rfl rfl rfl rfl (fun hg => ok_move (ht rfl)) ?_
              refine RG.opGf rfl rfl rfl rfl (fun hg => ok_sub (htO rfl hg) (htO rfl hg)) ?_
              refine RG.opGf rfl rfl rfl rfl (fun hg => ok_neqI (htO rfl hg) (htO rfl hg)) ?_
              refine RG.op (ok_pickOr (ht rfl) (fun hb => (htO rfl (noti hb)))) rfl ?_
              refine RG.nil ?_
              refine AT.next ?_
              refine CG.cond (ht rfl) (fun hc => ?_) (fun hc => ?_)
              · have h := ct h hc
                refine CG.seq ?_
                refine CG.region ?_
                refine RG.op (ok_assign hI) rfl ?_
                refine RG.nil ?_
                refine AT.next ?_
                refine CG.ret ?_
                refine AT.then_ret ?_
                cases so h
                exact AT.ret1 rfl rfl
              · have h := cf h hc
                refine CG.skip ?_
                refine AT.next ?_
                refine CG.seq ?_
                refine CG.region ?_
                refine RG.op (ok_move (ht rfl)) rfl ?_
                refine RG.op (ok_move (ht rfl)) rfl ?_
                refine RG.op (ok_add (ht rfl) (ht rfl)) rfl ?_
                refine RG.op (ok_add (ht rfl) hI) rfl ?_
                refine RG.op (ok_assign (ht rfl)) rfl ?_
                refine RG.nil ?_
                refine AT.next ?_
                refine CG.ret ?_
                cases so h
                exact AT.ret1 rfl rfl
theorem f134_ok (e : DExpr) (place : Int) {R : Int} (h : ref10_size e place = some R) : Spec Tryz.prog 134 [tD rpDExpr e, tD (rI .i64) place] (tD (rI .i64) R) := f134_rec FUEL e place h

set_option maxRecDepth 100000 in
theorem f130_ok (e : DExpr) {R : Bool} (h : ref10_Right e = some R) : Spec Tryz.prog 130 [tD rpDExpr e] (tD rB R) := by
  refine Spec.of Tryz.func130 rfl rfl rfl fun w0 S0 => ?_
  refine CG.seq ?_
  refine CG.region ?_
  refine RG.op (ok_box (ht rfl)) rfl ?_
  refine RG.op (ok_assign hB) rfl ?_
  refine RG.nil ?_
  refine AT.next ?_
  refine CG.seq ?_
  obtain ⟨t, q_t, h⟩ := bs h
  obtain ⟨r, h1t, h0t⟩ := og q_t
  have q_rg := fun hb => (h1t hb).1
  refine CG.draw (ts := [tPtr (rSl rpDENode) e.Nodes, tD (rSl rpDENode) e.Nodes, tD (rI .i64) (e.Nodes.length : Int), tD rB (decide ((1 : Int) ≤ (e.Nodes.length : Int))), tD rB (decide ((1 : Int) ≤ (e.Nodes.length : Int))), tOpt (decide ((1 : Int) ≤ (e.Nodes.length : Int))) (tPtr (rSl rpDENode) e.Nodes), tOpt (decide ((1 : Int) ≤ (e.Nodes.length : Int))) (tD (rSl rpDENode) e.Nodes), tOpt (decide ((1 : Int) ≤ (e.Nodes.length : Int))) (tD (rI .i64) (e.Nodes.length : Int)), tOpt (decide ((1 : Int) ≤ (e.Nodes.length : Int))) (tD rB (decide ((e.Nodes.length : Int) ≤ (1000 : Int)))), tD rB ((decide ((1 : Int) ≤ (e.Nodes.length : Int))) && (decide ((e.Nodes.length : Int) ≤ (1000 : Int)))), tD rB ((decide ((1 : Int) ≤ (e.Nodes.length : Int))) && (decide ((e.Nodes.length : Int) ≤ (1000 : Int)))), tOpt ((decide ((1 : Int) ≤ (e.Nodes.length : Int))) && (decide ((e.Nodes.length : Int) ≤ (1000 : Int)))) (tD rpDExpr e), tOpt ((decide ((1 : Int) ≤ (e.Nodes.length : Int))) && (decide ((e.Nodes.length : Int) ≤ (1000 : Int)))) (tPtr (rSl rpDENode) e.Nodes), tOpt ((decide ((1 : Int) ≤ (e.Nodes.length : Int))) && (decide ((e.Nodes.length : Int) ≤ (1000 : Int)))) (tD (rSl rpDENode) e.Nodes), tOpt ((decide ((1 : Int) ≤ (e.Nodes.length : Int))) && (decide ((e.Nodes.length : Int) ≤ (1000 : Int)))) (tD (rI .i64) (e.Nodes.length : Int)), tOpt ((decide ((1 : Int) ≤ (e.Nodes.length : Int))) && (decide ((e.Nodes.length : Int) ≤ (1000 : Int)))) (tD (rI .i64) (IntKind.i64.wrap ((e.Nodes.length : Int) - (1 : Int)))), tOpt ((decide ((1 : Int) ≤ (e.Nodes.length : Int))) && (decide ((e.Nodes.length : Int) ≤ (1000 : Int)))) (tD (rI .i64) r), tOpt ((decide ((1 : Int) ≤ (e.Nodes.length : Int))) && (decide ((e.Nodes.length : Int) ≤ (1000 : Int)))) (tPtr (rSl rpDENode) e.Nodes), tOpt ((decide ((1 : Int) ≤ (e.Nodes.length : Int))) && (decide ((e.Nodes.length : Int) ≤ (1000 : Int)))) (tD (rSl rpDENode) e.Nodes), tOpt ((decide ((1 : Int) ≤ (e.Nodes.length : Int))) && (decide ((e.Nodes.length : Int) ≤ (1000 : Int)))) (tD (rI .i64) (e.Nodes.length : Int)), tOpt ((decide ((1 : Int) ≤ (e.Nodes.length : Int))) && (decide ((e.Nodes.length : Int) ≤ (1000 : Int)))) (tD rB (r == (e.Nodes.length : Int))), tD rB t, tD rB t]) mixed rfl rfl
    ⟨⟨[⟨1, _, none⟩], _, rfl, ⟨rfl, trivial⟩, rfl, rfl, OpG.plain rfl (ok_fieldAddr fd25_0 rfl flDExpr_0 rfl (ht rfl))⟩,
    ⟨⟨[⟨3, _, some 0⟩], _, rfl, ⟨rfl, trivial⟩, rfl, rfl, OpG.plain rfl (ok_load ti23 rfl rfl (ht rfl))⟩,
    ⟨⟨[⟨4, _, some 1⟩], _, rfl, ⟨rfl, trivial⟩, rfl, rfl, OpG.plain rfl (ok_lenSl Tryz.underlying23 (ht rfl))⟩,
    ⟨⟨[⟨5, _, some 2⟩], _, rfl, ⟨rfl, trivial⟩, rfl, rfl, OpG.plain rfl (ok_geq (ht rfl) hI)⟩,
    ⟨⟨[⟨6, _, some 3⟩], _, rfl, ⟨rfl, trivial⟩, rfl, rfl, OpG.plain rfl (ok_move (ht rfl))⟩,
    ⟨⟨[⟨1, _, none⟩, ⟨7, _, some 4⟩], _, rfl, ⟨rfl, rfl, trivial⟩, rfl, rfl, OpG.gt rfl rfl rfl rfl (fun hg => ok_fieldAddr fd25_0 rfl flDExpr_0 rfl (ht rfl))⟩,
    ⟨⟨[⟨8, _, some 5⟩, ⟨7, _, some 4⟩], _, rfl, ⟨rfl, rfl, trivial⟩, rfl, rfl, OpG.gt rfl rfl rfl rfl (fun hg => ok_load ti23 rfl rfl (htO rfl hg))⟩,
    ⟨⟨[⟨9, _, some 6⟩, ⟨7, _, some 4⟩], _, rfl, ⟨rfl, rfl, trivial⟩, rfl, rfl, OpG.gt rfl rfl rfl rfl (fun hg => ok_lenSl Tryz.underlying23 (htO rfl hg))⟩,
    ⟨⟨[⟨10, _, some 7⟩, ⟨7, _, some 4⟩], _, rfl, ⟨rfl, rfl, trivial⟩, rfl, rfl, OpG.gt rfl rfl rfl rfl (fun hg => ok_leq (htO rfl hg) hI)⟩,
    ⟨⟨[⟨7, _, some 4⟩, ⟨11, _, some 8⟩], _, rfl, ⟨rfl, rfl, trivial⟩, rfl, rfl, OpG.plain rfl (ok_pickAnd (ht rfl) (fun hb => (htO rfl hb)))⟩,
    ⟨⟨[⟨12, _, some 9⟩], _, rfl, ⟨rfl, trivial⟩, rfl, rfl, OpG.plain rfl (ok_move (ht rfl))⟩,
    ⟨⟨[⟨1, _, none⟩, ⟨13, _, some 10⟩], _, rfl, ⟨rfl, rfl, trivial⟩, rfl, rfl, OpG.gt rfl rfl rfl rfl (fun hg => ok_load ti25 rfl rfl (ht rfl))⟩,
    ⟨⟨[⟨1, _, none⟩, ⟨13, _, some 10⟩], _, rfl, ⟨rfl, rfl, trivial⟩, rfl, rfl, OpG.gt rfl rfl rfl rfl (fun hg => ok_fieldAddr fd25_0 rfl flDExpr_0 rfl (ht rfl))⟩,
    ⟨⟨[⟨15, _, some 12⟩, ⟨13, _, some 10⟩], _, rfl, ⟨rfl, rfl, trivial⟩, rfl, rfl, OpG.gt rfl rfl rfl rfl (fun hg => ok_load ti23 rfl rfl (htO rfl hg))⟩,
    ⟨⟨[⟨16, _, some 13⟩, ⟨13, _, some 10⟩], _, rfl, ⟨rfl, rfl, trivial⟩, rfl, rfl, OpG.gt rfl rfl rfl rfl (fun hg => ok_lenSl Tryz.underlying23 (htO rfl hg))⟩,
    ⟨⟨[⟨17, _, some 14⟩, ⟨13, _, some 10⟩], _, rfl, ⟨rfl, rfl, trivial⟩, rfl, rfl, OpG.gt rfl rfl rfl rfl (fun hg => ok_sub (htO rfl hg) hI)⟩,
    ⟨⟨[⟨14, _, some 11⟩, ⟨18, _, some 15⟩, ⟨13, _, some 10⟩], _, rfl, ⟨rfl, rfl, rfl, trivial⟩, rfl, rfl, OpG.gt rfl rfl rfl rfl (fun hg => ok_call cb134 (f134_ok _ _ (q_rg hg)) ⟨(htO rfl hg), (htO rfl hg), trivial⟩)⟩,
    ⟨⟨[⟨1, _, none⟩, ⟨13, _, some 10⟩], _, rfl, ⟨rfl, rfl, trivial⟩, rfl, rfl, OpG.gt rfl rfl rfl rfl (fun hg => ok_fieldAddr fd25_0 rfl flDExpr_0 rfl (ht rfl))⟩,
    ⟨⟨[⟨20, _, some 17⟩, ⟨13, _, some 10⟩], _, rfl, ⟨rfl, rfl, trivial⟩, rfl, rfl, OpG.gt rfl rfl rfl rfl (fun hg => ok_load ti23 rfl rfl (htO rfl hg))⟩,
    ⟨⟨[⟨21, _, some 18⟩, ⟨13, _, some 10⟩], _, rfl, ⟨rfl, rfl, trivial⟩, rfl, rfl, OpG.gt rfl rfl rfl rfl (fun hg => ok_lenSl Tryz.underlying23 (htO rfl hg))⟩,
    ⟨⟨[⟨19, _, some 16⟩, ⟨22, _, some 19⟩, ⟨13, _, some 10⟩], _, rfl, ⟨rfl, rfl, rfl, trivial⟩, rfl, rfl, OpG.gt rfl rfl rfl rfl (fun hg => ok_eqlI (htO rfl hg) (htO rfl hg))⟩,
    ⟨⟨[⟨13, _, some 10⟩, ⟨23, _, some 20⟩], _, rfl, ⟨rfl, rfl, trivial⟩, rfl, rfl, OpG.plain rfl (ok_pickAndM (ht rfl) (fun hb => (htO rfl hb)) (fun hb => (h1t hb).2) h0t)⟩,
    ⟨⟨[⟨24, _, some 21⟩], _, rfl, ⟨rfl, trivial⟩, rfl, rfl, OpG.plain rfl (ok_assign (ht rfl))⟩,
    trivial⟩⟩⟩⟩⟩⟩⟩⟩⟩⟩⟩⟩⟩⟩⟩⟩⟩⟩⟩⟩⟩⟩⟩ ?_
  refine AT.next ?_
  refine CG.ret ?_
  cases so h
  exact AT.ret1 rfl rfl

set_option maxRecDepth 100000 in
theorem f135_ok (k : Int) (want : Int) {R : Bool} (h : ref10_fits k want = some R) : Spec Tryz.prog 135 [tD (rI .i64) k, tD (rI .i64) want] (tD rB R) := by
  refine Spec.of Tryz.func135 rfl rfl rfl fun w0 S0 => ?_
  refine CG.seq ?_
  refine CG.region ?_
  refine RG.op (ok_assign hB) rfl ?_
  refine RG.nil ?_
  refine AT.next ?_
  refine CG.seq ?_
  refine CG.region ?_
  refine RG.op (ok_move (ht rfl)) rfl ?_
  refine RG.op (ok_move (ht rfl)) rfl ?_
  refine RG.op (ok_eqlI (ht rfl) (ht rfl)) rfl ?_
  refine RG.op (ok_move (ht rfl)) rfl ?_
  refine RG.opGf rfl rfl rfl rfl (fun hg => ok_move (ht rfl)) ?_
  refine RG.opGf rfl rfl rfl rfl (fun hg => ok_eqlI (htO rfl hg) hI) ?_
  refine RG.op (ok_pickOr (ht rfl) (fun hb => (htO rfl (noti hb)))) rfl ?_
  refine RG.op (ok_assign (ht rfl)) rfl ?_
  refine RG.nil ?_
  refine AT.next ?_
  refine CG.ret ?_
  cases so h
  exact AT.ret1 rfl rfl

set_option maxRecDepth 100000 in
theorem f131_ok (tag : Int) (l : Int) (r : Int) {R : Int × Bool} (h : ref10_kind tag l r = some R) : Spec Tryz.prog 131 [tD (rI .i64) tag, tD (rI .i64) l, tD (rI .i64) r] (tT [tD (rI .i64) R.1, tD rB R.2]) := by
  refine Spec.of Tryz.func131 rfl rfl rfl fun w0 S0 => ?_
  refine CG.seq ?_
  refine CG.region ?_
  refine RG.op (ok_assign hI) rfl ?_
  refine RG.op (ok_assign hB) rfl ?_
  refine RG.nil ?_
  refine AT.next ?_
  refine CG.seq ?_
  refine CG.block ?_
  refine CG.seq ?_
  refine CG.region ?_
  refine RG.op (ok_move (ht rfl)) rfl ?_
  refine RG.op (ok_eqlI (ht rfl) hI) rfl ?_
  refine RG.op (ok_move (ht rfl)) rfl ?_
  refine RG.opGf rfl rfl rfl rfl (fun hg => ok_move (ht rfl)) ?_
  refine RG.opGf rfl rfl rfl rfl (fun hg => ok_geq (htO rfl hg) hI) ?_
  refine RG.opGf rfl rfl rfl rfl (fun hg => ok_move (htO rfl hg)) ?_
  refine RG.opGot rfl rfl rfl rfl (fun hg => ok_move (ht rfl)) ?_
  refine RG.opGot rfl rfl rfl rfl (fun hg => ok_leq (htO rfl hg) hI) ?_
  refine RG.opGf rfl rfl rfl rfl (fun hg => ok_pickAnd (htO rfl hg) (fun hb => (htO rfl (andi hg hb)))) ?_
  refine RG.op (ok_pickOr (ht rfl) (fun hb => (htO rfl (noti hb)))) rfl ?_
  refine RG.op (ok_assign (ht rfl)) rfl ?_
  refine RG.nil ?_
  refine AT.next ?_
  refine CG.cond (ht rfl) (fun hc => ?_) (fun hc => ?_)
  · have h := ct h hc
    refine CG.seq ?_
    refine CG.region ?_
    refine RG.op (ok_move (ht rfl)) rfl ?_
    obtain ⟨r1, q_r1, h⟩ := bs h
    refine RG.op (ok_call cb135 (f135_ok _ _ q_r1) ⟨(ht rfl), hI, trivial⟩) rfl ?_
    refine RG.op (ok_move (ht rfl)) rfl ?_
    obtain ⟨t, q_t, h⟩ := bs h
    refine RG.opGt rfl rfl rfl rfl (fun hg => ok_move (ht rfl)) ?_
    obtain ⟨r2, h1t, h0t⟩ := og q_t
    have q_r2g := fun hb => (h1t hb).1
    refine RG.opGt rfl rfl rfl rfl (fun hg => ok_call cb135 (f135_ok _ _ (q_r2g hg)) ⟨(htO rfl hg), hI, trivial⟩) ?_
    refine RG.op (ok_pickAndM (ht rfl) (fun hb => (htO rfl hb)) (fun hb => (h1t hb).2) h0t) rfl ?_
    refine RG.op (ok_assign hI) rfl ?_
    refine RG.op (ok_assign (ht rfl)) rfl ?_
    refine RG.nil ?_
    refine AT.next ?_
    refine CG.ret ?_
    refine AT.in_ret (AT.then_ret ?_)
    cases so h
    exact AT.ret2 rfl rfl rfl
  · have h := cf h hc
    refine CG.seq ?_
    refine CG.region ?_
    refine RG.op (ok_move (ht rfl)) rfl ?_
    refine RG.op (ok_eqlI (ht rfl) hI) rfl ?_
    refine RG.op (ok_move (ht rfl)) rfl ?_
    refine RG.opGf rfl rfl rfl rfl (fun hg => ok_move (ht rfl)) ?_
    refine RG.opGf rfl rfl rfl rfl (fun hg => ok_geq (htO rfl hg) hI) ?_
    refine RG.op (ok_pickOr (ht rfl) (fun hb => (htO rfl (noti hb)))) rfl ?_
    refine RG.op (ok_assign (ht rfl)) rfl ?_
    refine RG.nil ?_
    refine AT.next ?_
    refine CG.cond (ht rfl) (fun hc => ?_) (fun hc => ?_)
    · have h := ct h hc
      refine CG.seq ?_
      refine CG.region ?_
      refine RG.op (ok_move (ht rfl)) rfl ?_
      obtain ⟨r3, q_r3, h⟩ := bs h
      refine RG.op (ok_call cb135 (f135_ok _ _ q_r3) ⟨(ht rfl), hI, trivial⟩) rfl ?_
      refine RG.op (ok_move (ht rfl)) rfl ?_
      obtain ⟨t1, q_t1, h⟩ := bs h
      refine RG.opGt rfl rfl rfl rfl (fun hg => ok_move (ht rfl)) ?_
      obtain ⟨r4, h1t1, h0t1⟩ := og q_t1
      have q_r4g := fun hb => (h1t1 hb).1
      refine RG.opGt rfl rfl rfl rfl (fun hg => ok_call cb135 (f135_ok _ _ (q_r4g hg)) ⟨(htO rfl hg), hI, trivial⟩) ?_
      refine RG.op (ok_pickAndM (ht rfl) (fun hb => (htO rfl hb)) (fun hb => (h1t1 hb).2) h0t1) rfl ?_
      refine RG.op (ok_assign hI) rfl ?_
      refine RG.op (ok_assign (ht rfl)) rfl ?_
      refine RG.nil ?_
      refine AT.next ?_
      refine CG.ret ?_
      refine AT.in_ret (AT.then_ret ?_)
      cases so h
      exact AT.ret2 rfl rfl rfl
    · have h := cf h hc
      refine CG.seq ?_
      refine CG.region ?_
      refine RG.op (ok_move (ht rfl)) rfl ?_
      refine RG.op (ok_eqlI (ht rfl) hI) rfl ?_
      refine RG.op (ok_move (ht rfl)) rfl ?_
      refine RG.opGf rfl rfl rfl rfl (fun hg => ok_move (ht rfl)) ?_
      refine RG.opGf rfl rfl rfl rfl (fun hg => ok_eqlI (htO rfl hg) hI) ?_
      refine RG.op (ok_pickOr (ht rfl) (fun hb => (htO rfl (noti hb)))) rfl ?_
      refine RG.op (ok_assign (ht rfl)) rfl ?_
      refine RG.nil ?_
      refine AT.next ?_
      refine CG.cond (ht rfl) (fun hc => ?_) (fun hc => ?_)
      · have h := ct h hc
        refine CG.seq ?_
        refine CG.region ?_
        refine RG.op (ok_assign hI) rfl ?_
        refine RG.op (ok_assign hB) rfl ?_
        refine RG.nil ?_
        refine AT.next ?_
        refine CG.ret ?_
        refine AT.in_ret (AT.then_ret ?_)
        cases so h
        exact AT.ret2 rfl rfl rfl
      · have h := cf h hc
        refine CG.skip ?_
        refine AT.in_normal ?_
        refine AT.next ?_
        refine CG.seq ?_
        refine CG.region ?_
        refine RG.op (ok_move (ht rfl)) rfl ?_
        refine RG.op (ok_move (ht rfl)) rfl ?_
        refine RG.op (ok_eqlI (ht rfl) (ht rfl)) rfl ?_
        refine RG.op (ok_move (ht rfl)) rfl ?_
        refine RG.opGf rfl rfl rfl rfl (fun hg => ok_move (ht rfl)) ?_
        refine RG.opGf rfl rfl rfl rfl (fun hg => ok_eqlI (htO rfl hg) hI) ?_
        refine RG.op (ok_pickOr (ht rfl) (fun hb => (htO rfl (noti hb)))) rfl ?_
        refine RG.op (ok_move (ht rfl)) rfl ?_
        refine RG.opGf rfl rfl rfl rfl (fun hg => ok_move (ht rfl)) ?_
        refine RG.opGf rfl rfl rfl rfl (fun hg => ok_eqlI (htO rfl hg) hI) ?_
        refine RG.op (ok_pickOr (ht rfl) (fun hb => (htO rfl (noti hb)))) rfl ?_
        refine RG.op (ok_assign hI) rfl ?_
        refine RG.op (ok_assign (ht rfl)) rfl ?_
        refine RG.nil ?_
        refine AT.next ?_
        refine CG.ret ?_
        cases so h
        exact AT.ret2 rfl rfl rfl

set_option maxRecDepth 100000 in
theorem f120_ok (e : DExpr) (kinds : (List Int)) {R : Int × Int} (h : ref10_Kind e kinds = some R) : Spec Tryz.prog 120 [tD rpDExpr e, tD (rSl (rI .i64)) kinds] (tT [tD (rI .i64) R.1, tD (rI .i64) R.2]) := by
  refine Spec.of Tryz.func120 rfl rfl rfl fun w0 S0 => ?_
  refine CG.seq ?_
  refine CG.region ?_
  refine RG.op (ok_box (ht rfl)) rfl ?_
  refine RG.op (ok_assign hI) rfl ?_
  refine RG.op (ok_assign hI) rfl ?_
  refine RG.nil ?_
  refine AT.next ?_
  refine CG.seq ?_
  refine CG.seq ?_
  refine CG.region ?_
  refine RG.op (ok_load ti25 rfl rfl (ht rfl)) rfl ?_
  obtain ⟨r, q_r, h⟩ := bs h
  refine RG.op (ok_call cb130 (f130_ok _ q_r) ⟨(ht rfl), trivial⟩) rfl ?_
  refine RG.op (ok_not (ht rfl)) rfl ?_
  refine RG.nil ?_
  refine AT.next ?_
  refine CG.cond (ht rfl) (fun hc => ?_) (fun hc => ?_)
  · have h := ct h hc
    refine CG.seq ?_
    refine CG.region ?_
    refine RG.op (ok_assign hI) rfl ?_
    refine RG.op (ok_assign hI) rfl ?_
    refine RG.nil ?_
    refine AT.next ?_
    refine CG.ret ?_
    refine AT.then_ret ?_
    cases so h
    exact AT.ret2 rfl rfl rfl
  · have h := cf h hc
    refine CG.skip ?_
    refine AT.next ?_
    refine CG.seq ?_
    refine CG.seq ?_
    refine CG.region ?_
    refine RG.op (ok_move (ht rfl)) rfl ?_
    refine RG.op (ok_lenSl Tryz.underlying22 (ht rfl)) rfl ?_
    refine RG.op (ok_move hI) rfl ?_
    refine RG.nil ?_
    refine AT.next ?_
    refine CG.block ?_
    refine CG.have_len (k := 20) rfl (fun hN => ?_)
    refine CG.loop ?_
    refine LG.sub (LG.list1 (Z := fun ls i  => (kinds.drop i = ls) ∧ ref10_Kind_l1 e kinds ls  = some R) (Of := fun _ i  => []) (Gf := fun _ i  => [(1, tD (rSl (rI .i64)) kinds), (2, tPtr rpDExpr e), (20, tD (rSl (rI .i64)) kinds), (21, tD (rI .i64) (kinds.length : Int)), (22, tD (rI .i64) (i : Int))]) (fun i  h => ?_) (fun e1 tl ih i  h => ?_) kinds 0  ⟨rfl, h⟩) ⟨rfl, rfl, rfl, rfl, rfl, trivial⟩
    · obtain ⟨hx, h⟩ := h
      refine LG.unfold ?_
      refine CG.seq ?_
      refine CG.region ?_
      refine RG.op (ok_lss (ht rfl) (ht rfl)) rfl ?_
      refine RG.nil ?_
      refine AT.next ?_
      refine CG.seq ?_
      refine CG.condF (ht rfl) (dropF hx) ?_
      refine CG.exit ?_
      refine AT.then_exit (AT.then_exit (AT.in_exit ?_))
      refine AT.next ?_
      refine CG.seq ?_
      refine CG.seq ?_
      refine CG.region ?_
      refine RG.op (ok_fieldAddr fd25_0 rfl flDExpr_0 rfl (ht rfl)) rfl ?_
      refine RG.op (ok_load ti23 rfl rfl (ht rfl)) rfl ?_
      refine RG.op (ok_lenSl Tryz.underlying23 (ht rfl)) rfl ?_
      refine RG.op (ok_move hI) rfl ?_
      refine RG.nil ?_
      refine AT.next ?_
      refine CG.block ?_
      refine CG.have_len (k := 34) rfl (fun hN1 => ?_)
      refine CG.loop ?_
      refine LG.sub (LG.list1 (Z := fun ls1 i1  => (e.Nodes.drop i1 = ls1) ∧ ref10_Kind_l2 e kinds ls1  = some R) (Of := fun _ i1  => []) (Gf := fun _ i1  => [(1, tD (rSl (rI .i64)) kinds), (2, tPtr rpDExpr e), (34, tD (rSl rpDENode) e.Nodes), (35, tD (rI .i64) (e.Nodes.length : Int)), (36, tD (rI .i64) (i1 : Int))]) (fun i1  h => ?_) (fun e2 tl1 ih1 i1  h => ?_) e.Nodes 0  ⟨rfl, h⟩) ⟨rfl, rfl, rfl, rfl, rfl, trivial⟩
      · obtain ⟨hx1, h⟩ := h
        refine LG.unfold ?_
        refine CG.seq ?_
        refine CG.region ?_
        refine RG.op (ok_lss (ht rfl) (ht rfl)) rfl ?_
        refine RG.nil ?_
        refine AT.next ?_
        refine CG.seq ?_
        refine CG.condF (ht rfl) (dropF hx1) ?_
        refine CG.exit ?_
        refine AT.then_exit (AT.then_exit (AT.in_exit ?_))
        refine AT.next ?_
        refine CG.seq ?_
        refine CG.region ?_
        refine RG.fresh false (rI .i64) 3 ?_
        refine RG.op (ok_assign hVn) rfl ?_
        refine RG.nil ?_
        refine AT.next ?_
        refine CG.seq ?_
        refine CG.seq ?_
        refine CG.region ?_
        refine RG.op (ok_fieldAddr fd25_0 rfl flDExpr_0 rfl (ht rfl)) rfl ?_
        refine RG.op (ok_load ti23 rfl rfl (ht rfl)) rfl ?_
        refine RG.op (ok_lenSl Tryz.underlying23 (ht rfl)) rfl ?_
        refine RG.op (ok_move hI) rfl ?_
        refine RG.nil ?_
        refine AT.next ?_
        refine CG.block ?_
        refine CG.have_len (k := 52) rfl (fun hN2 => ?_)
        refine CG.loop ?_
        refine LG.sub (LG.list4 (Z := fun ls2 i2 own l c => (e.Nodes.drop i2 = ls2) ∧ ref10_Kind_l3 kinds ls2 own = some R) (Of := fun _ i2 own l c => [arr (rI .i64) 3 l c own]) (Gf := fun _ i2 own l c => [(1, tD (rSl (rI .i64)) kinds), (10, tV (oslV l c own.length)), (52, tD (rSl rpDENode) e.Nodes), (53, tD (rI .i64) (e.Nodes.length : Int)), (54, tD (rI .i64) (i2 : Int))]) (fun i2 own l c h => ?_) (fun e3 tl2 ih2 i2 own l c h => ?_) e.Nodes 0 ([] : List Int) none 0 ⟨rfl, h⟩) ⟨rfl, rfl, rfl, rfl, rfl, trivial⟩
        · obtain ⟨hx2, h⟩ := h
          refine LG.unfold ?_
          refine CG.seq ?_
          refine CG.region ?_
          refine RG.op (ok_lss (ht rfl) (ht rfl)) rfl ?_
          refine RG.nil ?_
          refine AT.next ?_
          refine CG.seq ?_
          refine CG.condF (ht rfl) (dropF hx2) ?_
          refine CG.exit ?_
          refine AT.then_exit (AT.then_exit (AT.in_exit ?_))
          refine AT.next ?_
          refine CG.seq ?_
          refine CG.region ?_
          refine RG.op (ok_move (ht rfl)) rfl ?_
          refine RG.op (ok_move (ht rfl)) rfl ?_
          refine RG.op (ok_lenO Tryz.underlying22 (.head _) (ht rfl)) rfl ?_
          refine RG.op (ok_sub (ht rfl) hI) rfl ?_
          obtain ⟨e4, q_e4, h⟩ := bs h
          refine RG.op (ok_indexAddrO Tryz.underlying22 ti3 (.head _) (ht rfl) (ht rfl) q_e4) rfl ?_
          refine RG.op (ok_loadE (r := (rI .i64)) (i := (IntKind.i64.wrap ((own.length : Int) - (1 : Int)))) (foff := 0) ti3 rfl rfl fld_whole rfl (.head _) q_e4 (ht rfl)) rfl ?_
          refine RG.op (ok_assign (ht rfl)) rfl ?_
          refine RG.op (ok_assign hI) rfl ?_
          refine RG.nil ?_
          refine AT.next ?_
          refine CG.ret ?_
          refine AT.drop ?_
          cases so h
          exact AT.ret2 rfl rfl rfl
        · obtain ⟨hx2, h⟩ := h
          refine LG.unfold ?_
          refine CG.seq ?_
          refine CG.region ?_
          refine RG.op (ok_lss (ht rfl) (ht rfl)) rfl ?_
          refine RG.nil ?_
          refine AT.next ?_
          refine CG.seq ?_
          refine CG.condT (ht rfl) (dropT hx2) ?_
          refine CG.skip ?_
          refine AT.next ?_
          refine CG.seq ?_
          refine CG.block ?_
          refine CG.seq ?_
          refine CG.region ?_
          refine RG.op (ok_indexAddr Tryz.underlying23 ti83 rfl (ht rfl) (ht rfl) (dropI hx2)) rfl ?_
          refine RG.op (ok_load ti83 rfl rfl (ht rfl)) rfl ?_
          refine RG.alloc (r := rpDENode) (x := (⟨(0 : Int), (0 : Int), (0 : Int), (0 : Int), (⟨(0 : Int), (0 : Int), (0 : Int), []⟩ : DValue)⟩ : DENode)) ti83 (fun _ => zrDENode _) rfl (fun b => ?_)
          refine RG.storeB ti83 rfl sfld_whole rfl (ht rfl) (ht rfl) ?_
          refine RG.settleB 12 rfl ?_
          refine RG.nil ?_
          refine AT.next ?_
          refine CG.block ?_
          refine CG.seq ?_
          refine CG.region ?_
          refine RG.op (ok_fieldAddr fd83_0 rfl flDENode_0 rfl (ht rfl)) rfl ?_
          refine RG.op (ok_load ti3 rfl rfl (ht rfl)) rfl ?_
          refine RG.op (ok_eqlI (ht rfl) hI) rfl ?_
          refine RG.op (ok_assign (ht rfl)) rfl ?_
          refine RG.nil ?_
          refine AT.next ?_
          refine CG.cond (ht rfl) (fun hc => ?_) (fun hc => ?_)
          · have h := ct h hc
            refine CG.region ?_
            refine RG.op (ok_move (ht rfl)) rfl ?_
            refine RG.op (ok_fieldAddr fd83_4 rfl flDENode_4 rfl (ht rfl)) rfl ?_
            refine RG.op (ok_fieldAddr fd81_0 rfl flDValue_0 rfl (ht rfl)) rfl ?_
            refine RG.op (ok_load ti3 rfl rfl (ht rfl)) rfl ?_
            refine RG.op (ok_buildSlice (r := (rI .i64)) (ys := [e3.Value.Kind]) (xs := [.tmp 92]) Tryz.underlying22 ti3 rfl rfl rfl rfl rfl ⟨(ht rfl), trivial⟩) rfl ?_
            obtain ⟨own1, q_own1, h⟩ := bs h
            refine RG.append ti3 rfl rfl rfl rfl Tryz.underlying22 rfl rfl (ht rfl) (ht rfl) q_own1 (fun l1 c1 => ?_)
            refine RG.op (ok_assign (ht rfl)) rfl ?_
            refine RG.nil ?_
            refine AT.in_normal ?_
            refine AT.in_normal ?_
            refine AT.next ?_
            refine CG.region ?_
            refine RG.op (ok_incN (dropL hx2 hN2) (ht rfl) hI) rfl ?_
            refine RG.op (ok_move (ht rfl)) rfl ?_
            refine RG.nil ?_
            exact AT.round (LG.sub (ih2 (i2 + 1) own1 l1 c1 ⟨dropS hx2, h⟩) ⟨rfl, rfl, rfl, rfl, rfl, trivial⟩)
          · have h := cf h hc
            refine CG.seq ?_
            refine CG.region ?_
            refine RG.op (ok_fieldAddr fd83_0 rfl flDENode_0 rfl (ht rfl)) rfl ?_
            refine RG.op (ok_load ti3 rfl rfl (ht rfl)) rfl ?_
            refine RG.op (ok_eqlI (ht rfl) hI) rfl ?_
            refine RG.op (ok_assign (ht rfl)) rfl ?_
            refine RG.nil ?_
            refine AT.next ?_
            refine CG.cond (ht rfl) (fun hc => ?_) (fun hc => ?_)
            · have h := ct h hc
              refine CG.region ?_
              refine RG.op (ok_move (ht rfl)) rfl ?_
              refine RG.op (ok_move (ht rfl)) rfl ?_
              refine RG.op (ok_fieldAddr fd83_3 rfl flDENode_3 rfl (ht rfl)) rfl ?_
              refine RG.op (ok_load ti3 rfl rfl (ht rfl)) rfl ?_
              obtain ⟨e5, q_e5, h⟩ := bs h
              refine RG.op (ok_indexAddr Tryz.underlying22 ti3 rfl (ht rfl) (ht rfl) q_e5) rfl ?_
              refine RG.op (ok_load ti3 rfl rfl (ht rfl)) rfl ?_
              refine RG.op (ok_buildSlice (r := (rI .i64)) (ys := [e5]) (xs := [.tmp 104]) Tryz.underlying22 ti3 rfl rfl rfl rfl rfl ⟨(ht rfl), trivial⟩) rfl ?_
              obtain ⟨own2, q_own2, h⟩ := bs h
              refine RG.append ti3 rfl rfl rfl rfl Tryz.underlying22 rfl rfl (ht rfl) (ht rfl) q_own2 (fun l2 c2 => ?_)
              refine RG.op (ok_assign (ht rfl)) rfl ?_
              refine RG.nil ?_
              refine AT.in_normal ?_
              refine AT.in_normal ?_
              refine AT.next ?_
              refine CG.region ?_
              refine RG.op (ok_incN (dropL hx2 hN2) (ht rfl) hI) rfl ?_
              refine RG.op (ok_move (ht rfl)) rfl ?_
              refine RG.nil ?_
              exact AT.round (LG.sub (ih2 (i2 + 1) own2 l2 c2 ⟨dropS hx2, h⟩) ⟨rfl, rfl, rfl, rfl, rfl, trivial⟩)
            · have h := cf h hc
              refine CG.seq ?_
              refine CG.region ?_
              refine RG.op (ok_move (ht rfl)) rfl ?_
              refine RG.op (ok_fieldAddr fd83_1 rfl flDENode_1 rfl (ht rfl)) rfl ?_
              refine RG.op (ok_load ti3 rfl rfl (ht rfl)) rfl ?_
              obtain ⟨e6, q_e6, h⟩ := bs h
              refine RG.op (ok_indexAddrO Tryz.underlying22 ti3 (.head _) (ht rfl) (ht rfl) q_e6) rfl ?_
              refine RG.op (ok_loadE (r := (rI .i64)) (i := e3.L) (foff := 0) ti3 rfl rfl fld_whole rfl (.head _) q_e6 (ht rfl)) rfl ?_
              refine RG.op (ok_assign (ht rfl)) rfl ?_
              refine RG.op (ok_assign hI) rfl ?_
              refine RG.nil ?_
              refine AT.next ?_
              refine CG.sjoin1 (Z := fun r1 => ref10_Kind_k1 (ref10_Kind_l3 kinds tl2) e3 own e6 r1 = some R) (Of := fun r1 => [arr (rI .i64) 3 l c own]) (Gf := fun r1 => [(1, tD (rSl (rI .i64)) kinds), (10, tV (oslV l c own.length)), (12, tPtr rpDENode e3), (13, tD (rI .i64) e6), (14, tD (rI .i64) r1), (52, tD (rSl rpDENode) e.Nodes), (53, tD (rI .i64) (e.Nodes.length : Int)), (54, tD (rI .i64) (i2 : Int))]) (fun r1 h => ?_) (fun K => ?_)
              · skip
                refine CG.seq ?_
                refine CG.region ?_
                refine RG.op (ok_fieldAddr fd83_0 rfl flDENode_0 rfl (ht rfl)) rfl ?_
                refine RG.op (ok_load ti3 rfl rfl (ht rfl)) rfl ?_
                refine RG.op (ok_move (ht rfl)) rfl ?_
                refine RG.op (ok_move (ht rfl)) rfl ?_
                obtain ⟨r2, q_r2, h⟩ := bs h
                refine RG.op (ok_call cb131 (f131_ok _ _ _ q_r2) ⟨(ht rfl), (ht rfl), (ht rfl), trivial⟩) rfl ?_
                refine RG.op (ok_move (ht rfl)) rfl ?_
                refine RG.op (ok_extract rfl (ht rfl)) rfl ?_
                refine RG.op (ok_extract rfl (ht rfl)) rfl ?_
                refine RG.op (ok_assign (ht rfl)) rfl ?_
                refine RG.op (ok_assign (ht rfl)) rfl ?_
                refine RG.nil ?_
                refine AT.next ?_
                refine CG.seq ?_
                refine CG.seq ?_
                refine CG.region ?_
                refine RG.op (ok_move (ht rfl)) rfl ?_
                refine RG.op (ok_not (ht rfl)) rfl ?_
                refine RG.nil ?_
                refine AT.next ?_
                refine CG.cond (ht rfl) (fun hc => ?_) (fun hc => ?_)
                · have h := ct h hc
                  refine CG.seq ?_
                  refine CG.region ?_
                  refine RG.op (ok_assign hI) rfl ?_
                  refine RG.op (ok_assign hI) rfl ?_
                  refine RG.nil ?_
                  refine AT.next ?_
                  refine CG.ret ?_
                  refine AT.then_ret (AT.in_ret (AT.in_ret (AT.then_ret (AT.then_ret (AT.in_ret (AT.then_ret ?_))))))
                  refine AT.drop ?_
                  cases so h
                  exact AT.ret2 rfl rfl rfl
                · have h := cf h hc
                  refine CG.skip ?_
                  refine AT.next ?_
                  refine CG.region ?_
                  refine RG.op (ok_move (ht rfl)) rfl ?_
                  refine RG.op (ok_move (ht rfl)) rfl ?_
                  refine RG.op (ok_buildSlice (r := (rI .i64)) (ys := [r2.1]) (xs := [.tmp 82]) Tryz.underlying22 ti3 rfl rfl rfl rfl rfl ⟨(ht rfl), trivial⟩) rfl ?_
                  obtain ⟨own3, q_own3, h⟩ := bs h
                  refine RG.append ti3 rfl rfl rfl rfl Tryz.underlying22 rfl rfl (ht rfl) (ht rfl) q_own3 (fun l3 c3 => ?_)
                  refine RG.op (ok_assign (ht rfl)) rfl ?_
                  refine RG.nil ?_
                  refine AT.in_normal ?_
                  refine AT.in_normal ?_
                  refine AT.next ?_
                  refine CG.region ?_
                  refine RG.op (ok_incN (dropL hx2 hN2) (ht rfl) hI) rfl ?_
                  refine RG.op (ok_move (ht rfl)) rfl ?_
                  refine RG.nil ?_
                  exact AT.round (LG.sub (ih2 (i2 + 1) own3 l3 c3 ⟨dropS hx2, h⟩) ⟨rfl, rfl, rfl, rfl, rfl, trivial⟩)
              · skip
                refine CG.seq ?_
                refine CG.region ?_
                refine RG.op (ok_fieldAddr fd83_2 rfl flDENode_2 rfl (ht rfl)) rfl ?_
                refine RG.op (ok_load ti3 rfl rfl (ht rfl)) rfl ?_
                refine RG.op (ok_geq (ht rfl) hI) rfl ?_
                refine RG.nil ?_
                refine AT.next ?_
                refine CG.cond (ht rfl) (fun hc => ?_) (fun hc => ?_)
                · have h := ct h hc
                  refine CG.region ?_
                  refine RG.op (ok_move (ht rfl)) rfl ?_
                  refine RG.op (ok_fieldAddr fd83_2 rfl flDENode_2 rfl (ht rfl)) rfl ?_
                  refine RG.op (ok_load ti3 rfl rfl (ht rfl)) rfl ?_
                  obtain ⟨e7, q_e7, h⟩ := bs h
                  refine RG.op (ok_indexAddrO Tryz.underlying22 ti3 (.head _) (ht rfl) (ht rfl) q_e7) rfl ?_
                  refine RG.op (ok_loadE (r := (rI .i64)) (i := e3.R) (foff := 0) ti3 rfl rfl fld_whole rfl (.head _) q_e7 (ht rfl)) rfl ?_
                  refine RG.op (ok_assign (ht rfl)) rfl ?_
                  refine RG.nil ?_
                  exact AT.sub (K e7 h) ⟨rfl, rfl, rfl, rfl, rfl, rfl, rfl, rfl, trivial⟩
                · have h := cf h hc
                  refine CG.skip ?_
                  exact AT.sub (K (0 : Int) h) ⟨rfl, rfl, rfl, rfl, rfl, rfl, rfl, rfl, trivial⟩
      · obtain ⟨hx1, h⟩ := h
        refine LG.unfold ?_
        refine CG.seq ?_
        refine CG.region ?_
        refine RG.op (ok_lss (ht rfl) (ht rfl)) rfl ?_
        refine RG.nil ?_
        refine AT.next ?_
        refine CG.seq ?_
        refine CG.condT (ht rfl) (dropT hx1) ?_
        refine CG.skip ?_
        refine AT.next ?_
        refine CG.seq ?_
        refine CG.block ?_
        refine CG.seq ?_
        refine CG.region ?_
        refine RG.op (ok_indexAddr Tryz.underlying23 ti83 rfl (ht rfl) (ht rfl) (dropI hx1)) rfl ?_
        refine RG.op (ok_load ti83 rfl rfl (ht rfl)) rfl ?_
        refine RG.alloc (r := rpDENode) (x := (⟨(0 : Int), (0 : Int), (0 : Int), (0 : Int), (⟨(0 : Int), (0 : Int), (0 : Int), []⟩ : DValue)⟩ : DENode)) ti83 (fun _ => zrDENode _) rfl (fun b1 => ?_)
        refine RG.storeB ti83 rfl sfld_whole rfl (ht rfl) (ht rfl) ?_
        refine RG.settleB 9 rfl ?_
        refine RG.nil ?_
        refine AT.next ?_
        refine CG.seq ?_
        refine CG.region ?_
        refine RG.op (ok_fieldAddr fd83_0 rfl flDENode_0 rfl (ht rfl)) rfl ?_
        refine RG.op (ok_load ti3 rfl rfl (ht rfl)) rfl ?_
        refine RG.op (ok_eqlI (ht rfl) hI) rfl ?_
        refine RG.op (ok_move (ht rfl)) rfl ?_
        refine RG.opGt rfl rfl rfl rfl (fun hg => ok_fieldAddr fd83_3 rfl flDENode_3 rfl (ht rfl)) ?_
        refine RG.opGt rfl rfl rfl rfl (fun hg => ok_load ti3 rfl rfl (htO rfl hg)) ?_
        refine RG.opGt rfl rfl rfl rfl (fun hg => ok_move (ht rfl)) ?_
        refine RG.opGt rfl rfl rfl rfl (fun hg => ok_lenSl Tryz.underlying22 (htO rfl hg)) ?_
        refine RG.opGt rfl rfl rfl rfl (fun hg => ok_geq (htO rfl hg) (htO rfl hg)) ?_
        refine RG.op (ok_pickAnd (ht rfl) (fun hb => (htO rfl hb))) rfl ?_
        refine RG.nil ?_
        refine AT.next ?_
        refine CG.cond (ht rfl) (fun hc => ?_) (fun hc => ?_)
        · have h := ct h hc
          refine CG.seq ?_
          refine CG.region ?_
          refine RG.op (ok_assign hI) rfl ?_
          refine RG.op (ok_assign hI) rfl ?_
          refine RG.nil ?_
          refine AT.next ?_
          refine CG.ret ?_
          refine AT.in_ret (AT.then_ret (AT.then_ret (AT.in_ret (AT.then_ret ?_))))
          cases so h
          exact AT.ret2 rfl rfl rfl
        · have h := cf h hc
          refine CG.skip ?_
          refine AT.in_normal ?_
          refine AT.next ?_
          refine CG.region ?_
          refine RG.op (ok_incN (dropL hx1 hN1) (ht rfl) hI) rfl ?_
          refine RG.op (ok_move (ht rfl)) rfl ?_
          refine RG.nil ?_
          exact AT.round (LG.sub (ih1 (i1 + 1)  ⟨dropS hx1, h⟩) ⟨rfl, rfl, rfl, rfl, rfl, trivial⟩)
    · obtain ⟨hx, h⟩ := h
      refine LG.unfold ?_
      refine CG.seq ?_
      refine CG.region ?_
      refine RG.op (ok_lss (ht rfl) (ht rfl)) rfl ?_
      refine RG.nil ?_
      refine AT.next ?_
      refine CG.seq ?_
      refine CG.condT (ht rfl) (dropT hx) ?_
      refine CG.skip ?_
      refine AT.next ?_
      refine CG.seq ?_
      refine CG.block ?_
      refine CG.seq ?_
      refine CG.region ?_
      refine RG.op (ok_indexAddr Tryz.underlying22 ti3 rfl (ht rfl) (ht rfl) (dropI hx)) rfl ?_
      refine RG.op (ok_load ti3 rfl rfl (ht rfl)) rfl ?_
      refine RG.op (ok_assign (ht rfl)) rfl ?_
      refine RG.nil ?_
      refine AT.next ?_
      refine CG.seq ?_
      refine CG.region ?_
      refine RG.op (ok_move (ht rfl)) rfl ?_
      refine RG.op (ok_lss (ht rfl) hI) rfl ?_
      refine RG.op (ok_move (ht rfl)) rfl ?_
      refine RG.opGf rfl rfl rfl rfl (fun hg => ok_move (ht rfl)) ?_
      refine RG.opGf rfl rfl rfl rfl (fun hg => ok_gtr (htO rfl hg) hI) ?_
      refine RG.op (ok_pickOr (ht rfl) (fun hb => (htO rfl (noti hb)))) rfl ?_
      refine RG.nil ?_
      refine AT.next ?_
      refine CG.cond (ht rfl) (fun hc => ?_) (fun hc => ?_)
      · have h := ct h hc
        refine CG.seq ?_
        refine CG.region ?_
        refine RG.op (ok_assign hI) rfl ?_
        refine RG.op (ok_assign hI) rfl ?_
        refine RG.nil ?_
        refine AT.next ?_
        refine CG.ret ?_
        refine AT.in_ret (AT.then_ret (AT.then_ret (AT.in_ret (AT.then_ret ?_))))
        cases so h
        exact AT.ret2 rfl rfl rfl
      · have h := cf h hc
        refine CG.skip ?_
        refine AT.in_normal ?_
        refine AT.next ?_
        refine CG.region ?_
        refine RG.op (ok_incN (dropL hx hN) (ht rfl) hI) rfl ?_
        refine RG.op (ok_move (ht rfl)) rfl ?_
        refine RG.nil ?_
        exact AT.round (LG.sub (ih (i + 1)  ⟨dropS hx, h⟩) ⟨rfl, rfl, rfl, rfl, rfl, trivial⟩)

end Go.Proofs.YtbhkincjkpeaoaaGreat

