/- Facts of this claim: P0. -/
import Derived.Test.YtdhledkpgaeoaaaDoorKgT
import Derived.Test.YtdhledkpgaeoaaaDoorKgF
namespace Go.Proofs.YtdhledkpgaeoaaaDoor
open Go

set_option maxRecDepth 100000 in
theorem f27_ok (tag : Int) {R : Int} (h : expr_parts tag = some R) : Spec Tryd.prog 27 [tD (rI .i64) tag] (tD (rI .i64) R) := by
  refine Spec.of Tryd.func27 rfl rfl rfl fun w0 S0 => ?_
  refine CG.seq ?_
  refine CG.region ?_
  refine RG.op (ok_assign hI) rfl ?_
  refine RG.nil ?_
  refine AT.next ?_
  refine CG.seq ?_
  refine CG.block ?_
  refine CG.seq ?_
  refine CG.region ?_
  refine RG.op (ok_move (ht rfl)) rfl ?_
  refine RG.op (ok_eqlI (ht rfl) hI) rfl ?_
  refine RG.op (ok_move (ht rfl)) rfl ?_
  refine RG.opGf rfl rfl rfl rfl (fun hg => ok_move (ht rfl)) ?_
  refine RG.opGf rfl rfl rfl rfl (fun hg => ok_eqlI (htO rfl hg) hI) ?_
  refine RG.op (ok_pickOr (ht rfl) (fun hb => (htO rfl (noti hb)))) rfl ?_
  refine RG.op (ok_assign (ht rfl)) rfl ?_
  refine RG.nil ?_
  refine AT.next ?_
  refine CG.cond (ht rfl) (fun hc => ?_) (fun hc => ?_)
  · have h := ct h hc
    refine CG.seq ?_
    refine CG.region ?_
    refine RG.op (ok_assign hI) rfl ?_
    refine RG.nil ?_
    refine AT.next ?_
    refine CG.ret ?_
    refine AT.in_ret (AT.then_ret ?_)
    cases so h
    exact AT.ret1 rfl rfl
  · have h := cf h hc
    refine CG.seq ?_
    refine CG.region ?_
    refine RG.op (ok_move (ht rfl)) rfl ?_
    refine RG.op (ok_geq (ht rfl) hI) rfl ?_
    refine RG.op (ok_move (ht rfl)) rfl ?_
    refine RG.opGt rfl rfl rfl rfl (fun hg => ok_move (ht rfl)) ?_
    refine RG.opGt rfl rfl rfl rfl (fun hg => ok_leq (htO rfl hg) hI) ?_
    refine RG.op (ok_pickAnd (ht rfl) (fun hb => (htO rfl hb))) rfl ?_
    refine RG.op (ok_assign (ht rfl)) rfl ?_
    refine RG.nil ?_
    refine AT.next ?_
    refine CG.cond (ht rfl) (fun hc => ?_) (fun hc => ?_)
    · have h := ct h hc
      refine CG.seq ?_
      refine CG.region ?_
      refine RG.op (ok_assign hI) rfl ?_
      refine RG.nil ?_
      refine AT.next ?_
      refine CG.ret ?_
      refine AT.in_ret (AT.then_ret ?_)
      cases so h
      exact AT.ret1 rfl rfl
    · have h := cf h hc
      refine CG.seq ?_
      refine CG.region ?_
      refine RG.op (ok_move (ht rfl)) rfl ?_
      refine RG.op (ok_geq (ht rfl) hI) rfl ?_
      refine RG.op (ok_move (ht rfl)) rfl ?_
      refine RG.opGt rfl rfl rfl rfl (fun hg => ok_move (ht rfl)) ?_
      refine RG.opGt rfl rfl rfl rfl (fun hg => ok_leq (htO rfl hg) hI) ?_
      refine RG.op (ok_pickAnd (ht rfl) (fun hb => (htO rfl hb))) rfl ?_
      refine RG.op (ok_assign (ht rfl)) rfl ?_
      refine RG.nil ?_
      refine AT.next ?_
      refine CG.cond (ht rfl) (fun hc => ?_) (fun hc => ?_)
      · have h := ct h hc
        refine CG.seq ?_
        refine CG.region ?_
        refine RG.op (ok_assign hI) rfl ?_
        refine RG.nil ?_
        refine AT.next ?_
        refine CG.ret ?_
        refine AT.in_ret (AT.then_ret ?_)
        cases so h
        exact AT.ret1 rfl rfl
      · have h := cf h hc
        refine CG.skip ?_
        refine AT.in_normal ?_
        refine AT.next ?_
        refine CG.seq ?_
        refine CG.region ?_
        refine RG.op (ok_assign hI) rfl ?_
        refine RG.nil ?_
        refine AT.next ?_
        refine CG.ret ?_
        cases so h
        exact AT.ret1 rfl rfl

set_option maxRecDepth 100000 in
theorem f61_ok (v : DValue) {R : DValue} (h : value_blank v = some R) : Spec Tryd.prog 61 [tD rpDValue v] (tD rpDValue R) := by
  refine Spec.of Tryd.func61 rfl rfl rfl fun w0 S0 => ?_
  refine CG.seq ?_
  refine CG.region ?_
  refine RG.boxO (ht rfl) rfl (fun b => ?_)
  refine RG.alloc (r := rpDValue) (x := (⟨(0 : Int), (0 : Int), (0 : Int), []⟩ : DValue)) ti37 (fun _ => zrDValue _) rfl (fun b1 => ?_)
  refine RG.nil ?_
  refine AT.next ?_
  refine CG.seq ?_
  refine CG.seq ?_
  refine CG.region ?_
  refine RG.op (ok_fieldAddrC (n := 0) fd37_0 rfl (ht rfl) rfl) rfl ?_
  refine RG.op (ok_loadB ti3 rfl rfl flDValue_0 (.tail _ (.head _)) (ht rfl)) rfl ?_
  refine RG.nil ?_
  refine AT.next ?_
  refine CG.bjoin1 (Z := fun v1 => value_blank_k1 v1 = some R) (Of := fun v1 => [bx rpDValue 37 b v1, bx rpDValue 37 b1 (⟨(0 : Int), (0 : Int), (0 : Int), []⟩ : DValue)]) (Gf := fun v1 => [(1, tV (bptr b 0)), (2, tV (bptr b1 0))]) (fun v1 h => ?_) (fun K => ?_)
  · skip
    refine AT.next ?_
    refine CG.seq ?_
    refine CG.region ?_
    refine RG.op (ok_loadB ti37 rfl rfl fld_whole (.head _) (ht rfl)) rfl ?_
    refine RG.front1 ?_
    refine RG.storeB ti37 rfl sfld_whole rfl (ht rfl) (ht rfl) ?_
    refine RG.settleB 2 rfl ?_
    refine RG.nil ?_
    refine AT.next ?_
    refine CG.ret ?_
    refine AT.drop ?_
    cases so h
    exact AT.ret1c rfl ti37 rfl rfl rfl
  · skip
    refine CG.seq ?_
    refine CG.block ?_
    refine CG.seq ?_
    refine CG.block ?_
    refine CG.seq ?_
    refine CG.bjoin1 (Z := fun v2 => value_blank_k2 v2 = some R) (Of := fun v2 => [bx rpDValue 37 b v2, bx rpDValue 37 b1 (⟨(0 : Int), (0 : Int), (0 : Int), []⟩ : DValue)]) (Gf := fun v2 => [(1, tV (bptr b 0)), (2, tV (bptr b1 0))]) (fun v2 h => ?_) (fun K1 => ?_)
    · skip
      refine AT.next ?_
      refine CG.seq ?_
      refine CG.region ?_
      refine RG.op (ok_fieldAddrC (n := 0) fd37_0 rfl (ht rfl) rfl) rfl ?_
      refine RG.storeB ti3 rfl sfDValue_0 rfl (ht rfl) hI ?_
      refine RG.nil ?_
      refine AT.next ?_
      refine CG.exit ?_
      refine AT.in_exit_ne rfl (AT.then_exit (AT.in_exit_ne rfl (AT.then_exit (AT.in_exit ?_))))
      exact AT.sub (K (DValue.mk (0 : Int) v2.N v2.U v2.S) h) ⟨rfl, rfl, trivial⟩
    · skip
      refine CG.seq ?_
      refine CG.bjoin0 (Z := value_blank_k3 v = some R) (Of := [bx rpDValue 37 b v, bx rpDValue 37 b1 (⟨(0 : Int), (0 : Int), (0 : Int), []⟩ : DValue)]) (Gf := [(1, tV (bptr b 0)), (2, tV (bptr b1 0))]) (fun h => ?_) (fun K2 => ?_)
      · skip
        refine AT.next ?_
        refine CG.region ?_
        refine RG.op (ok_fieldAddrC (n := 1) fd37_1 rfl (ht rfl) rfl) rfl ?_
        refine RG.storeB ti2 rfl sfDValue_1 rfl (ht rfl) hI ?_
        refine RG.nil ?_
        refine AT.in_normal ?_
        exact AT.sub (K1 (DValue.mk v.Kind (0 : Int) v.U v.S) h) ⟨rfl, rfl, trivial⟩
      · skip
        refine CG.seq ?_
        refine CG.block ?_
        refine CG.seq ?_
        refine CG.seq ?_
        refine CG.seq ?_
        refine CG.region ?_
        refine RG.op (ok_eqlI (ht rfl) hI) rfl ?_
        refine RG.op (ok_assign (ht rfl)) rfl ?_
        refine RG.nil ?_
        refine AT.next ?_
        refine CG.cond (ht rfl) (fun hc => ?_) (fun hc => ?_)
        · have h := ct h hc
          refine CG.exit ?_
          refine AT.then_exit (AT.then_exit (AT.in_exit ?_))
          refine AT.next ?_
          refine CG.seq ?_
          refine CG.region ?_
          refine RG.op (ok_fieldAddrC (n := 1) fd37_1 rfl (ht rfl) rfl) rfl ?_
          refine RG.op (ok_loadB ti2 rfl rfl flDValue_1 (.tail _ (.head _)) (ht rfl)) rfl ?_
          refine RG.op (ok_neqI (ht rfl) hI) rfl ?_
          refine RG.op (ok_move (ht rfl)) rfl ?_
          refine RG.opGt rfl rfl rfl rfl (fun hg => ok_fieldAddrC (n := 1) fd37_1 rfl (ht rfl) rfl) ?_
          refine RG.opGt rfl rfl rfl rfl (fun hg => ok_loadB ti2 rfl rfl flDValue_1 (.tail _ (.head _)) (htO rfl hg)) ?_
          refine RG.opGt rfl rfl rfl rfl (fun hg => ok_neqI (htO rfl hg) hI) ?_
          refine RG.op (ok_pickAnd (ht rfl) (fun hb => (htO rfl hb))) rfl ?_
          refine RG.nil ?_
          refine AT.next ?_
          refine CG.cond (ht rfl) (fun hc => ?_) (fun hc => ?_)
          · have h := ct h hc
            refine CG.exit ?_
            refine AT.in_exit_ne rfl (AT.then_exit (AT.in_exit_ne rfl (AT.then_exit (AT.in_exit_ne rfl (AT.then_exit (AT.in_exit_ne rfl (AT.then_exit (AT.in_exit ?_))))))))
            refine AT.front1 ?_
            exact AT.sub (K v h) ⟨rfl, rfl, trivial⟩
          · have h := cf h hc
            refine CG.skip ?_
            refine AT.in_normal ?_
            refine AT.front1 ?_
            exact AT.sub (K2 h) ⟨rfl, rfl, trivial⟩
        · have h := cf h hc
          refine CG.skip ?_
          refine AT.next ?_
          refine CG.seq ?_
          refine CG.seq ?_
          refine CG.region ?_
          refine RG.op (ok_eqlI (ht rfl) hI) rfl ?_
          refine RG.op (ok_assign (ht rfl)) rfl ?_
          refine RG.nil ?_
          refine AT.next ?_
          refine CG.cond (ht rfl) (fun hc => ?_) (fun hc => ?_)
          · have h := ct h hc
            refine CG.exit ?_
            refine AT.then_exit (AT.then_exit (AT.in_exit_ne rfl (AT.then_exit (AT.in_exit ?_))))
            refine AT.front1 ?_
            exact AT.sub (K2 h) ⟨rfl, rfl, trivial⟩
          · have h := cf h hc
            refine CG.skip ?_
            refine AT.next ?_
            refine CG.seq ?_
            refine CG.seq ?_
            refine CG.region ?_
            refine RG.op (ok_eqlI (ht rfl) hI) rfl ?_
            refine RG.op (ok_assign (ht rfl)) rfl ?_
            refine RG.nil ?_
            refine AT.next ?_
            refine CG.cond (ht rfl) (fun hc => ?_) (fun hc => ?_)
            · have h := ct h hc
              refine CG.exit ?_
              refine AT.then_exit (AT.then_exit (AT.in_exit_ne rfl (AT.then_exit (AT.in_exit_ne rfl (AT.then_exit (AT.in_exit ?_))))))
              refine AT.front1 ?_
              exact AT.sub (K1 v h) ⟨rfl, rfl, trivial⟩
            · have h := cf h hc
              refine CG.skip ?_
              refine AT.next ?_
              refine CG.seq ?_
              refine CG.seq ?_
              refine CG.region ?_
              refine RG.op (ok_eqlI (ht rfl) hI) rfl ?_
              refine RG.op (ok_assign (ht rfl)) rfl ?_
              refine RG.nil ?_
              refine AT.next ?_
              refine CG.cond (ht rfl) (fun hc => ?_) (fun hc => ?_)
              · have h := ct h hc
                refine CG.exit ?_
                refine AT.then_exit (AT.then_exit (AT.in_exit_ne rfl (AT.then_exit (AT.in_exit_ne rfl (AT.then_exit (AT.in_exit_ne rfl (AT.then_exit (AT.in_exit ?_))))))))
                refine AT.next ?_
                refine CG.sjoin1 (Z := fun v3 => value_blank_k4 v3 = some R) (Of := fun v3 => [bx rpDValue 37 b v3, bx rpDValue 37 b1 (⟨(0 : Int), (0 : Int), (0 : Int), []⟩ : DValue)]) (Gf := fun v3 => [(1, tV (bptr b 0)), (2, tV (bptr b1 0))]) (fun v3 h => ?_) (fun K3 => ?_)
                · skip
                  refine CG.exit ?_
                  refine AT.in_exit_ne rfl (AT.then_exit (AT.in_exit ?_))
                  exact AT.sub (K v3 h) ⟨rfl, rfl, trivial⟩
                · skip
                  refine CG.seq ?_
                  refine CG.region ?_
                  refine RG.op (ok_fieldAddrC (n := 3) fd37_3 rfl (ht rfl) rfl) rfl ?_
                  refine RG.op (ok_loadB ti9 rfl rfl flDValue_3 (.tail _ (.head _)) (ht rfl)) rfl ?_
                  refine RG.op (ok_lenS Tryd.underlying9 (ht rfl)) rfl ?_
                  refine RG.op (ok_leq (ht rfl) hI) rfl ?_
                  refine RG.nil ?_
                  refine AT.next ?_
                  refine CG.cond (ht rfl) (fun hc => ?_) (fun hc => ?_)
                  · have h := ct h hc
                    refine CG.region ?_
                    refine RG.op (ok_fieldAddrC (n := 0) fd37_0 rfl (ht rfl) rfl) rfl ?_
                    refine RG.front1 ?_
                    refine RG.storeB ti3 rfl sfDValue_0 rfl (ht rfl) hI ?_
                    refine RG.op (ok_fieldAddrC (n := 3) fd37_3 rfl (ht rfl) rfl) rfl ?_
                    refine RG.storeB ti9 rfl sfDValue_3 rfl (ht rfl) hS ?_
                    refine RG.nil ?_
                    exact AT.sub (K3 (DValue.mk (0 : Int) v.N v.U ([])) h) ⟨rfl, rfl, trivial⟩
                  · have h := cf h hc
                    refine CG.skip ?_
                    refine AT.front1 ?_
                    exact AT.sub (K3 v h) ⟨rfl, rfl, trivial⟩
              · have h := cf h hc
                refine CG.skip ?_
                refine AT.next ?_
                refine CG.seq ?_
                refine CG.region ?_
                refine RG.op (ok_eqlI (ht rfl) hI) rfl ?_
                refine RG.op (ok_assign (ht rfl)) rfl ?_
                refine RG.nil ?_
                refine AT.next ?_
                refine CG.cond (ht rfl) (fun hc => ?_) (fun hc => ?_)
                · have h := ct h hc
                  refine CG.exit ?_
                  refine AT.then_exit (AT.in_exit_ne rfl (AT.then_exit (AT.in_exit_ne rfl (AT.then_exit (AT.in_exit_ne rfl (AT.then_exit (AT.in_exit_ne rfl (AT.then_exit (AT.in_exit ?_)))))))))
                  refine AT.next ?_
                  refine CG.seq ?_
                  refine CG.region ?_
                  refine RG.op (ok_fieldAddrC (n := 0) fd37_0 rfl (ht rfl) rfl) rfl ?_
                  refine RG.front1 ?_
                  refine RG.storeB ti3 rfl sfDValue_0 rfl (ht rfl) hI ?_
                  refine RG.op (ok_fieldAddrC (n := 1) fd37_1 rfl (ht rfl) rfl) rfl ?_
                  refine RG.storeB ti2 rfl sfDValue_1 rfl (ht rfl) hI ?_
                  refine RG.op (ok_fieldAddrC (n := 2) fd37_2 rfl (ht rfl) rfl) rfl ?_
                  refine RG.storeB ti35 rfl sfDValue_2 rfl (ht rfl) hI ?_
                  refine RG.nil ?_
                  refine AT.next ?_
                  refine CG.exit ?_
                  refine AT.in_exit ?_
                  exact AT.sub (K (DValue.mk (0 : Int) (0 : Int) (0 : Int) v.S) h) ⟨rfl, rfl, trivial⟩
                · have h := cf h hc
                  refine CG.skip ?_
                  refine AT.next ?_
                  refine CG.exit ?_
                  refine AT.in_exit_ne rfl (AT.then_exit (AT.in_exit_ne rfl (AT.then_exit (AT.in_exit_ne rfl (AT.then_exit (AT.in_exit_ne rfl (AT.then_exit (AT.in_exit_ne rfl (AT.then_exit (AT.in_exit ?_))))))))))
                  refine AT.front1 ?_
                  exact AT.sub (K v h) ⟨rfl, rfl, trivial⟩

set_option maxRecDepth 100000 in
theorem f31_ok (v : DValue) {R : Int} (h : value_Check v = some R) : Spec Tryd.prog 31 [tD rpDValue v] (tD (rI .i64) R) := by
  refine Spec.of Tryd.func31 rfl rfl rfl fun w0 S0 => ?_
  refine CG.seq ?_
  refine CG.region ?_
  refine RG.op (ok_box (ht rfl)) rfl ?_
  refine RG.op (ok_assign hI) rfl ?_
  refine RG.nil ?_
  refine AT.next ?_
  refine CG.seq ?_
  refine CG.seq ?_
  refine CG.region ?_
  refine RG.op (ok_load ti37 rfl rfl (ht rfl)) rfl ?_
  obtain ⟨r, q_r, h⟩ := bs h
  refine RG.op (ok_call cb61 (f61_ok _ q_r) ⟨(ht rfl), trivial⟩) rfl ?_
  refine RG.op (ok_build (y := (⟨(0 : Int), (0 : Int), (0 : Int), []⟩ : DValue)) ti37 fs37 zrDValue (rfl)) rfl ?_
  refine RG.op (ok_neqD eq37 (ht rfl) (ht rfl)) rfl ?_
  refine RG.nil ?_
  refine AT.next ?_
  refine CG.cond (ht rfl) (fun hc => ?_) (fun hc => ?_)
  · have h := ct h hc
    refine CG.seq ?_
    refine CG.region ?_
    refine RG.op (ok_assign hI) rfl ?_
    refine RG.nil ?_
    refine AT.next ?_
    refine CG.ret ?_
    refine AT.then_ret ?_
    cases so h
    exact AT.ret1 rfl rfl
  · have h := cf h hc
    refine CG.skip ?_
    refine AT.next ?_
    refine CG.seq ?_
    refine CG.region ?_
    refine RG.op (ok_assign hI) rfl ?_
    refine RG.nil ?_
    refine AT.next ?_
    refine CG.ret ?_
    cases so h
    exact AT.ret1 rfl rfl

set_option maxRecDepth 100000 in
theorem f19_ok (v : DValue) {R : Bool} (h : value_Plain v = some R) : Spec Tryd.prog 19 [tD rpDValue v] (tD rB R) := by
  refine Spec.of Tryd.func19 rfl rfl rfl fun w0 S0 => ?_
  refine CG.seq ?_
  refine CG.region ?_
  refine RG.op (ok_box (ht rfl)) rfl ?_
  refine RG.op (ok_assign hB) rfl ?_
  refine RG.nil ?_
  refine AT.next ?_
  refine CG.seq ?_
  refine CG.region ?_
  refine RG.op (ok_load ti37 rfl rfl (ht rfl)) rfl ?_
  obtain ⟨r, q_r, h⟩ := bs h
  refine RG.op (ok_call cb31 (f31_ok _ q_r) ⟨(ht rfl), trivial⟩) rfl ?_
  refine RG.op (ok_eqlI (ht rfl) hI) rfl ?_
  refine RG.op (ok_move (ht rfl)) rfl ?_
  refine RG.opGt rfl rfl rfl rfl (fun hg => ok_fieldAddr fd37_0 rfl flDValue_0 rfl (ht rfl)) ?_
  refine RG.opGt rfl rfl rfl rfl (fun hg => ok_load ti3 rfl rfl (htO rfl hg)) ?_
  refine RG.opGt rfl rfl rfl rfl (fun hg => ok_neqI (htO rfl hg) hI) ?_
  refine RG.op (ok_pickAnd (ht rfl) (fun hb => (htO rfl hb))) rfl ?_
  refine RG.op (ok_assign (ht rfl)) rfl ?_
  refine RG.nil ?_
  refine AT.next ?_
  refine CG.ret ?_
  cases so h
  exact AT.ret1 rfl rfl

set_option maxRecDepth 100000 in
theorem f28_ok (n : DENode) {R : Bool} (h : expr_counts n = some R) : Spec Tryd.prog 28 [tD rpDENode n] (tD rB R) := by
  refine Spec.of Tryd.func28 rfl rfl rfl fun w0 S0 => ?_
  refine CG.seq ?_
  refine CG.region ?_
  refine RG.op (ok_box (ht rfl)) rfl ?_
  refine RG.op (ok_assign hB) rfl ?_
  refine RG.nil ?_
  refine AT.next ?_
  refine CG.seq ?_
  refine CG.seq ?_
  refine CG.region ?_
  refine RG.op (ok_fieldAddr fd49_0 rfl flDENode_0 rfl (ht rfl)) rfl ?_
  refine RG.op (ok_load ti3 rfl rfl (ht rfl)) rfl ?_
  refine RG.nil ?_
  refine AT.next ?_
  refine CG.block ?_
  refine CG.seq ?_
  refine CG.region ?_
  refine RG.op (ok_eqlI (ht rfl) hI) rfl ?_
  refine RG.op (ok_assign (ht rfl)) rfl ?_
  refine RG.nil ?_
  refine AT.next ?_
  refine CG.cond (ht rfl) (fun hc => ?_) (fun hc => ?_)
  · have h := ct h hc
    refine CG.seq ?_
    refine CG.region ?_
    refine RG.op (ok_fieldAddr fd49_4 rfl flDENode_4 rfl (ht rfl)) rfl ?_
    refine RG.op (ok_load ti37 rfl rfl (ht rfl)) rfl ?_
    obtain ⟨r, q_r, h⟩ := bs h
    refine RG.op (ok_call cb19 (f19_ok _ q_r) ⟨(ht rfl), trivial⟩) rfl ?_
    refine RG.op (ok_move (ht rfl)) rfl ?_
    refine RG.opGt rfl rfl rfl rfl (fun hg => ok_fieldAddr fd49_3 rfl flDENode_3 rfl (ht rfl)) ?_
    refine RG.opGt rfl rfl rfl rfl (fun hg => ok_load ti3 rfl rfl (htO rfl hg)) ?_
    refine RG.opGt rfl rfl rfl rfl (fun hg => ok_eqlI (htO rfl hg) hI) ?_
    refine RG.op (ok_pickAnd (ht rfl) (fun hb => (htO rfl hb))) rfl ?_
    refine RG.op (ok_assign (ht rfl)) rfl ?_
    refine RG.nil ?_
    refine AT.next ?_
    refine CG.ret ?_
    refine AT.in_ret (AT.then_ret ?_)
    cases so h
    exact AT.ret1 rfl rfl
  · have h := cf h hc
    refine CG.seq ?_
    refine CG.region ?_
    refine RG.op (ok_eqlI (ht rfl) hI) rfl ?_
    refine RG.op (ok_assign (ht rfl)) rfl ?_
    refine RG.nil ?_
    refine AT.next ?_
    refine CG.cond (ht rfl) (fun hc => ?_) (fun hc => ?_)
    · have h := ct h hc
      refine CG.seq ?_
      refine CG.region ?_
      refine RG.op (ok_fieldAddr fd49_4 rfl flDENode_4 rfl (ht rfl)) rfl ?_
      refine RG.op (ok_load ti37 rfl rfl (ht rfl)) rfl ?_
      refine RG.op (ok_build (y := (⟨(0 : Int), (0 : Int), (0 : Int), []⟩ : DValue)) ti37 fs37 zrDValue (rfl)) rfl ?_
      refine RG.op (ok_eqlD eq37 (ht rfl) (ht rfl)) rfl ?_
      refine RG.op (ok_move (ht rfl)) rfl ?_
      refine RG.opGt rfl rfl rfl rfl (fun hg => ok_fieldAddr fd49_3 rfl flDENode_3 rfl (ht rfl)) ?_
      refine RG.opGt rfl rfl rfl rfl (fun hg => ok_load ti3 rfl rfl (htO rfl hg)) ?_
      refine RG.opGt rfl rfl rfl rfl (fun hg => ok_geq (htO rfl hg) hI) ?_
      refine RG.op (ok_pickAnd (ht rfl) (fun hb => (htO rfl hb))) rfl ?_
      refine RG.op (ok_move (ht rfl)) rfl ?_
      refine RG.opGt rfl rfl rfl rfl (fun hg => ok_fieldAddr fd49_3 rfl flDENode_3 rfl (ht rfl)) ?_
      refine RG.opGt rfl rfl rfl rfl (fun hg => ok_load ti3 rfl rfl (htO rfl hg)) ?_
      refine RG.opGt rfl rfl rfl rfl (fun hg => ok_lss (htO rfl hg) hI) ?_
      refine RG.op (ok_pickAnd (ht rfl) (fun hb => (htO rfl hb))) rfl ?_
      refine RG.op (ok_assign (ht rfl)) rfl ?_
      refine RG.nil ?_
      refine AT.next ?_
      refine CG.ret ?_
      refine AT.in_ret (AT.then_ret ?_)
      cases so h
      exact AT.ret1 rfl rfl
    · have h := cf h hc
      refine CG.skip ?_
      refine AT.in_normal ?_
      refine AT.next ?_
      refine CG.seq ?_
      refine CG.region ?_
      refine RG.op (ok_fieldAddr fd49_4 rfl flDENode_4 rfl (ht rfl)) rfl ?_
      refine RG.op (ok_load ti37 rfl rfl (ht rfl)) rfl ?_
      refine RG.op (ok_build (y := (⟨(0 : Int), (0 : Int), (0 : Int), []⟩ : DValue)) ti37 fs37 zrDValue (rfl)) rfl ?_
      refine RG.op (ok_eqlD eq37 (ht rfl) (ht rfl)) rfl ?_
      refine RG.op (ok_move (ht rfl)) rfl ?_
      refine RG.opGt rfl rfl rfl rfl (fun hg => ok_fieldAddr fd49_3 rfl flDENode_3 rfl (ht rfl)) ?_
      refine RG.opGt rfl rfl rfl rfl (fun hg => ok_load ti3 rfl rfl (htO rfl hg)) ?_
      refine RG.opGt rfl rfl rfl rfl (fun hg => ok_eqlI (htO rfl hg) hI) ?_
      refine RG.op (ok_pickAnd (ht rfl) (fun hb => (htO rfl hb))) rfl ?_
      refine RG.op (ok_assign (ht rfl)) rfl ?_
      refine RG.nil ?_
      refine AT.next ?_
      refine CG.ret ?_
      cases so h
      exact AT.ret1 rfl rfl

set_option maxRecDepth 100000 in
theorem f15_ok (e : DExpr) {R : (List Int) × Bool} (h : expr_firsts e = some R) : Spec Tryd.prog 15 [tD rpDExpr e] (tT [tD (rSl (rI .i64)) R.1, tD rB R.2]) := by
  refine Spec.of Tryd.func15 rfl rfl rfl fun w0 S0 => ?_
  refine CG.seq ?_
  refine CG.region ?_
  refine RG.op (ok_box (ht rfl)) rfl ?_
  refine RG.op (ok_assign (show HasTy _ _ _ (tD (rSl (rI .i64)) ([])) from hNil)) rfl ?_
  refine RG.op (ok_assign hB) rfl ?_
  refine RG.nil ?_
  refine AT.next ?_
  refine CG.seq ?_
  refine CG.region ?_
  refine RG.fresh false (rI .i64) 3 ?_
  refine RG.op (ok_assign hVn) rfl ?_
  refine RG.fresh false (rI .i64) 3 ?_
  refine RG.op (ok_assign hVn) rfl ?_
  refine RG.nil ?_
  refine AT.next ?_
  refine CG.seq ?_
  refine CG.seq ?_
  refine CG.region ?_
  refine RG.op (ok_fieldAddr fd24_0 rfl flDExpr_0 rfl (ht rfl)) rfl ?_
  refine RG.op (ok_load ti22 rfl rfl (ht rfl)) rfl ?_
  refine RG.op (ok_lenSl Tryd.underlying22 (ht rfl)) rfl ?_
  refine RG.op (ok_move hI) rfl ?_
  refine RG.nil ?_
  refine AT.next ?_
  refine CG.block ?_
  refine CG.have_len (k := 15) rfl (fun hN => ?_)
  refine CG.loop ?_
  refine LG.front1 ?_
  refine LG.sub (LG.list7 (Z := fun ls i all l c open1 l1 c1 => (e.Nodes.drop i = ls) ∧ expr_firsts_l1 ls i all open1 = some R) (Of := fun _ i all l c open1 l1 c1 => [arr (rI .i64) 3 l c all, arr (rI .i64) 3 l1 c1 open1]) (Gf := fun _ i all l c open1 l1 c1 => [(4, tV (oslV l c all.length)), (5, tV (oslV l1 c1 open1.length)), (15, tD (rSl rpDENode) e.Nodes), (16, tD (rI .i64) (e.Nodes.length : Int)), (17, tD (rI .i64) (i : Int))]) (fun i all l c open1 l1 c1 h => ?_) (fun e1 tl ih i all l c open1 l1 c1 h => ?_) e.Nodes 0 ([] : List Int) none 0 ([] : List Int) none 0 ⟨rfl, h⟩) ⟨rfl, rfl, rfl, rfl, rfl, trivial⟩
  · obtain ⟨hx, h⟩ := h
    refine LG.unfold ?_
    refine CG.seq ?_
    refine CG.region ?_
    refine RG.op (ok_lss (ht rfl) (ht rfl)) rfl ?_
    refine RG.nil ?_
    refine AT.next ?_
    refine CG.seq ?_
    refine CG.condF (ht rfl) (dropF hx) ?_
    refine CG.exit ?_
    refine AT.then_exit (AT.then_exit (AT.in_exit ?_))
    refine AT.next ?_
    refine CG.seq ?_
    refine CG.region ?_
    refine RG.op (ok_move (ht rfl)) rfl ?_
    refine RG.op (ok_move (ht rfl)) rfl ?_
    refine RG.op (ok_lenO Tryd.underlying33 (.tail _ (.head _)) (ht rfl)) rfl ?_
    refine RG.op (ok_eqlI (ht rfl) hI) rfl ?_
    refine RG.op (ok_move (ht rfl)) rfl ?_
    refine RG.opGt rfl rfl rfl rfl (fun hg => ok_move (ht rfl)) ?_
    refine RG.opGt rfl rfl rfl rfl (fun hg => ok_lenO Tryd.underlying33 (.head _) (htO rfl hg)) ?_
    refine RG.opGt rfl rfl rfl rfl (fun hg => ok_leq (htO rfl hg) hI) ?_
    refine RG.op (ok_pickAnd (ht rfl) (fun hb => (htO rfl hb))) rfl ?_
    refine RG.op (ok_assign (ht rfl)) rfl ?_
    refine RG.op (ok_assign (ht rfl)) rfl ?_
    refine RG.nil ?_
    refine AT.next ?_
    refine CG.ret ?_
    refine AT.freeze ?_
    refine AT.tipAt 4 rfl ?_
    refine AT.tipAt 84 rfl ?_
    refine AT.tipAt 2 rfl ?_
    refine AT.dataAt 2 rfl ?_
    refine AT.drop ?_
    refine AT.drop ?_
    cases so h
    exact AT.ret2 rfl rfl rfl
  · obtain ⟨hx, h⟩ := h
    refine LG.unfold ?_
    refine CG.seq ?_
    refine CG.region ?_
    refine RG.op (ok_lss (ht rfl) (ht rfl)) rfl ?_
    refine RG.nil ?_
    refine AT.next ?_
    refine CG.seq ?_
    refine CG.condT (ht rfl) (dropT hx) ?_
    refine CG.skip ?_
    refine AT.next ?_
    refine CG.seq ?_
    refine CG.block ?_
    refine CG.seq ?_
    refine CG.region ?_
    refine RG.op (ok_move (ht rfl)) rfl ?_
    refine RG.op (ok_indexAddr Tryd.underlying22 ti49 rfl (ht rfl) (ht rfl) (dropI hx)) rfl ?_
    refine RG.op (ok_load ti49 rfl rfl (ht rfl)) rfl ?_
    refine RG.alloc (r := rpDENode) (x := (⟨(0 : Int), (0 : Int), (0 : Int), (0 : Int), (⟨(0 : Int), (0 : Int), (0 : Int), []⟩ : DValue)⟩ : DENode)) ti49 (fun _ => zrDENode _) rfl (fun b => ?_)
    refine RG.op (ok_assign (ht rfl)) rfl ?_
    refine RG.storeB ti49 rfl sfld_whole rfl (ht rfl) (ht rfl) ?_
    refine RG.settleB 7 rfl ?_
    refine RG.nil ?_
    refine AT.next ?_
    refine CG.seq ?_
    refine CG.region ?_
    refine RG.op (ok_fieldAddr fd49_0 rfl flDENode_0 rfl (ht rfl)) rfl ?_
    refine RG.op (ok_load ti3 rfl rfl (ht rfl)) rfl ?_
    obtain ⟨r, q_r, h⟩ := bs h
    refine RG.op (ok_call cb27 (f27_ok _ q_r) ⟨(ht rfl), trivial⟩) rfl ?_
    refine RG.op (ok_assign (ht rfl)) rfl ?_
    refine RG.nil ?_
    refine AT.next ?_
    refine CG.seq ?_
    refine CG.seq ?_
    refine CG.region ?_
    refine RG.op (ok_move (ht rfl)) rfl ?_
    refine RG.op (ok_lss (ht rfl) hI) rfl ?_
    refine RG.op (ok_move (ht rfl)) rfl ?_
    refine RG.opGf rfl rfl rfl rfl (fun hg => ok_move (ht rfl)) ?_
    refine RG.opGf rfl rfl rfl rfl (fun hg => ok_move (ht rfl)) ?_
    refine RG.opGf rfl rfl rfl rfl (fun hg => ok_lenO Tryd.underlying33 (.tail _ (.head _)) (htO rfl hg)) ?_
    refine RG.opGf rfl rfl rfl rfl (fun hg => ok_gtr (htO rfl hg) (htO rfl hg)) ?_
    refine RG.op (ok_pickOr (ht rfl) (fun hb => (htO rfl (noti hb)))) rfl ?_
    refine RG.op (ok_move (ht rfl)) rfl ?_
    obtain ⟨t, q_t, h⟩ := bs h
    refine RG.opGf rfl rfl rfl rfl (fun hg => ok_load ti49 rfl rfl (ht rfl)) ?_
    obtain ⟨r1, h1t, h0t⟩ := og q_t
    have q_r1g := fun hb => (h1t hb).1
    refine RG.opGf rfl rfl rfl rfl (fun hg => ok_call cb28 (f28_ok _ (q_r1g hg)) ⟨(htO rfl hg), trivial⟩) ?_
    refine RG.opGf rfl rfl rfl rfl (fun hg => ok_not (htO rfl hg)) ?_
    refine RG.op (ok_pickOrM (ht rfl) (fun hb => (htO rfl (noti hb))) (fun hb => (h1t hb).2) h0t) rfl ?_
    refine RG.nil ?_
    refine AT.next ?_
    refine CG.cond (ht rfl) (fun hc => ?_) (fun hc => ?_)
    · have h := ct h hc
      refine CG.seq ?_
      refine CG.region ?_
      refine RG.op (ok_assign (show HasTy _ _ _ (tD (rSl (rI .i64)) ([])) from hNil)) rfl ?_
      refine RG.op (ok_assign hB) rfl ?_
      refine RG.nil ?_
      refine AT.next ?_
      refine CG.ret ?_
      refine AT.then_ret (AT.in_ret (AT.then_ret (AT.then_ret (AT.in_ret (AT.then_ret ?_)))))
      refine AT.drop ?_
      refine AT.drop ?_
      cases so h
      exact AT.ret2 rfl rfl rfl
    · have h := cf h hc
      refine CG.skip ?_
      refine AT.next ?_
      refine CG.seq ?_
      refine CG.region ?_
      refine RG.op (ok_move (ht rfl)) rfl ?_
      refine RG.op (ok_move (ht rfl)) rfl ?_
      refine RG.op (ok_lenO Tryd.underlying33 (.tail _ (.head _)) (ht rfl)) rfl ?_
      refine RG.op (ok_move (ht rfl)) rfl ?_
      refine RG.op (ok_sub (ht rfl) (ht rfl)) rfl ?_
      obtain ⟨y, q_y, h⟩ := bs h
      refine RG.op (ok_sliceLoO Tryd.underlying33 ti3 rfl (.tail _ (.head _)) (ht rfl) (ht rfl) q_y) rfl ?_
      refine RG.have_view (.tail _ (.head _)) q_y (fun hv => ?_)
      refine RG.op (ok_assign (ht rfl)) rfl ?_
      refine RG.nil ?_
      refine AT.next ?_
      refine CG.seq ?_
      refine CG.region ?_
      refine RG.op (ok_buildA (r := (rI .i64)) (ys := [(-1 : Int), (-1 : Int)]) (xs := [.const (.int .i64 (-1)), .const (.int .i64 (-1))]) Tryd.underlying68 ti3 rfl ti68 rfl rfl ⟨hI, hI, trivial⟩) rfl ?_
      refine RG.alloc (r := (rArr (rI .i64) 2)) (x := (List.replicate 2 (0 : Int))) ti68 (fun _ => arr_zero (r := (rI .i64)) 2 (fun _ => rfl) _) rfl (fun b1 => ?_)
      refine RG.storeB ti68 rfl sfld_whole rfl (ht rfl) (ht rfl) ?_
      refine RG.nil ?_
      refine AT.next ?_
      refine CG.seq ?_
      refine CG.region ?_
      refine RG.op (ok_move (ht rfl)) rfl ?_
      refine RG.op (ok_assign (ht rfl)) rfl ?_
      refine RG.nil ?_
      refine AT.next ?_
      refine CG.seq ?_
      refine CG.seq ?_
      refine CG.region ?_
      refine RG.op (ok_move (ht rfl)) rfl ?_
      refine RG.op (ok_lenV Tryd.underlying33 (.tail _ (.tail _ (.head _))) q_y (ht rfl)) rfl ?_
      refine RG.op (ok_move hI) rfl ?_
      refine RG.nil ?_
      refine AT.next ?_
      refine CG.block ?_
      have hN1 := hv.2
      refine CG.loop ?_
      refine LG.front2 ?_
      refine LG.front2 ?_
      refine LG.sub (LG.list3 (Z := fun ls1 i1 first at1 => (y.drop i1 = ls1) ∧ expr_firsts_l2 (expr_firsts_l1 tl) i e1 all open1 r ls1 i1 first at1 = some R) (Of := fun _ i1 first at1 => [arr (rI .i64) 3 l c all, arr (rI .i64) 3 l1 c1 open1, bx (rArr (rI .i64) 2) 68 b1 at1]) (Gf := fun _ i1 first at1 => [(4, tV (oslV l c all.length)), (5, tV (oslV l1 c1 open1.length)), (6, tD (rI .i64) (i : Int)), (7, tPtr rpDENode e1), (8, tD (rI .i64) r), (10, tV (bptr b1 0)), (11, tD (rI .i64) first), (15, tD (rSl rpDENode) e.Nodes), (16, tD (rI .i64) (e.Nodes.length : Int)), (17, tD (rI .i64) (i : Int)), (46, tV (vslV 1 l1 c1 (IntKind.i64.wrap ((open1.length : Int) - r)).toNat y.length)), (47, tD (rI .i64) (y.length : Int)), (48, tD (rI .i64) (i1 : Int))]) (fun i1 first at1 h => ?_) (fun e2 tl1 ih1 i1 first at1 h => ?_) y 0 (i : Int) ([(-1 : Int), (-1 : Int)]) ⟨rfl, h⟩) ⟨rfl, rfl, rfl, rfl, rfl, rfl, rfl, rfl, rfl, rfl, rfl, rfl, rfl, trivial⟩
      · obtain ⟨hx1, h⟩ := h
        refine LG.unfold ?_
        refine CG.seq ?_
        refine CG.region ?_
        refine RG.op (ok_lss (ht rfl) (ht rfl)) rfl ?_
        refine RG.nil ?_
        refine AT.next ?_
        refine CG.seq ?_
        refine CG.condF (ht rfl) (dropF hx1) ?_
        refine CG.exit ?_
        refine AT.then_exit (AT.then_exit (AT.in_exit ?_))
        refine AT.next ?_
        refine CG.seq ?_
        refine CG.seq ?_
        refine CG.region ?_
        refine RG.op (ok_loadB ti68 rfl rfl fld_whole (.tail _ (.tail _ (.head _))) (ht rfl)) rfl ?_
        refine RG.op (ok_fieldAddr fd49_1 rfl flDENode_1 rfl (ht rfl)) rfl ?_
        refine RG.op (ok_load ti3 rfl rfl (ht rfl)) rfl ?_
        refine RG.op (ok_fieldAddr fd49_2 rfl flDENode_2 rfl (ht rfl)) rfl ?_
        refine RG.op (ok_load ti3 rfl rfl (ht rfl)) rfl ?_
        refine RG.op (ok_buildA (r := (rI .i64)) (ys := [e1.L, e1.R]) (xs := [.tmp 65, .tmp 67]) Tryd.underlying68 ti3 rfl ti68 rfl rfl ⟨(ht rfl), (ht rfl), trivial⟩) rfl ?_
        refine RG.op (ok_neqD eq68 (ht rfl) (ht rfl)) rfl ?_
        refine RG.nil ?_
        refine AT.next ?_
        refine CG.cond (ht rfl) (fun hc => ?_) (fun hc => ?_)
        · have h := ct h hc
          refine CG.seq ?_
          refine CG.region ?_
          refine RG.op (ok_assign (show HasTy _ _ _ (tD (rSl (rI .i64)) ([])) from hNil)) rfl ?_
          refine RG.op (ok_assign hB) rfl ?_
          refine RG.nil ?_
          refine AT.next ?_
          refine CG.ret ?_
          refine AT.then_ret (AT.in_ret (AT.then_ret (AT.then_ret (AT.in_ret (AT.then_ret ?_)))))
          refine AT.drop ?_
          refine AT.drop ?_
          refine AT.drop ?_
          cases so h
          exact AT.ret2 rfl rfl rfl
        · have h := cf h hc
          refine CG.skip ?_
          refine AT.next ?_
          refine CG.seq ?_
          refine CG.region ?_
          refine RG.op (ok_move (ht rfl)) rfl ?_
          refine RG.op (ok_move (ht rfl)) rfl ?_
          refine RG.op (ok_buildSlice (r := (rI .i64)) (ys := [first]) (xs := [.tmp 71]) Tryd.underlying33 ti3 rfl rfl rfl rfl rfl ⟨(ht rfl), trivial⟩) rfl ?_
          obtain ⟨all1, q_all1, h⟩ := bs h
          refine RG.append ti3 rfl rfl rfl rfl Tryd.underlying33 rfl rfl (ht rfl) (ht rfl) q_all1 (fun l2 c2 => ?_)
          refine RG.op (ok_assign (ht rfl)) rfl ?_
          refine RG.nil ?_
          refine AT.next ?_
          refine CG.region ?_
          refine RG.op (ok_move (ht rfl)) rfl ?_
          refine RG.op (ok_move (ht rfl)) rfl ?_
          refine RG.op (ok_lenO Tryd.underlying33 (.tail _ (.head _)) (ht rfl)) rfl ?_
          refine RG.op (ok_move (ht rfl)) rfl ?_
          refine RG.op (ok_sub (ht rfl) (ht rfl)) rfl ?_
          obtain ⟨y1, q_y1, h⟩ := bs h
          refine RG.op (ok_sliceHiO Tryd.underlying33 ti3 rfl (.tail _ (.head _)) (ht rfl) (ht rfl) q_y1) rfl ?_
          refine RG.op (ok_move (ht rfl)) rfl ?_
          refine RG.op (ok_buildSlice (r := (rI .i64)) (ys := [(i : Int)]) (xs := [.tmp 80]) Tryd.underlying33 ti3 rfl rfl rfl rfl rfl ⟨(ht rfl), trivial⟩) rfl ?_
          refine RG.front1 ?_
          refine RG.cut q_y1 ?_
          obtain ⟨open2, q_open2, h⟩ := bs h
          refine RG.append ti3 rfl rfl rfl rfl Tryd.underlying33 rfl rfl (ht rfl) (ht rfl) q_open2 (fun l3 c3 => ?_)
          refine RG.op (ok_assign (ht rfl)) rfl ?_
          refine RG.nil ?_
          refine AT.in_normal ?_
          refine AT.next ?_
          refine CG.region ?_
          refine RG.op (ok_incN (dropL hx hN) (ht rfl) hI) rfl ?_
          refine RG.op (ok_move (ht rfl)) rfl ?_
          refine RG.nil ?_
          refine AT.front2 ?_
          refine AT.drop ?_
          refine AT.front1 ?_
          exact AT.round (LG.sub (ih (i + 1) all1 l2 c2 open2 l3 c3 ⟨dropS hx, h⟩) ⟨rfl, rfl, rfl, rfl, rfl, trivial⟩)
      · obtain ⟨hx1, h⟩ := h
        refine LG.unfold ?_
        refine CG.seq ?_
        refine CG.region ?_
        refine RG.op (ok_lss (ht rfl) (ht rfl)) rfl ?_
        refine RG.nil ?_
        refine AT.next ?_
        refine CG.seq ?_
        refine CG.condT (ht rfl) (dropT hx1) ?_
        refine CG.skip ?_
        refine AT.next ?_
        refine CG.seq ?_
        refine CG.block ?_
        refine CG.seq ?_
        refine CG.region ?_
        refine RG.op (ok_move (ht rfl)) rfl ?_
        refine RG.op (ok_indexAddrV Tryd.underlying33 ti3 rfl (.tail _ (.head _)) q_y (ht rfl) (ht rfl) (dropI hx1)) rfl ?_
        refine RG.op (ok_loadE (r := (rI .i64)) (i := ((IntKind.i64.wrap ((open1.length : Int) - r)) + (i1 : Int))) (foff := 0) ti3 rfl rfl fld_whole rfl (.tail _ (.head _)) (sliceF_idx q_y (dropI hx1)).1 (ht rfl)) rfl ?_
        refine RG.op (ok_assign (ht rfl)) rfl ?_
        refine RG.op (ok_assign (ht rfl)) rfl ?_
        refine RG.nil ?_
        refine AT.next ?_
        obtain ⟨e3, q_e3, h⟩ := bs h
        obtain ⟨e4, q_e4, h⟩ := bs h
        obtain ⟨ar, q_ar, h⟩ := bs h
        refine CG.drawS 10 [tc (tD (rI .i64) (i1 : Int)), tc (tD (rI .i64) e2), tc (tD (rI .i64) first), tc (tV (oslV l c all.length)), tc (tD (rI .i64) e2), tc (tV (eptr l (e2.toNat * 1 + 0))), tc (tD (rI .i64) e3), tc (tD (rI .i64) (min first e3)), tc (tV (bptr b1 ((i1 : Int).toNat * 1))), tc (tAny)] [false, false, false, false, false, false, false, false, false, true] [fun _ => [arr (rI .i64) 3 l c all, arr (rI .i64) 3 l1 c1 open1, bx (rArr (rI .i64) 2) 68 b1 at1], fun sg => [bx (rArr (rI .i64) 2) 68 b1 ar, arr (rI .i64) 3 l c all, arr (rI .i64) 3 l1 c1 open1]] rfl mixed rfl rfl rfl rfl rfl
          ⟨⟨[⟨12, fun _ => tD (rI .i64) (i1 : Int), none⟩], _, 0, 0, rfl, ⟨(fun _ => rfl), trivial⟩, rfl, rfl, rfl, rfl, rfl, fun _ sg _ _ => OpG.plain rfl (ok_move (ht rfl))⟩,
          ⟨⟨[⟨13, fun _ => tD (rI .i64) e2, none⟩], _, 0, 0, rfl, ⟨(fun _ => rfl), trivial⟩, rfl, rfl, rfl, rfl, rfl, fun _ sg _ _ => OpG.plain rfl (ok_move (ht rfl))⟩,
          ⟨⟨[⟨11, fun _ => tD (rI .i64) first, none⟩], _, 0, 1, rfl, ⟨(fun _ => rfl), trivial⟩, rfl, rfl, rfl, rfl, rfl, fun _ sg _ _ => OpG.plain rfl (ok_move (ht rfl))⟩,
          ⟨⟨[⟨4, fun _ => tV (oslV l c all.length), none⟩], _, 0, 1, rfl, ⟨(fun _ => rfl), trivial⟩, rfl, rfl, rfl, rfl, rfl, fun _ sg _ _ => OpG.plain rfl (ok_move (ht rfl))⟩,
          ⟨⟨[⟨13, fun _ => tD (rI .i64) e2, none⟩], _, 0, 1, rfl, ⟨(fun _ => rfl), trivial⟩, rfl, rfl, rfl, rfl, rfl, fun _ sg _ _ => OpG.plain rfl (ok_move (ht rfl))⟩,
          ⟨⟨[⟨56, fun _ => tV (oslV l c all.length), some 3⟩, ⟨57, fun _ => tD (rI .i64) e2, some 4⟩], _, 0, 1, rfl, ⟨(fun _ => rfl), (fun _ => rfl), trivial⟩, rfl, rfl, rfl, rfl, rfl, winS (fun sg => OpG.plain rfl (ok_indexAddrO Tryd.underlying33 ti3 (.head _) (ht rfl) (ht rfl) q_e3)) (win1 (fun sg => OpG.plain rfl (ok_indexAddrO Tryd.underlying33 ti3 (.tail _ (.head _)) (ht rfl) (ht rfl) q_e3)))⟩,
          ⟨⟨[⟨58, fun _ => tV (eptr l (e2.toNat * 1 + 0)), some 5⟩], _, 0, 1, rfl, ⟨(fun _ => rfl), trivial⟩, rfl, rfl, rfl, rfl, rfl, winS (fun sg => OpG.plain rfl (ok_loadE (r := (rI .i64)) (i := e2) (foff := 0) ti3 rfl rfl fld_whole rfl (.head _) q_e3 (ht rfl))) (win1 (fun sg => OpG.plain rfl (ok_loadE (r := (rI .i64)) (i := e2) (foff := 0) ti3 rfl rfl fld_whole rfl (.tail _ (.head _)) q_e3 (ht rfl))))⟩,
          ⟨⟨[⟨55, fun _ => tD (rI .i64) first, some 2⟩, ⟨59, fun _ => tD (rI .i64) e3, some 6⟩], _, 0, 1, rfl, ⟨(fun _ => rfl), (fun _ => rfl), trivial⟩, rfl, rfl, rfl, rfl, rfl, fun _ sg _ _ => OpG.plain rfl (ok_min2 (ht rfl) (ht rfl))⟩,
          ⟨⟨[⟨10, fun _ => tV (bptr b1 0), none⟩, ⟨53, fun _ => tD (rI .i64) (i1 : Int), some 0⟩], _, 0, 0, rfl, ⟨(fun _ => rfl), (fun _ => rfl), trivial⟩, rfl, rfl, rfl, rfl, rfl, win1 (fun sg => OpG.plain rfl (ok_indexAddrX Tryd.underlying68 ti3 (.tail _ (.tail _ (.head _))) (ht rfl) (ht rfl) q_e4))⟩,
          ⟨⟨[⟨61, fun _ => tV (bptr b1 ((i1 : Int).toNat * 1)), some 8⟩, ⟨54, fun _ => tD (rI .i64) e2, some 1⟩], _, rfl, ⟨(fun _ => rfl), (fun _ => rfl), trivial⟩, rfl, rfl, rfl, fun sg => EffG.plain rfl (EffOK.fr2 (eff_storeA ti3 rfl q_e4 (so q_ar) (ht rfl) (ht rfl)))⟩,
          trivial⟩⟩⟩⟩⟩⟩⟩⟩⟩⟩ (fun sg => ?_)
        refine (show RG _ _ _ _ [bx (rArr (rI .i64) 2) 68 b1 ar, arr (rI .i64) 3 l c all, arr (rI .i64) 3 l1 c1 open1] _ from ?_)
        refine RG.op (ok_assign (ht rfl)) rfl ?_
        refine RG.nil ?_
        refine AT.in_normal ?_
        refine AT.next ?_
        refine CG.region ?_
        refine RG.op (ok_incN (dropL hx1 hN1) (ht rfl) hI) rfl ?_
        refine RG.op (ok_move (ht rfl)) rfl ?_
        refine RG.nil ?_
        refine AT.front2 ?_
        refine AT.front2 ?_
        exact AT.round (LG.sub (ih1 (i1 + 1) (min first e3) ar ⟨dropS hx1, h⟩) ⟨rfl, rfl, rfl, rfl, rfl, rfl, rfl, rfl, rfl, rfl, rfl, rfl, rfl, trivial⟩)

set_option maxRecDepth 100000 in
theorem f6_ok (e : DExpr) {R : Int} (h : expr_Check e = some R) : Spec Tryd.prog 6 [tD rpDExpr e] (tD (rI .i64) R) := by
  refine Spec.of Tryd.func6 rfl rfl rfl fun w0 S0 => ?_
  refine CG.seq ?_
  refine CG.region ?_
  refine RG.op (ok_box (ht rfl)) rfl ?_
  refine RG.op (ok_assign hI) rfl ?_
  refine RG.nil ?_
  refine AT.next ?_
  refine CG.seq ?_
  refine CG.seq ?_
  refine CG.region ?_
  refine RG.op (ok_load ti24 rfl rfl (ht rfl)) rfl ?_
  obtain ⟨r, q_r, h⟩ := bs h
  refine RG.op (ok_call cb15 (f15_ok _ q_r) ⟨(ht rfl), trivial⟩) rfl ?_
  refine RG.op (ok_move (ht rfl)) rfl ?_
  refine RG.op (ok_extract rfl (ht rfl)) rfl ?_
  refine RG.op (ok_extract rfl (ht rfl)) rfl ?_
  refine RG.op (ok_assign (ht rfl)) rfl ?_
  refine RG.op (ok_assign (ht rfl)) rfl ?_
  refine RG.nil ?_
  refine AT.next ?_
  refine CG.seq ?_
  refine CG.region ?_
  refine RG.op (ok_move (ht rfl)) rfl ?_
  refine RG.op (ok_not (ht rfl)) rfl ?_
  refine RG.nil ?_
  refine AT.next ?_
  refine CG.cond (ht rfl) (fun hc => ?_) (fun hc => ?_)
  · have h := ct h hc
    refine CG.seq ?_
    refine CG.region ?_
    refine RG.op (ok_assign hI) rfl ?_
    refine RG.nil ?_
    refine AT.next ?_
    refine CG.ret ?_
    refine AT.then_ret ?_
    cases so h
    exact AT.ret1 rfl rfl
  · have h := cf h hc
    refine CG.skip ?_
    refine AT.next ?_
    refine CG.seq ?_
    refine CG.region ?_
    refine RG.op (ok_assign hI) rfl ?_
    refine RG.nil ?_
    refine AT.next ?_
    refine CG.ret ?_
    cases so h
    exact AT.ret1 rfl rfl

set_option maxRecDepth 100000 in
theorem f18_m (l : Option Nat) (c : Nat) (s : (List Int)) {R : (List Int)} (h : slices_Compact_int_int s = some R) : SpecM Tryd.prog 18 [tV (oslV l c s.length)] [arr (rI .i64) 3 l c s] (fun i : OI => tV (oslV (i.h 0).1 (i.h 0).2 R.length)) (fun i => [arr (rI .i64) 3 (i.h 0).1 (i.h 0).2 R]) := by
  refine SpecM.of Tryd.func18 rfl rfl rfl fun w0 S0 => ?_
  refine CG.seq ?_
  refine CG.region ?_
  refine RG.fresh false (rI .i64) 3 ?_
  refine RG.op (ok_assign hVn) rfl ?_
  refine RG.nil ?_
  refine AT.next ?_
  refine CG.seq ?_
  refine CG.seq ?_
  refine CG.region ?_
  refine RG.op (ok_move (ht rfl)) rfl ?_
  refine RG.op (ok_lenO Tryd.underlying33 (.tail _ (.head _)) (ht rfl)) rfl ?_
  refine RG.op (ok_lss (ht rfl) hI) rfl ?_
  refine RG.nil ?_
  refine AT.next ?_
  refine CG.cond (ht rfl) (fun hc => ?_) (fun hc => ?_)
  · have h := ct h hc
    refine CG.seq ?_
    refine CG.region ?_
    refine RG.op (ok_move (ht rfl)) rfl ?_
    refine RG.op (ok_assign (ht rfl)) rfl ?_
    refine RG.nil ?_
    refine AT.next ?_
    refine CG.ret ?_
    refine AT.then_ret ?_
    refine AT.drop ?_
    cases so h
    exact AT.retM1 rfl (oi l c) rfl rfl (fun _ _ h => h)
  · have h := cf h hc
    refine CG.skip ?_
    refine AT.next ?_
    refine CG.seq ?_
    refine CG.seq ?_
    refine CG.region ?_
    refine RG.op (ok_assign hI) rfl ?_
    refine RG.nil ?_
    refine AT.next ?_
    refine CG.block ?_
    refine CG.have_lenA (.tail _ (.head _)) (fun hN => ?_)
    refine CG.loop ?_
    refine LG.drop ?_
    refine LG.sub (LG.list1 (Z := fun ls i  => (s.drop i = ls) ∧ slices_Compact_int_int_l1 s ls i  = some R) (Of := fun _ i  => [arr (rI .i64) 3 l c s]) (Gf := fun _ i  => [(0, tV (oslV l c s.length)), (3, tD (rI .i64) (i : Int))]) (fun i  h => ?_) (fun e tl ih i  h => ?_) (s.drop (1)) 1  ⟨rfl, h⟩) ⟨rfl, rfl, trivial⟩
    · obtain ⟨hx, h⟩ := h
      refine LG.unfold ?_
      refine CG.seq ?_
      refine CG.seq ?_
      refine CG.region ?_
      refine RG.op (ok_move (ht rfl)) rfl ?_
      refine RG.op (ok_move (ht rfl)) rfl ?_
      refine RG.op (ok_lenO Tryd.underlying33 (.head _) (ht rfl)) rfl ?_
      refine RG.op (ok_lss (ht rfl) (ht rfl)) rfl ?_
      refine RG.nil ?_
      refine AT.next ?_
      refine CG.condF (ht rfl) (dropF hx) ?_
      refine CG.exit ?_
      refine AT.then_exit (AT.then_exit (AT.in_exit ?_))
      refine AT.next ?_
      refine CG.seq ?_
      refine CG.region ?_
      refine RG.op (ok_move (ht rfl)) rfl ?_
      refine RG.op (ok_assign (ht rfl)) rfl ?_
      refine RG.nil ?_
      refine AT.next ?_
      refine CG.ret ?_
      cases so h
      exact AT.retM1 rfl (oi l c) rfl rfl (fun _ _ h => h)
    · obtain ⟨hx, h⟩ := h
      refine LG.unfold ?_
      refine CG.seq ?_
      refine CG.seq ?_
      refine CG.region ?_
      refine RG.op (ok_move (ht rfl)) rfl ?_
      refine RG.op (ok_move (ht rfl)) rfl ?_
      refine RG.op (ok_lenO Tryd.underlying33 (.head _) (ht rfl)) rfl ?_
      refine RG.op (ok_lss (ht rfl) (ht rfl)) rfl ?_
      refine RG.nil ?_
      refine AT.next ?_
      refine CG.condT (ht rfl) (dropT hx) ?_
      refine CG.skip ?_
      refine AT.next ?_
      refine CG.seq ?_
      refine CG.block ?_
      refine CG.seq ?_
      obtain ⟨e1, q_e1, h⟩ := bs h
      refine CG.draw (ts := [tV (oslV l c s.length), tD (rI .i64) (i : Int), tV (eptr l ((i : Int).toNat * 1 + 0)), tD (rI .i64) e, tV (oslV l c s.length), tD (rI .i64) (i : Int), tD (rI .i64) (IntKind.i64.wrap ((i : Int) - (1 : Int))), tV (eptr l ((IntKind.i64.wrap ((i : Int) - (1 : Int))).toNat * 1 + 0)), tD (rI .i64) e1, tD rB (e == e1)]) mixed rfl rfl
        ⟨⟨[⟨0, _, none⟩], _, rfl, ⟨rfl, trivial⟩, rfl, rfl, OpG.plain rfl (ok_move (ht rfl))⟩,
        ⟨⟨[⟨3, _, none⟩], _, rfl, ⟨rfl, trivial⟩, rfl, rfl, OpG.plain rfl (ok_move (ht rfl))⟩,
        ⟨⟨[⟨16, _, some 0⟩, ⟨17, _, some 1⟩], _, rfl, ⟨rfl, rfl, trivial⟩, rfl, rfl, OpG.plain rfl (ok_indexAddrO Tryd.underlying33 ti3 (.head _) (ht rfl) (ht rfl) (dropI hx))⟩,
        ⟨⟨[⟨18, _, some 2⟩], _, rfl, ⟨rfl, trivial⟩, rfl, rfl, OpG.plain rfl (ok_loadE (r := (rI .i64)) (i := (i : Int)) (foff := 0) ti3 rfl rfl fld_whole rfl (.head _) (dropI hx) (ht rfl))⟩,
        ⟨⟨[⟨0, _, none⟩], _, rfl, ⟨rfl, trivial⟩, rfl, rfl, OpG.plain rfl (ok_move (ht rfl))⟩,
        ⟨⟨[⟨3, _, none⟩], _, rfl, ⟨rfl, trivial⟩, rfl, rfl, OpG.plain rfl (ok_move (ht rfl))⟩,
        ⟨⟨[⟨21, _, some 5⟩], _, rfl, ⟨rfl, trivial⟩, rfl, rfl, OpG.plain rfl (ok_sub (ht rfl) hI)⟩,
        ⟨⟨[⟨20, _, some 4⟩, ⟨22, _, some 6⟩], _, rfl, ⟨rfl, rfl, trivial⟩, rfl, rfl, OpG.plain rfl (ok_indexAddrO Tryd.underlying33 ti3 (.head _) (ht rfl) (ht rfl) q_e1)⟩,
        ⟨⟨[⟨23, _, some 7⟩], _, rfl, ⟨rfl, trivial⟩, rfl, rfl, OpG.plain rfl (ok_loadE (r := (rI .i64)) (i := (IntKind.i64.wrap ((i : Int) - (1 : Int)))) (foff := 0) ti3 rfl rfl fld_whole rfl (.head _) q_e1 (ht rfl))⟩,
        ⟨⟨[⟨19, _, some 3⟩, ⟨24, _, some 8⟩], _, rfl, ⟨rfl, rfl, trivial⟩, rfl, rfl, OpG.plain rfl (ok_eqlI (ht rfl) (ht rfl))⟩,
        trivial⟩⟩⟩⟩⟩⟩⟩⟩⟩⟩ ?_
      refine AT.next ?_
      refine CG.cond (ht rfl) (fun hc => ?_) (fun hc => ?_)
      · have h := ct h hc
        refine CG.seq ?_
        refine CG.region ?_
        refine RG.op (ok_move (ht rfl)) rfl ?_
        refine RG.op (ok_move (ht rfl)) rfl ?_
        obtain ⟨y, q_y, h⟩ := bs h
        refine RG.op (ok_sliceLoO Tryd.underlying33 ti3 rfl (.head _) (ht rfl) (ht rfl) q_y) rfl ?_
        refine RG.have_view (.head _) q_y (fun hv => ?_)
        refine RG.op (ok_assign (ht rfl)) rfl ?_
        refine RG.nil ?_
        refine AT.next ?_
        refine CG.seq ?_
        refine CG.seq ?_
        refine CG.region ?_
        refine RG.op (ok_assign hI) rfl ?_
        refine RG.nil ?_
        refine AT.next ?_
        refine CG.block ?_
        refine CG.loop ?_
        refine LG.sub (LG.nat3 (Z := fun k1 i1 s1 k => (y.length - i1 = k1) ∧ slices_Compact_int_int_l2 i y k1 i1 s1 k = some R) (Of := fun _ i1 s1 k => [arr (rI .i64) 3 l c s1]) (Gf := fun _ i1 s1 k => [(0, tV (oslV l c s1.length)), (3, tD (rI .i64) k), (4, tV (vslV 1 l c (i : Int).toNat y.length)), (5, tD (rI .i64) (i1 : Int))]) (fun i1 s1 k h => ?_) (fun k2 ih1 i1 s1 k h => ?_) (y.length - 1) 1 s (i : Int) ⟨rfl, h⟩) ⟨rfl, rfl, rfl, rfl, trivial⟩
        · obtain ⟨hx1, h⟩ := h
          refine LG.unfold ?_
          refine CG.seq ?_
          refine CG.seq ?_
          refine CG.region ?_
          refine RG.op (ok_move (ht rfl)) rfl ?_
          refine RG.op (ok_move (ht rfl)) rfl ?_
          refine RG.op (ok_lenW Tryd.underlying33 hv.1 (ht rfl)) rfl ?_
          refine RG.op (ok_lss (ht rfl) (ht rfl)) rfl ?_
          refine RG.nil ?_
          refine AT.next ?_
          refine CG.condF (ht rfl) (natF hx1) ?_
          refine CG.exit ?_
          refine AT.then_exit (AT.then_exit (AT.in_exit ?_))
          refine AT.next ?_
          refine CG.seq ?_
          refine CG.region ?_
          refine RG.op (ok_move (ht rfl)) rfl ?_
          refine RG.op (ok_move (ht rfl)) rfl ?_
          obtain ⟨y1, q_y1, h⟩ := bs h
          refine RG.op (ok_sliceLoO Tryd.underlying33 ti3 rfl (.head _) (ht rfl) (ht rfl) q_y1) rfl ?_
          refine RG.have_view (.head _) q_y1 (fun hv1 => ?_)
          obtain ⟨cl, q_cl, h⟩ := bs h
          refine RG.clearV ti3 rfl rfl Tryd.underlying33 (fun _ => rfl) rfl q_y1 (ht rfl) (so q_cl) ?_
          refine RG.relen2 (clear_len q_y1 (so q_cl)) 0 rfl ?_
          refine RG.relen2 (clear_len q_y1 (so q_cl)) 54 rfl ?_
          refine RG.nil ?_
          refine AT.next ?_
          refine CG.seq ?_
          refine CG.region ?_
          refine RG.op (ok_move (ht rfl)) rfl ?_
          refine RG.op (ok_move (ht rfl)) rfl ?_
          obtain ⟨y2, q_y2, h⟩ := bs h
          refine RG.op (ok_sliceHiO Tryd.underlying33 ti3 rfl (.head _) (ht rfl) (ht rfl) q_y2) rfl ?_
          refine RG.cut q_y2 ?_
          refine RG.op (ok_assign (ht rfl)) rfl ?_
          refine RG.nil ?_
          refine AT.next ?_
          refine CG.ret ?_
          refine AT.in_ret (AT.then_ret (AT.then_ret (AT.in_ret (AT.then_ret ?_))))
          cases so h
          exact AT.retM1 rfl (oi l c) rfl rfl (fun _ _ h => h)
        · obtain ⟨hx1, h⟩ := h
          refine LG.unfold ?_
          refine CG.seq ?_
          refine CG.seq ?_
          refine CG.region ?_
          refine RG.op (ok_move (ht rfl)) rfl ?_
          refine RG.op (ok_move (ht rfl)) rfl ?_
          refine RG.op (ok_lenW Tryd.underlying33 hv.1 (ht rfl)) rfl ?_
          refine RG.op (ok_lss (ht rfl) (ht rfl)) rfl ?_
          refine RG.nil ?_
          refine AT.next ?_
          refine CG.condT (ht rfl) (natT hx1) ?_
          refine CG.skip ?_
          refine AT.next ?_
          refine CG.seq ?_
          refine CG.block ?_
          refine CG.seq ?_
          obtain ⟨e3, q_e3, h⟩ := bs h
          obtain ⟨e4, q_e4, h⟩ := bs h
          refine CG.draw (ts := [tV (vslV 1 l c (i : Int).toNat y.length), tD (rI .i64) (i1 : Int), tV (eptr l (((i : Int) + (i1 : Int)).toNat * 1 + 0)), tD (rI .i64) e3, tV (vslV 1 l c (i : Int).toNat y.length), tD (rI .i64) (i1 : Int), tD (rI .i64) (IntKind.i64.wrap ((i1 : Int) - (1 : Int))), tV (eptr l (((i : Int) + (IntKind.i64.wrap ((i1 : Int) - (1 : Int)))).toNat * 1 + 0)), tD (rI .i64) e4, tD rB (e3 != e4)]) mixed rfl rfl
            ⟨⟨[⟨4, _, none⟩], _, rfl, ⟨rfl, trivial⟩, rfl, rfl, OpG.plain rfl (ok_move (ht rfl))⟩,
            ⟨⟨[⟨5, _, none⟩], _, rfl, ⟨rfl, trivial⟩, rfl, rfl, OpG.plain rfl (ok_move (ht rfl))⟩,
            ⟨⟨[⟨35, _, some 0⟩, ⟨36, _, some 1⟩], _, rfl, ⟨rfl, rfl, trivial⟩, rfl, rfl, OpG.plain rfl (ok_indexAddrW Tryd.underlying33 ti3 rfl (.head _) (sliceF_lo q_y) (ht rfl) (ht rfl) q_e3)⟩,
            ⟨⟨[⟨37, _, some 2⟩], _, rfl, ⟨rfl, trivial⟩, rfl, rfl, OpG.plain rfl (ok_loadE (r := (rI .i64)) (i := ((i : Int) + (i1 : Int))) (foff := 0) ti3 rfl rfl fld_whole rfl (.head _) (idxV_some q_e3).2.2 (ht rfl))⟩,
            ⟨⟨[⟨4, _, none⟩], _, rfl, ⟨rfl, trivial⟩, rfl, rfl, OpG.plain rfl (ok_move (ht rfl))⟩,
            ⟨⟨[⟨5, _, none⟩], _, rfl, ⟨rfl, trivial⟩, rfl, rfl, OpG.plain rfl (ok_move (ht rfl))⟩,
            ⟨⟨[⟨40, _, some 5⟩], _, rfl, ⟨rfl, trivial⟩, rfl, rfl, OpG.plain rfl (ok_sub (ht rfl) hI)⟩,
            ⟨⟨[⟨39, _, some 4⟩, ⟨41, _, some 6⟩], _, rfl, ⟨rfl, rfl, trivial⟩, rfl, rfl, OpG.plain rfl (ok_indexAddrW Tryd.underlying33 ti3 rfl (.head _) (sliceF_lo q_y) (ht rfl) (ht rfl) q_e4)⟩,
            ⟨⟨[⟨42, _, some 7⟩], _, rfl, ⟨rfl, trivial⟩, rfl, rfl, OpG.plain rfl (ok_loadE (r := (rI .i64)) (i := ((i : Int) + (IntKind.i64.wrap ((i1 : Int) - (1 : Int))))) (foff := 0) ti3 rfl rfl fld_whole rfl (.head _) (idxV_some q_e4).2.2 (ht rfl))⟩,
            ⟨⟨[⟨38, _, some 3⟩, ⟨43, _, some 8⟩], _, rfl, ⟨rfl, rfl, trivial⟩, rfl, rfl, OpG.plain rfl (ok_neqI (ht rfl) (ht rfl))⟩,
            trivial⟩⟩⟩⟩⟩⟩⟩⟩⟩⟩ ?_
          refine AT.next ?_
          refine CG.cond (ht rfl) (fun hc => ?_) (fun hc => ?_)
          · have h := ct h hc
            refine CG.seq ?_
            refine CG.region ?_
            refine RG.op (ok_move (ht rfl)) rfl ?_
            refine RG.op (ok_move (ht rfl)) rfl ?_
            refine RG.op (ok_move (ht rfl)) rfl ?_
            refine RG.op (ok_move (ht rfl)) rfl ?_
            obtain ⟨e5, q_e5, h⟩ := bs h
            refine RG.op (ok_indexAddrW Tryd.underlying33 ti3 rfl (.head _) (sliceF_lo q_y) (ht rfl) (ht rfl) q_e5) rfl ?_
            refine RG.op (ok_loadE (r := (rI .i64)) (i := ((i : Int) + (i1 : Int))) (foff := 0) ti3 rfl rfl fld_whole rfl (.head _) (idxV_some q_e5).2.2 (ht rfl)) rfl ?_
            obtain ⟨e6, q_e6, h⟩ := bs h
            refine RG.op (ok_indexAddrO Tryd.underlying33 ti3 (.head _) (ht rfl) (ht rfl) q_e6) rfl ?_
            obtain ⟨st, q_st, h⟩ := bs h
            refine RG.storeE ti3 rfl sfld_whole rfl q_e6 (so q_st) (ht rfl) (ht rfl) ?_
            refine RG.relen2 (set_len (so q_st)) 0 rfl ?_
            refine RG.relen2 (set_len (so q_st)) 45 rfl ?_
            refine RG.nil ?_
            refine AT.next ?_
            refine CG.region ?_
            refine RG.op (ok_move (ht rfl)) rfl ?_
            refine RG.op (ok_add (ht rfl) hI) rfl ?_
            refine RG.op (ok_assign (ht rfl)) rfl ?_
            refine RG.nil ?_
            refine AT.in_normal ?_
            refine AT.next ?_
            refine CG.region ?_
            refine RG.op (ok_move (ht rfl)) rfl ?_
            refine RG.op (ok_incN (natL hx1 (maxN hv.2)) (ht rfl) hI) rfl ?_
            refine RG.op (ok_assign (ht rfl)) rfl ?_
            refine RG.nil ?_
            exact AT.round (LG.sub (ih1 (i1 + 1) st (IntKind.i64.wrap (k + (1 : Int))) ⟨natS hx1, h⟩) ⟨rfl, rfl, rfl, rfl, trivial⟩)
          · have h := cf h hc
            refine CG.skip ?_
            refine AT.in_normal ?_
            refine AT.next ?_
            refine CG.region ?_
            refine RG.op (ok_move (ht rfl)) rfl ?_
            refine RG.op (ok_incN (natL hx1 (maxN hv.2)) (ht rfl) hI) rfl ?_
            refine RG.op (ok_assign (ht rfl)) rfl ?_
            refine RG.nil ?_
            exact AT.round (LG.sub (ih1 (i1 + 1) s1 k ⟨natS hx1, h⟩) ⟨rfl, rfl, rfl, rfl, trivial⟩)
      · have h := cf h hc
        refine CG.skip ?_
        refine AT.in_normal ?_
        refine AT.next ?_
        refine CG.region ?_
        refine RG.op (ok_move (ht rfl)) rfl ?_
        refine RG.op (ok_incN (dropL hx hN) (ht rfl) hI) rfl ?_
        refine RG.op (ok_assign (ht rfl)) rfl ?_
        refine RG.nil ?_
        exact AT.round (LG.sub (ih (i + 1)  ⟨dropS hx, h⟩) ⟨rfl, rfl, trivial⟩)

set_option maxRecDepth 100000 in
theorem f8_own (e : DExpr) {R : (List Int)} (h : expr_Cols e = some R) : SpecO Tryd.prog 8 [tD rpDExpr e] false (rI .i64) 3 R := by
  refine SpecO.of Tryd.func8 rfl rfl rfl fun w0 S0 => ?_
  refine CG.seq ?_
  refine CG.region ?_
  refine RG.op (ok_box (ht rfl)) rfl ?_
  refine RG.fresh false (rI .i64) 3 ?_
  refine RG.op (ok_assign hVn) rfl ?_
  refine RG.nil ?_
  refine AT.next ?_
  refine CG.seq ?_
  refine CG.seq ?_
  refine CG.region ?_
  refine RG.op (ok_load ti24 rfl rfl (ht rfl)) rfl ?_
  obtain ⟨r, q_r, h⟩ := bs h
  refine RG.op (ok_call cb6 (f6_ok _ q_r) ⟨(ht rfl), trivial⟩) rfl ?_
  refine RG.op (ok_neqI (ht rfl) hI) rfl ?_
  refine RG.nil ?_
  refine AT.next ?_
  refine CG.cond (ht rfl) (fun hc => ?_) (fun hc => ?_)
  · have h := ct h hc
    refine CG.seq ?_
    refine CG.region ?_
    refine RG.fresh false (rI .i64) 3 ?_
    refine RG.op (ok_assign hVn) rfl ?_
    refine RG.nil ?_
    refine AT.next ?_
    refine CG.ret ?_
    refine AT.then_ret ?_
    cases so h
    exact AT.retO rfl rfl
  · have h := cf h hc
    refine CG.skip ?_
    refine AT.next ?_
    refine CG.seq ?_
    refine CG.region ?_
    refine RG.fresh false (rI .i64) 3 ?_
    refine RG.op (ok_assign hVn) rfl ?_
    refine RG.nil ?_
    refine AT.next ?_
    refine CG.seq ?_
    refine CG.seq ?_
    refine CG.region ?_
    refine RG.op (ok_fieldAddr fd24_0 rfl flDExpr_0 rfl (ht rfl)) rfl ?_
    refine RG.op (ok_load ti22 rfl rfl (ht rfl)) rfl ?_
    refine RG.op (ok_lenSl Tryd.underlying22 (ht rfl)) rfl ?_
    refine RG.op (ok_move hI) rfl ?_
    refine RG.nil ?_
    refine AT.next ?_
    refine CG.block ?_
    refine CG.have_len (k := 10) rfl (fun hN => ?_)
    refine CG.loop ?_
    refine LG.front1 ?_
    refine LG.drop ?_
    refine LG.sub (LG.list4 (Z := fun ls i out l c => (e.Nodes.drop i = ls) ∧ expr_Cols_l1 ls out = some R) (Of := fun _ i out l c => [arr (rI .i64) 3 l c out]) (Gf := fun _ i out l c => [(3, tV (oslV l c out.length)), (10, tD (rSl rpDENode) e.Nodes), (11, tD (rI .i64) (e.Nodes.length : Int)), (12, tD (rI .i64) (i : Int))]) (fun i out l c h => ?_) (fun e1 tl ih i out l c h => ?_) e.Nodes 0 ([] : List Int) none 0 ⟨rfl, h⟩) ⟨rfl, rfl, rfl, rfl, trivial⟩
    · obtain ⟨hx, h⟩ := h
      refine LG.unfold ?_
      refine CG.seq ?_
      refine CG.region ?_
      refine RG.op (ok_lss (ht rfl) (ht rfl)) rfl ?_
      refine RG.nil ?_
      refine AT.next ?_
      refine CG.seq ?_
      refine CG.condF (ht rfl) (dropF hx) ?_
      refine CG.exit ?_
      refine AT.then_exit (AT.then_exit (AT.in_exit ?_))
      refine AT.next ?_
      refine CG.seq ?_
      refine CG.region ?_
      refine RG.op (ok_move (ht rfl)) rfl ?_
      obtain ⟨srt, q_srt, h⟩ := bs h
      refine RG.sortI (n := out.length) (ys := srt) Tryd.sortI17 ?_ cb17 ?_ ?_ ?_ ?_ ?_
      · rfl
      · exact q_srt
      · exact (ht rfl)
      · rfl
      · rfl
      intro hl
      refine RG.relen hl 3 rfl ?_
      refine RG.relen hl 25 rfl ?_
      refine RG.nil ?_
      refine AT.next ?_
      refine CG.seq ?_
      refine CG.region ?_
      refine RG.op (ok_move (ht rfl)) rfl ?_
      obtain ⟨r1, q_r1, h⟩ := bs h
      refine RG.callM [arr (rI .i64) 3 l c srt] _ rfl cb18 (f18_m l c _ q_r1) ⟨(ht rfl), trivial⟩ rfl (fun i1 => ?_)
      refine (show RG _ _ _ _ [arr (rI .i64) 3 (i1.h 0).1 (i1.h 0).2 r1] ((28, tV (oslV (i1.h 0).1 (i1.h 0).2 r1.length)) :: _) from ?_)
      refine RG.op (ok_assign (ht rfl)) rfl ?_
      refine RG.nil ?_
      refine AT.next ?_
      refine CG.ret ?_
      cases so h
      exact AT.retO rfl rfl
    · obtain ⟨hx, h⟩ := h
      refine LG.unfold ?_
      refine CG.seq ?_
      refine CG.region ?_
      refine RG.op (ok_lss (ht rfl) (ht rfl)) rfl ?_
      refine RG.nil ?_
      refine AT.next ?_
      refine CG.seq ?_
      refine CG.condT (ht rfl) (dropT hx) ?_
      refine CG.skip ?_
      refine AT.next ?_
      refine CG.seq ?_
      refine CG.block ?_
      refine CG.seq ?_
      refine CG.region ?_
      refine RG.op (ok_indexAddr Tryd.underlying22 ti49 rfl (ht rfl) (ht rfl) (dropI hx)) rfl ?_
      refine RG.op (ok_load ti49 rfl rfl (ht rfl)) rfl ?_
      refine RG.alloc (r := rpDENode) (x := (⟨(0 : Int), (0 : Int), (0 : Int), (0 : Int), (⟨(0 : Int), (0 : Int), (0 : Int), []⟩ : DValue)⟩ : DENode)) ti49 (fun _ => zrDENode _) rfl (fun b => ?_)
      refine RG.storeB ti49 rfl sfld_whole rfl (ht rfl) (ht rfl) ?_
      refine RG.settleB 5 rfl ?_
      refine RG.nil ?_
      refine AT.next ?_
      refine CG.seq ?_
      refine CG.region ?_
      refine RG.op (ok_fieldAddr fd49_0 rfl flDENode_0 rfl (ht rfl)) rfl ?_
      refine RG.op (ok_load ti3 rfl rfl (ht rfl)) rfl ?_
      refine RG.op (ok_eqlI (ht rfl) hI) rfl ?_
      refine RG.nil ?_
      refine AT.next ?_
      refine CG.cond (ht rfl) (fun hc => ?_) (fun hc => ?_)
      · have h := ct h hc
        refine CG.region ?_
        refine RG.op (ok_move (ht rfl)) rfl ?_
        refine RG.op (ok_fieldAddr fd49_3 rfl flDENode_3 rfl (ht rfl)) rfl ?_
        refine RG.op (ok_load ti3 rfl rfl (ht rfl)) rfl ?_
        refine RG.op (ok_buildSlice (r := (rI .i64)) (ys := [e1.Col]) (xs := [.tmp 21]) Tryd.underlying33 ti3 rfl rfl rfl rfl rfl ⟨(ht rfl), trivial⟩) rfl ?_
        obtain ⟨out1, q_out1, h⟩ := bs h
        refine RG.append ti3 rfl rfl rfl rfl Tryd.underlying33 rfl rfl (ht rfl) (ht rfl) q_out1 (fun l2 c2 => ?_)
        refine RG.op (ok_assign (ht rfl)) rfl ?_
        refine RG.nil ?_
        refine AT.in_normal ?_
        refine AT.next ?_
        refine CG.region ?_
        refine RG.op (ok_incN (dropL hx hN) (ht rfl) hI) rfl ?_
        refine RG.op (ok_move (ht rfl)) rfl ?_
        refine RG.nil ?_
        exact AT.round (LG.sub (ih (i + 1) out1 l2 c2 ⟨dropS hx, h⟩) ⟨rfl, rfl, rfl, rfl, trivial⟩)
      · have h := cf h hc
        refine CG.skip ?_
        refine AT.in_normal ?_
        refine AT.next ?_
        refine CG.region ?_
        refine RG.op (ok_incN (dropL hx hN) (ht rfl) hI) rfl ?_
        refine RG.op (ok_move (ht rfl)) rfl ?_
        refine RG.nil ?_
        exact AT.round (LG.sub (ih (i + 1) out l c ⟨dropS hx, h⟩) ⟨rfl, rfl, rfl, rfl, trivial⟩)
set_option maxRecDepth 100000 in
theorem f62_ok (do1 : (DValue → DValue → Option (DValue × Int))) (a1 : DValue) (b : DValue) {R : DValue × Int} (h : expr_turned_1 do1 a1 b = some R) : Spec Tryd.prog 62 [tD rpDValue a1, tD rpDValue b, tPtr (rT ((tFun Tryd.prog (fun (x : DValue × DValue) => [tD rpDValue x.1, tD rpDValue x.2]) (fun (x : DValue × Int) => tT [tD rpDValue x.1, tD (rI .i64) x.2]) (fun (x : DValue × DValue) => do1 x.1 x.2)))) ()] (tT [tD rpDValue R.1, tD (rI .i64) R.2]) := by
  refine Spec.of Tryd.func62 rfl rfl rfl fun w0 S0 => ?_
  refine CG.seq ?_
  refine CG.region ?_
  refine RG.op (ok_box (ht rfl)) rfl ?_
  refine RG.op (ok_box (ht rfl)) rfl ?_
  refine RG.alloc (r := rpDValue) (x := (⟨(0 : Int), (0 : Int), (0 : Int), []⟩ : DValue)) ti37 (fun _ => zrDValue _) rfl (fun b1 => ?_)
  refine RG.op (ok_assign hI) rfl ?_
  refine RG.nil ?_
  refine AT.next ?_
  refine CG.seq ?_
  refine CG.region ?_
  refine RG.op (ok_loadF ti61 (ht rfl)) rfl ?_
  refine RG.op (ok_load ti37 rfl rfl (ht rfl)) rfl ?_
  refine RG.op (ok_load ti37 rfl rfl (ht rfl)) rfl ?_
  obtain ⟨r, q_r, h⟩ := bs h
  refine RG.op (ok_callV (args := (fun (x : DValue × DValue) => [tD rpDValue x.1, tD rpDValue x.2])) (res := (fun (x : DValue × Int) => tT [tD rpDValue x.1, tD (rI .i64) x.2])) (f := (fun (x : DValue × DValue) => do1 x.1 x.2)) (x := ((b, a1) : DValue × DValue)) (ht rfl) q_r ⟨(ht rfl), (ht rfl), trivial⟩) rfl ?_
  refine RG.op (ok_extract rfl (ht rfl)) rfl ?_
  refine RG.op (ok_extract rfl (ht rfl)) rfl ?_
  refine RG.storeB ti37 rfl sfld_whole rfl (ht rfl) (ht rfl) ?_
  refine RG.settleB 5 rfl ?_
  refine RG.op (ok_assign (ht rfl)) rfl ?_
  refine RG.nil ?_
  refine AT.next ?_
  refine CG.ret ?_
  cases so h
  exact AT.retL (rvs := [.cell 5 37, .tmp 6]) rfl rfl ⟨res_cell ti37 rfl rfl rfl, res_tmp rfl, trivial⟩

end Go.Proofs.YtdhledkpgaeoaaaDoor

