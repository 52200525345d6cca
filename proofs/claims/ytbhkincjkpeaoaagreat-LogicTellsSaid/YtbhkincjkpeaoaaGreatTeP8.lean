/- Facts of this claim: P8. -/
import Derived.Test.YtbhkincjkpeaoaaGreatTeT
import Derived.Test.YtbhkincjkpeaoaaGreatTeP7
namespace Go.Proofs.YtbhkincjkpeaoaaGreat
open Go

set_option maxRecDepth 100000 in
theorem f62_rec : ∀ (fu : Nat) (l : DLogic) (at1 : Int) {R : (List Int) × Bool} (h : ref13_Kinds_f fu l at1 = some R), Spec Tryz.prog 62 [tD rpDLogic l, tD (rI .i64) at1] (tT [tD (rSl (rI .i64)) R.1, tD rB R.2]) := by
  intro fu
  induction fu with
  | zero => intro l at1 R h; exact (nn h).elim
  | succ fu ih =>
    intro l at1 R h
    refine Spec.of Tryz.func62 rfl rfl rfl fun w0 S0 => ?_
    refine CG.seq ?_
    refine CG.region ?_
    refine RG.op (ok_box (ht rfl)) rfl ?_
    refine RG.op (ok_assign (show HasTy _ _ _ (tD (rSl (rI .i64)) ([])) from hNil)) rfl ?_
    refine RG.op (ok_assign hB) rfl ?_
    refine RG.nil ?_
    refine AT.next ?_
    refine CG.seq ?_
    refine CG.seq ?_
    refine CG.region ?_
    refine RG.op (ok_load ti33 rfl rfl (ht rfl)) rfl ?_
    refine RG.op (ok_move (ht rfl)) rfl ?_
    obtain ⟨r, q_r, h⟩ := bs h
    refine RG.op (ok_call cb43 (f43_ok _ _ q_r) ⟨(ht rfl), (ht rfl), trivial⟩) rfl ?_
    refine RG.op (ok_eqlI (ht rfl) hI) rfl ?_
    refine RG.op (ok_move (ht rfl)) rfl ?_
    obtain ⟨t, q_t, h⟩ := bs h
    refine RG.opGf rfl rfl rfl rfl (fun hg => ok_fieldAddr fd33_0 rfl flDLogic_0 rfl (ht rfl)) ?_
    refine RG.opGf rfl rfl rfl rfl (fun hg => ok_load ti31 rfl rfl (htO rfl hg)) ?_
    refine RG.opGf rfl rfl rfl rfl (fun hg => ok_move (ht rfl)) ?_
    obtain ⟨e, h1t, h0t⟩ := og q_t
    have q_eg := fun hb => (h1t hb).1
    refine RG.opGf rfl rfl rfl rfl (fun hg => ok_indexAddr Tryz.underlying31 ti30 rfl (htO rfl hg) (htO rfl hg) (q_eg hg)) ?_
    refine RG.opGf rfl rfl rfl rfl (fun hg => ok_load ti30 rfl rfl (htO rfl hg)) ?_
    obtain ⟨r1, h1t⟩ := og2 (fun hb => (h1t hb).2)
    have q_r1g := fun hb => (h1t hb).1
    refine RG.opGf rfl rfl rfl rfl (fun hg => ok_call cb96 (f96_ok _ (q_r1g hg)) ⟨(htO rfl hg), trivial⟩) ?_
    refine RG.opGf rfl rfl rfl rfl (fun hg => ok_not (htO rfl hg)) ?_
    refine RG.op (ok_pickOrM (ht rfl) (fun hb => (htO rfl (noti hb))) (fun hb => (h1t hb).2) h0t) rfl ?_
    refine RG.nil ?_
    refine AT.next ?_
    refine CG.cond (ht rfl) (fun hc => ?_) (fun hc => ?_)
    · have h := ct h hc
      refine CG.seq ?_
      refine CG.region ?_
      refine RG.op (ok_assign (show HasTy _ _ _ (tD (rSl (rI .i64)) ([])) from hNil)) rfl ?_
      refine RG.op (ok_assign hB) rfl ?_
      refine RG.nil ?_
      refine AT.next ?_
      refine CG.ret ?_
      refine AT.then_ret ?_
      cases so h
      exact AT.ret2 rfl rfl rfl
    · have h := cf h hc
      refine CG.skip ?_
      refine AT.next ?_
      refine CG.seq ?_
      refine CG.region ?_
      refine RG.op (ok_fieldAddr fd33_0 rfl flDLogic_0 rfl (ht rfl)) rfl ?_
      refine RG.op (ok_load ti31 rfl rfl (ht rfl)) rfl ?_
      refine RG.op (ok_move (ht rfl)) rfl ?_
      obtain ⟨e1, q_e1, h⟩ := bs h
      refine RG.op (ok_indexAddr Tryz.underlying31 ti30 rfl (ht rfl) (ht rfl) q_e1) rfl ?_
      refine RG.op (ok_load ti30 rfl rfl (ht rfl)) rfl ?_
      refine RG.alloc (r := rpDLNode) (x := (⟨(0 : Int), (0 : Int), (0 : Int), (0 : Int), [], false, (⟨[]⟩ : DExpr), [], [], [], [], (0 : Int)⟩ : DLNode)) ti30 (fun _ => zrDLNode _) rfl (fun b => ?_)
      refine RG.storeB ti30 rfl sfld_whole rfl (ht rfl) (ht rfl) ?_
      refine RG.settleB 6 rfl ?_
      refine RG.nil ?_
      refine AT.next ?_
      refine CG.seq ?_
      refine CG.region ?_
      refine RG.op (ok_assign (show HasTy _ _ _ (tD (rSl (rI .i64)) ([])) from hNil)) rfl ?_
      refine RG.op (ok_assign (show HasTy _ _ _ (tD (rSl (rI .i64)) ([])) from hNil)) rfl ?_
      refine RG.nil ?_
      refine AT.next ?_
      refine CG.sjoin1 (Z := fun a1 => ref13_Kinds_k1 (ref13_Kinds_f fu) l at1 e1 a1 = some R) (Of := fun a1 => []) (Gf := fun a1 => [(1, tD (rI .i64) at1), (2, tPtr rpDLogic l), (6, tPtr rpDLNode e1), (7, tD (rSl (rI .i64)) a1), (8, tD (rSl (rI .i64)) ([]))]) (fun a1 h => ?_) (fun K => ?_)
      · skip
        refine CG.sjoin1 (Z := fun b1 => ref13_Kinds_k2 l at1 e1 a1 b1 = some R) (Of := fun b1 => []) (Gf := fun b1 => [(1, tD (rI .i64) at1), (2, tPtr rpDLogic l), (6, tPtr rpDLNode e1), (7, tD (rSl (rI .i64)) a1), (8, tD (rSl (rI .i64)) b1)]) (fun b1 h => ?_) (fun K1 => ?_)
        · skip
          refine CG.seq ?_
          refine CG.region ?_
          refine RG.op (ok_load ti30 rfl rfl (ht rfl)) rfl ?_
          refine RG.op (ok_move (ht rfl)) rfl ?_
          refine RG.op (ok_move (ht rfl)) rfl ?_
          obtain ⟨r2, q_r2, h⟩ := bs h
          refine RG.op (ok_call cb97 (f97_ok _ _ _ q_r2) ⟨(ht rfl), (ht rfl), (ht rfl), trivial⟩) rfl ?_
          refine RG.op (ok_move (ht rfl)) rfl ?_
          refine RG.op (ok_extract rfl (ht rfl)) rfl ?_
          refine RG.op (ok_extract rfl (ht rfl)) rfl ?_
          refine RG.op (ok_assign (ht rfl)) rfl ?_
          refine RG.op (ok_assign (ht rfl)) rfl ?_
          refine RG.nil ?_
          refine AT.next ?_
          refine CG.seq ?_
          refine CG.seq ?_
          refine CG.region ?_
          refine RG.op (ok_fieldAddr fd30_0 rfl flDLNode_0 rfl (ht rfl)) rfl ?_
          refine RG.op (ok_load ti3 rfl rfl (ht rfl)) rfl ?_
          refine RG.op (ok_eqlI (ht rfl) hI) rfl ?_
          refine RG.op (ok_move (ht rfl)) rfl ?_
          refine RG.opGt rfl rfl rfl rfl (fun hg => ok_move (ht rfl)) ?_
          refine RG.opGt rfl rfl rfl rfl (fun hg => ok_fieldAddr fd33_0 rfl flDLogic_0 rfl (ht rfl)) ?_
          refine RG.opGt rfl rfl rfl rfl (fun hg => ok_load ti31 rfl rfl (htO rfl hg)) ?_
          refine RG.opGt rfl rfl rfl rfl (fun hg => ok_lenSl Tryz.underlying31 (htO rfl hg)) ?_
          refine RG.opGt rfl rfl rfl rfl (fun hg => ok_sub (htO rfl hg) hI) ?_
          refine RG.opGt rfl rfl rfl rfl (fun hg => ok_neqI (htO rfl hg) (htO rfl hg)) ?_
          refine RG.op (ok_pickAnd (ht rfl) (fun hb => (htO rfl hb))) rfl ?_
          refine RG.op (ok_move (ht rfl)) rfl ?_
          refine RG.opGf rfl rfl rfl rfl (fun hg => ok_move (ht rfl)) ?_
          refine RG.opGf rfl rfl rfl rfl (fun hg => ok_lenSl Tryz.underlying22 (htO rfl hg)) ?_
          refine RG.opGf rfl rfl rfl rfl (fun hg => ok_gtr (htO rfl hg) hI) ?_
          refine RG.op (ok_pickOr (ht rfl) (fun hb => (htO rfl (noti hb)))) rfl ?_
          refine RG.nil ?_
          refine AT.next ?_
          refine CG.cond (ht rfl) (fun hc => ?_) (fun hc => ?_)
          · have h := ct h hc
            refine CG.seq ?_
            refine CG.region ?_
            refine RG.op (ok_assign (show HasTy _ _ _ (tD (rSl (rI .i64)) ([])) from hNil)) rfl ?_
            refine RG.op (ok_assign hB) rfl ?_
            refine RG.nil ?_
            refine AT.next ?_
            refine CG.ret ?_
            refine AT.then_ret ?_
            cases so h
            exact AT.ret2 rfl rfl rfl
          · have h := cf h hc
            refine CG.skip ?_
            refine AT.next ?_
            refine CG.seq ?_
            refine CG.region ?_
            refine RG.op (ok_move (ht rfl)) rfl ?_
            refine RG.op (ok_move (ht rfl)) rfl ?_
            refine RG.op (ok_assign (ht rfl)) rfl ?_
            refine RG.op (ok_assign (ht rfl)) rfl ?_
            refine RG.nil ?_
            refine AT.next ?_
            refine CG.ret ?_
            cases so h
            exact AT.ret2 rfl rfl rfl
        · skip
          refine CG.seq ?_
          refine CG.region ?_
          refine RG.op (ok_fieldAddr fd30_2 rfl flDLNode_2 rfl (ht rfl)) rfl ?_
          refine RG.op (ok_load ti3 rfl rfl (ht rfl)) rfl ?_
          refine RG.op (ok_geq (ht rfl) hI) rfl ?_
          refine RG.nil ?_
          refine AT.next ?_
          refine CG.cond (ht rfl) (fun hc => ?_) (fun hc => ?_)
          · have h := ct h hc
            refine CG.seq ?_
            refine CG.region ?_
            refine RG.op (ok_load ti33 rfl rfl (ht rfl)) rfl ?_
            refine RG.op (ok_fieldAddr fd30_2 rfl flDLNode_2 rfl (ht rfl)) rfl ?_
            refine RG.op (ok_load ti3 rfl rfl (ht rfl)) rfl ?_
            obtain ⟨r3, q_r3, h⟩ := bs h
            refine RG.op (ok_call cb62 (ih _ _ q_r3) ⟨(ht rfl), (ht rfl), trivial⟩) rfl ?_
            refine RG.op (ok_move (ht rfl)) rfl ?_
            refine RG.op (ok_extract rfl (ht rfl)) rfl ?_
            refine RG.op (ok_extract rfl (ht rfl)) rfl ?_
            refine RG.op (ok_assign (ht rfl)) rfl ?_
            refine RG.op (ok_assign (ht rfl)) rfl ?_
            refine RG.nil ?_
            refine AT.next ?_
            refine CG.seq ?_
            refine CG.seq ?_
            refine CG.region ?_
            refine RG.op (ok_move (ht rfl)) rfl ?_
            refine RG.op (ok_not (ht rfl)) rfl ?_
            refine RG.nil ?_
            refine AT.next ?_
            refine CG.cond (ht rfl) (fun hc => ?_) (fun hc => ?_)
            · have h := ct h hc
              refine CG.seq ?_
              refine CG.region ?_
              refine RG.op (ok_assign (show HasTy _ _ _ (tD (rSl (rI .i64)) ([])) from hNil)) rfl ?_
              refine RG.op (ok_assign hB) rfl ?_
              refine RG.nil ?_
              refine AT.next ?_
              refine CG.ret ?_
              refine AT.then_ret (AT.then_ret ?_)
              cases so h
              exact AT.ret2 rfl rfl rfl
            · have h := cf h hc
              refine CG.skip ?_
              refine AT.next ?_
              refine CG.region ?_
              refine RG.op (ok_move (ht rfl)) rfl ?_
              refine RG.op (ok_assign (ht rfl)) rfl ?_
              refine RG.nil ?_
              exact AT.sub (K1 r3.1 h) ⟨rfl, rfl, rfl, rfl, rfl, trivial⟩
          · have h := cf h hc
            refine CG.skip ?_
            exact AT.sub (K1 ([]) h) ⟨rfl, rfl, rfl, rfl, rfl, trivial⟩
      · skip
        refine CG.seq ?_
        refine CG.region ?_
        refine RG.op (ok_fieldAddr fd30_1 rfl flDLNode_1 rfl (ht rfl)) rfl ?_
        refine RG.op (ok_load ti3 rfl rfl (ht rfl)) rfl ?_
        refine RG.op (ok_geq (ht rfl) hI) rfl ?_
        refine RG.nil ?_
        refine AT.next ?_
        refine CG.cond (ht rfl) (fun hc => ?_) (fun hc => ?_)
        · have h := ct h hc
          refine CG.seq ?_
          refine CG.region ?_
          refine RG.op (ok_load ti33 rfl rfl (ht rfl)) rfl ?_
          refine RG.op (ok_fieldAddr fd30_1 rfl flDLNode_1 rfl (ht rfl)) rfl ?_
          refine RG.op (ok_load ti3 rfl rfl (ht rfl)) rfl ?_
          obtain ⟨r4, q_r4, h⟩ := bs h
          refine RG.op (ok_call cb62 (ih _ _ q_r4) ⟨(ht rfl), (ht rfl), trivial⟩) rfl ?_
          refine RG.op (ok_move (ht rfl)) rfl ?_
          refine RG.op (ok_extract rfl (ht rfl)) rfl ?_
          refine RG.op (ok_extract rfl (ht rfl)) rfl ?_
          refine RG.op (ok_assign (ht rfl)) rfl ?_
          refine RG.op (ok_assign (ht rfl)) rfl ?_
          refine RG.nil ?_
          refine AT.next ?_
          refine CG.seq ?_
          refine CG.seq ?_
          refine CG.region ?_
          refine RG.op (ok_move (ht rfl)) rfl ?_
          refine RG.op (ok_not (ht rfl)) rfl ?_
          refine RG.nil ?_
          refine AT.next ?_
          refine CG.cond (ht rfl) (fun hc => ?_) (fun hc => ?_)
          · have h := ct h hc
            refine CG.seq ?_
            refine CG.region ?_
            refine RG.op (ok_assign (show HasTy _ _ _ (tD (rSl (rI .i64)) ([])) from hNil)) rfl ?_
            refine RG.op (ok_assign hB) rfl ?_
            refine RG.nil ?_
            refine AT.next ?_
            refine CG.ret ?_
            refine AT.then_ret (AT.then_ret ?_)
            cases so h
            exact AT.ret2 rfl rfl rfl
          · have h := cf h hc
            refine CG.skip ?_
            refine AT.next ?_
            refine CG.region ?_
            refine RG.op (ok_move (ht rfl)) rfl ?_
            refine RG.op (ok_assign (ht rfl)) rfl ?_
            refine RG.nil ?_
            exact AT.sub (K r4.1 h) ⟨rfl, rfl, rfl, rfl, rfl, trivial⟩
        · have h := cf h hc
          refine CG.skip ?_
          exact AT.sub (K ([]) h) ⟨rfl, rfl, rfl, rfl, rfl, trivial⟩
theorem f62_ok (l : DLogic) (at1 : Int) {R : (List Int) × Bool} (h : ref13_Kinds l at1 = some R) : Spec Tryz.prog 62 [tD rpDLogic l, tD (rI .i64) at1] (tT [tD (rSl (rI .i64)) R.1, tD rB R.2]) := f62_rec FUEL l at1 h

set_option maxRecDepth 100000 in
theorem f41_ok (l : DLogic) {R : Int} (h : ref13_Wrong l = some R) : Spec Tryz.prog 41 [tD rpDLogic l] (tD (rI .i64) R) := by
  refine Spec.of Tryz.func41 rfl rfl rfl fun w0 S0 => ?_
  refine CG.seq ?_
  refine CG.region ?_
  refine RG.op (ok_box (ht rfl)) rfl ?_
  refine RG.op (ok_assign hI) rfl ?_
  refine RG.nil ?_
  refine AT.next ?_
  refine CG.seq ?_
  refine CG.region ?_
  refine RG.op (ok_fieldAddr fd33_0 rfl flDLogic_0 rfl (ht rfl)) rfl ?_
  refine RG.op (ok_load ti31 rfl rfl (ht rfl)) rfl ?_
  refine RG.op (ok_lenSl Tryz.underlying31 (ht rfl)) rfl ?_
  refine RG.op (ok_assign (ht rfl)) rfl ?_
  refine RG.nil ?_
  refine AT.next ?_
  refine CG.seq ?_
  refine CG.seq ?_
  refine CG.region ?_
  refine RG.op (ok_move (ht rfl)) rfl ?_
  refine RG.op (ok_lss (ht rfl) hI) rfl ?_
  refine RG.op (ok_move (ht rfl)) rfl ?_
  refine RG.opGf rfl rfl rfl rfl (fun hg => ok_move (ht rfl)) ?_
  refine RG.opGf rfl rfl rfl rfl (fun hg => ok_gtr (htO rfl hg) hI) ?_
  refine RG.op (ok_pickOr (ht rfl) (fun hb => (htO rfl (noti hb)))) rfl ?_
  refine RG.nil ?_
  refine AT.next ?_
  refine CG.cond (ht rfl) (fun hc => ?_) (fun hc => ?_)
  · have h := ct h hc
    refine CG.seq ?_
    refine CG.region ?_
    refine RG.op (ok_assign hI) rfl ?_
    refine RG.nil ?_
    refine AT.next ?_
    refine CG.ret ?_
    refine AT.then_ret ?_
    cases so h
    exact AT.ret1 rfl rfl
  · have h := cf h hc
    refine CG.skip ?_
    refine AT.next ?_
    refine CG.seq ?_
    refine CG.seq ?_
    refine CG.region ?_
    refine RG.op (ok_assign hI) rfl ?_
    refine RG.nil ?_
    refine AT.next ?_
    refine CG.block ?_
    refine CG.have_len (k := 8) rfl (fun hN => ?_)
    refine CG.loop ?_
    refine LG.sub (LG.list1 (Z := fun ls i  => (l.Nodes.drop i = ls) ∧ ref13_Wrong_l1 l ls i  = some R) (Of := fun _ i  => []) (Gf := fun _ i  => [(1, tPtr rpDLogic l), (3, tD (rI .i64) (l.Nodes.length : Int)), (4, tD (rI .i64) (i : Int))]) (fun i  h => ?_) (fun e tl ih i  h => ?_) l.Nodes 0  ⟨rfl, h⟩) ⟨rfl, rfl, rfl, trivial⟩
    · obtain ⟨hx, h⟩ := h
      refine LG.unfold ?_
      refine CG.seq ?_
      refine CG.seq ?_
      refine CG.region ?_
      refine RG.op (ok_move (ht rfl)) rfl ?_
      refine RG.op (ok_move (ht rfl)) rfl ?_
      refine RG.op (ok_lss (ht rfl) (ht rfl)) rfl ?_
      refine RG.nil ?_
      refine AT.next ?_
      refine CG.condF (ht rfl) (dropF hx) ?_
      refine CG.exit ?_
      refine AT.then_exit (AT.then_exit (AT.in_exit ?_))
      refine AT.next ?_
      refine CG.seq ?_
      refine CG.seq ?_
      refine CG.region ?_
      refine RG.op (ok_load ti33 rfl rfl (ht rfl)) rfl ?_
      refine RG.op (ok_move (ht rfl)) rfl ?_
      refine RG.op (ok_sub (ht rfl) hI) rfl ?_
      obtain ⟨r, q_r, h⟩ := bs h
      refine RG.op (ok_call cb43 (f43_ok _ _ q_r) ⟨(ht rfl), (ht rfl), trivial⟩) rfl ?_
      refine RG.op (ok_move (ht rfl)) rfl ?_
      refine RG.op (ok_neqI (ht rfl) (ht rfl)) rfl ?_
      refine RG.nil ?_
      refine AT.next ?_
      refine CG.cond (ht rfl) (fun hc => ?_) (fun hc => ?_)
      · have h := ct h hc
        refine CG.seq ?_
        refine CG.region ?_
        refine RG.op (ok_move (ht rfl)) rfl ?_
        refine RG.op (ok_sub (ht rfl) hI) rfl ?_
        refine RG.op (ok_assign (ht rfl)) rfl ?_
        refine RG.nil ?_
        refine AT.next ?_
        refine CG.ret ?_
        refine AT.then_ret ?_
        cases so h
        exact AT.ret1 rfl rfl
      · have h := cf h hc
        refine CG.skip ?_
        refine AT.next ?_
        refine CG.seq ?_
        refine CG.region ?_
        refine RG.op (ok_assign hI) rfl ?_
        refine RG.nil ?_
        refine AT.next ?_
        refine CG.ret ?_
        cases so h
        exact AT.ret1 rfl rfl
    · obtain ⟨hx, h⟩ := h
      refine LG.unfold ?_
      refine CG.seq ?_
      refine CG.seq ?_
      refine CG.region ?_
      refine RG.op (ok_move (ht rfl)) rfl ?_
      refine RG.op (ok_move (ht rfl)) rfl ?_
      refine RG.op (ok_lss (ht rfl) (ht rfl)) rfl ?_
      refine RG.nil ?_
      refine AT.next ?_
      refine CG.condT (ht rfl) (dropT hx) ?_
      refine CG.skip ?_
      refine AT.next ?_
      refine CG.seq ?_
      refine CG.block ?_
      refine CG.seq ?_
      refine CG.region ?_
      refine RG.op (ok_load ti33 rfl rfl (ht rfl)) rfl ?_
      refine RG.op (ok_move (ht rfl)) rfl ?_
      obtain ⟨r1, q_r1, h⟩ := bs h
      refine RG.op (ok_call cb62 (f62_ok _ _ q_r1) ⟨(ht rfl), (ht rfl), trivial⟩) rfl ?_
      refine RG.op (ok_move (ht rfl)) rfl ?_
      refine RG.op (ok_extract rfl (ht rfl)) rfl ?_
      refine RG.op (ok_extract rfl (ht rfl)) rfl ?_
      refine RG.op (ok_assign (ht rfl)) rfl ?_
      refine RG.op (ok_assign (ht rfl)) rfl ?_
      refine RG.nil ?_
      refine AT.next ?_
      refine CG.seq ?_
      refine CG.region ?_
      refine RG.op (ok_move (ht rfl)) rfl ?_
      refine RG.op (ok_not (ht rfl)) rfl ?_
      refine RG.nil ?_
      refine AT.next ?_
      refine CG.cond (ht rfl) (fun hc => ?_) (fun hc => ?_)
      · have h := ct h hc
        refine CG.seq ?_
        refine CG.region ?_
        refine RG.op (ok_move (ht rfl)) rfl ?_
        refine RG.op (ok_assign (ht rfl)) rfl ?_
        refine RG.nil ?_
        refine AT.next ?_
        refine CG.ret ?_
        refine AT.in_ret (AT.then_ret (AT.then_ret (AT.in_ret (AT.then_ret ?_))))
        cases so h
        exact AT.ret1 rfl rfl
      · have h := cf h hc
        refine CG.skip ?_
        refine AT.in_normal ?_
        refine AT.next ?_
        refine CG.region ?_
        refine RG.op (ok_move (ht rfl)) rfl ?_
        refine RG.op (ok_incN (dropL hx hN) (ht rfl) hI) rfl ?_
        refine RG.op (ok_assign (ht rfl)) rfl ?_
        refine RG.nil ?_
        exact AT.round (LG.sub (ih (i + 1)  ⟨dropS hx, h⟩) ⟨rfl, rfl, rfl, trivial⟩)

set_option maxRecDepth 100000 in
theorem f18_ok (l : DLogic) {R : Bool} (h : ref13_Right l = some R) : Spec Tryz.prog 18 [tD rpDLogic l] (tD rB R) := by
  refine Spec.of Tryz.func18 rfl rfl rfl fun w0 S0 => ?_
  refine CG.seq ?_
  refine CG.region ?_
  refine RG.op (ok_box (ht rfl)) rfl ?_
  refine RG.op (ok_assign hB) rfl ?_
  refine RG.nil ?_
  refine AT.next ?_
  refine CG.seq ?_
  refine CG.region ?_
  refine RG.op (ok_load ti33 rfl rfl (ht rfl)) rfl ?_
  obtain ⟨r, q_r, h⟩ := bs h
  refine RG.op (ok_call cb41 (f41_ok _ q_r) ⟨(ht rfl), trivial⟩) rfl ?_
  refine RG.op (ok_lss (ht rfl) hI) rfl ?_
  refine RG.op (ok_assign (ht rfl)) rfl ?_
  refine RG.nil ?_
  refine AT.next ?_
  refine CG.ret ?_
  cases so h
  exact AT.ret1 rfl rfl

set_option maxRecDepth 100000 in
theorem f30_ok (n : DLNode) (by1 : Int) {R : DLNode} (h : ref13_Copy n by1 = some R) : Spec Tryz.prog 30 [tD rpDLNode n, tD (rI .i64) by1] (tD rpDLNode R) := by
  refine Spec.of Tryz.func30 rfl rfl rfl fun w0 S0 => ?_
  refine CG.seq ?_
  refine CG.region ?_
  refine RG.boxO (ht rfl) rfl (fun b => ?_)
  refine RG.alloc (r := rpDLNode) (x := (⟨(0 : Int), (0 : Int), (0 : Int), (0 : Int), [], false, (⟨[]⟩ : DExpr), [], [], [], [], (0 : Int)⟩ : DLNode)) ti30 (fun _ => zrDLNode _) rfl (fun b1 => ?_)
  refine RG.nil ?_
  refine AT.next ?_
  refine CG.sjoin1 (Z := fun n1 => ref13_Copy_k1 by1 n1 = some R) (Of := fun n1 => [bx rpDLNode 30 b n1, bx rpDLNode 30 b1 (⟨(0 : Int), (0 : Int), (0 : Int), (0 : Int), [], false, (⟨[]⟩ : DExpr), [], [], [], [], (0 : Int)⟩ : DLNode)]) (Gf := fun n1 => [(1, tD (rI .i64) by1), (2, tV (bptr b 0)), (4, tV (bptr b1 0))]) (fun n1 h => ?_) (fun K => ?_)
  · skip
    refine CG.sjoin1 (Z := fun n2 => ref13_Copy_k2 n2 = some R) (Of := fun n2 => [bx rpDLNode 30 b n2, bx rpDLNode 30 b1 (⟨(0 : Int), (0 : Int), (0 : Int), (0 : Int), [], false, (⟨[]⟩ : DExpr), [], [], [], [], (0 : Int)⟩ : DLNode)]) (Gf := fun n2 => [(2, tV (bptr b 0)), (4, tV (bptr b1 0))]) (fun n2 h => ?_) (fun K1 => ?_)
    · skip
      refine CG.seq ?_
      refine CG.region ?_
      refine RG.op (ok_loadB ti30 rfl rfl fld_whole (.head _) (ht rfl)) rfl ?_
      refine RG.front1 ?_
      refine RG.storeB ti30 rfl sfld_whole rfl (ht rfl) (ht rfl) ?_
      refine RG.settleB 4 rfl ?_
      refine RG.nil ?_
      refine AT.next ?_
      refine CG.ret ?_
      refine AT.drop ?_
      cases so h
      exact AT.ret1c rfl ti30 rfl rfl rfl
    · skip
      refine CG.seq ?_
      refine CG.region ?_
      refine RG.op (ok_fieldAddrC (n := 2) fd30_2 rfl (ht rfl) rfl) rfl ?_
      refine RG.op (ok_loadB ti3 rfl rfl flDLNode_2 (.head _) (ht rfl)) rfl ?_
      refine RG.op (ok_geq (ht rfl) hI) rfl ?_
      refine RG.nil ?_
      refine AT.next ?_
      refine CG.cond (ht rfl) (fun hc => ?_) (fun hc => ?_)
      · have h := ct h hc
        refine CG.region ?_
        refine RG.op (ok_fieldAddrC (n := 2) fd30_2 rfl (ht rfl) rfl) rfl ?_
        refine RG.op (ok_loadB ti3 rfl rfl flDLNode_2 (.head _) (ht rfl)) rfl ?_
        refine RG.op (ok_move (ht rfl)) rfl ?_
        refine RG.op (ok_add (ht rfl) (ht rfl)) rfl ?_
        refine RG.op (ok_fieldAddrC (n := 2) fd30_2 rfl (ht rfl) rfl) rfl ?_
        refine RG.storeB ti3 rfl sfDLNode_2 rfl (ht rfl) (ht rfl) ?_
        refine RG.nil ?_
        exact AT.sub (K1 (DLNode.mk n1.Op n1.A (IntKind.i64.wrap (n1.B + by1)) n1.Table n1.Kinds n1.Left n1.Cond n1.Keys n1.Aggs n1.Items n1.Order n1.Limit) h) ⟨rfl, rfl, trivial⟩
      · have h := cf h hc
        refine CG.skip ?_
        exact AT.sub (K1 n1 h) ⟨rfl, rfl, trivial⟩
  · skip
    refine CG.seq ?_
    refine CG.region ?_
    refine RG.op (ok_fieldAddrC (n := 1) fd30_1 rfl (ht rfl) rfl) rfl ?_
    refine RG.op (ok_loadB ti3 rfl rfl flDLNode_1 (.tail _ (.head _)) (ht rfl)) rfl ?_
    refine RG.op (ok_geq (ht rfl) hI) rfl ?_
    refine RG.nil ?_
    refine AT.next ?_
    refine CG.cond (ht rfl) (fun hc => ?_) (fun hc => ?_)
    · have h := ct h hc
      refine CG.region ?_
      refine RG.op (ok_fieldAddrC (n := 1) fd30_1 rfl (ht rfl) rfl) rfl ?_
      refine RG.op (ok_loadB ti3 rfl rfl flDLNode_1 (.tail _ (.head _)) (ht rfl)) rfl ?_
      refine RG.op (ok_move (ht rfl)) rfl ?_
      refine RG.op (ok_add (ht rfl) (ht rfl)) rfl ?_
      refine RG.op (ok_fieldAddrC (n := 1) fd30_1 rfl (ht rfl) rfl) rfl ?_
      refine RG.front1 ?_
      refine RG.storeB ti3 rfl sfDLNode_1 rfl (ht rfl) (ht rfl) ?_
      refine RG.nil ?_
      exact AT.sub (K (DLNode.mk n.Op (IntKind.i64.wrap (n.A + by1)) n.B n.Table n.Kinds n.Left n.Cond n.Keys n.Aggs n.Items n.Order n.Limit) h) ⟨rfl, rfl, rfl, trivial⟩
    · have h := cf h hc
      refine CG.skip ?_
      refine AT.front1 ?_
      exact AT.sub (K n h) ⟨rfl, rfl, rfl, trivial⟩

set_option maxRecDepth 100000 in
theorem f20_ok (a1 : (List Int)) (b : (List Int)) {R : Bool} (h : ref13_SameInts a1 b = some R) : Spec Tryz.prog 20 [tD (rSl (rI .i64)) a1, tD (rSl (rI .i64)) b] (tD rB R) := by
  refine Spec.of Tryz.func20 rfl rfl rfl fun w0 S0 => ?_
  refine CG.seq ?_
  refine CG.region ?_
  refine RG.op (ok_assign hB) rfl ?_
  refine RG.nil ?_
  refine AT.next ?_
  refine CG.seq ?_
  refine CG.seq ?_
  refine CG.region ?_
  refine RG.op (ok_move (ht rfl)) rfl ?_
  refine RG.op (ok_lenSl Tryz.underlying22 (ht rfl)) rfl ?_
  refine RG.op (ok_move (ht rfl)) rfl ?_
  refine RG.op (ok_lenSl Tryz.underlying22 (ht rfl)) rfl ?_
  refine RG.op (ok_neqI (ht rfl) (ht rfl)) rfl ?_
  refine RG.nil ?_
  refine AT.next ?_
  refine CG.cond (ht rfl) (fun hc => ?_) (fun hc => ?_)
  · have h := ct h hc
    refine CG.seq ?_
    refine CG.region ?_
    refine RG.op (ok_assign hB) rfl ?_
    refine RG.nil ?_
    refine AT.next ?_
    refine CG.ret ?_
    refine AT.then_ret ?_
    cases so h
    exact AT.ret1 rfl rfl
  · have h := cf h hc
    refine CG.skip ?_
    refine AT.next ?_
    refine CG.seq ?_
    refine CG.seq ?_
    refine CG.region ?_
    refine RG.op (ok_assign hI) rfl ?_
    refine RG.nil ?_
    refine AT.next ?_
    refine CG.block ?_
    refine CG.have_len (k := 0) rfl (fun hN => ?_)
    refine CG.loop ?_
    refine LG.sub (LG.list1 (Z := fun ls i  => (a1.drop i = ls) ∧ ref13_SameInts_l1 b ls i  = some R) (Of := fun _ i  => []) (Gf := fun _ i  => [(0, tD (rSl (rI .i64)) a1), (1, tD (rSl (rI .i64)) b), (5, tD (rI .i64) (i : Int))]) (fun i  h => ?_) (fun e tl ih i  h => ?_) a1 0  ⟨rfl, h⟩) ⟨rfl, rfl, rfl, trivial⟩
    · obtain ⟨hx, h⟩ := h
      refine LG.unfold ?_
      refine CG.seq ?_
      refine CG.seq ?_
      refine CG.region ?_
      refine RG.op (ok_move (ht rfl)) rfl ?_
      refine RG.op (ok_move (ht rfl)) rfl ?_
      refine RG.op (ok_lenSl Tryz.underlying22 (ht rfl)) rfl ?_
      refine RG.op (ok_lss (ht rfl) (ht rfl)) rfl ?_
      refine RG.nil ?_
      refine AT.next ?_
      refine CG.condF (ht rfl) (dropF hx) ?_
      refine CG.exit ?_
      refine AT.then_exit (AT.then_exit (AT.in_exit ?_))
      refine AT.next ?_
      refine CG.seq ?_
      refine CG.region ?_
      refine RG.op (ok_assign hB) rfl ?_
      refine RG.nil ?_
      refine AT.next ?_
      refine CG.ret ?_
      cases so h
      exact AT.ret1 rfl rfl
    · obtain ⟨hx, h⟩ := h
      refine LG.unfold ?_
      refine CG.seq ?_
      refine CG.seq ?_
      refine CG.region ?_
      refine RG.op (ok_move (ht rfl)) rfl ?_
      refine RG.op (ok_move (ht rfl)) rfl ?_
      refine RG.op (ok_lenSl Tryz.underlying22 (ht rfl)) rfl ?_
      refine RG.op (ok_lss (ht rfl) (ht rfl)) rfl ?_
      refine RG.nil ?_
      refine AT.next ?_
      refine CG.condT (ht rfl) (dropT hx) ?_
      refine CG.skip ?_
      refine AT.next ?_
      refine CG.seq ?_
      refine CG.block ?_
      refine CG.seq ?_
      obtain ⟨e1, q_e1, h⟩ := bs h
      refine CG.draw (ts := [tD (rSl (rI .i64)) a1, tD (rI .i64) (i : Int), tPtr (rI .i64) e, tD (rI .i64) e, tD (rSl (rI .i64)) b, tD (rI .i64) (i : Int), tPtr (rI .i64) e1, tD (rI .i64) e1, tD rB (e != e1)]) mixed rfl rfl
        ⟨⟨[⟨0, _, none⟩], _, rfl, ⟨rfl, trivial⟩, rfl, rfl, OpG.plain rfl (ok_move (ht rfl))⟩,
        ⟨⟨[⟨5, _, none⟩], _, rfl, ⟨rfl, trivial⟩, rfl, rfl, OpG.plain rfl (ok_move (ht rfl))⟩,
        ⟨⟨[⟨17, _, some 0⟩, ⟨18, _, some 1⟩], _, rfl, ⟨rfl, rfl, trivial⟩, rfl, rfl, OpG.plain rfl (ok_indexAddr Tryz.underlying22 ti3 rfl (ht rfl) (ht rfl) (dropI hx))⟩,
        ⟨⟨[⟨19, _, some 2⟩], _, rfl, ⟨rfl, trivial⟩, rfl, rfl, OpG.plain rfl (ok_load ti3 rfl rfl (ht rfl))⟩,
        ⟨⟨[⟨1, _, none⟩], _, rfl, ⟨rfl, trivial⟩, rfl, rfl, OpG.plain rfl (ok_move (ht rfl))⟩,
        ⟨⟨[⟨5, _, none⟩], _, rfl, ⟨rfl, trivial⟩, rfl, rfl, OpG.plain rfl (ok_move (ht rfl))⟩,
        ⟨⟨[⟨21, _, some 4⟩, ⟨22, _, some 5⟩], _, rfl, ⟨rfl, rfl, trivial⟩, rfl, rfl, OpG.plain rfl (ok_indexAddr Tryz.underlying22 ti3 rfl (ht rfl) (ht rfl) q_e1)⟩,
        ⟨⟨[⟨23, _, some 6⟩], _, rfl, ⟨rfl, trivial⟩, rfl, rfl, OpG.plain rfl (ok_load ti3 rfl rfl (ht rfl))⟩,
        ⟨⟨[⟨20, _, some 3⟩, ⟨24, _, some 7⟩], _, rfl, ⟨rfl, rfl, trivial⟩, rfl, rfl, OpG.plain rfl (ok_neqI (ht rfl) (ht rfl))⟩,
        trivial⟩⟩⟩⟩⟩⟩⟩⟩⟩ ?_
      refine AT.next ?_
      refine CG.cond (ht rfl) (fun hc => ?_) (fun hc => ?_)
      · have h := ct h hc
        refine CG.seq ?_
        refine CG.region ?_
        refine RG.op (ok_assign hB) rfl ?_
        refine RG.nil ?_
        refine AT.next ?_
        refine CG.ret ?_
        refine AT.in_ret (AT.then_ret (AT.then_ret (AT.in_ret (AT.then_ret ?_))))
        cases so h
        exact AT.ret1 rfl rfl
      · have h := cf h hc
        refine CG.skip ?_
        refine AT.in_normal ?_
        refine AT.next ?_
        refine CG.region ?_
        refine RG.op (ok_move (ht rfl)) rfl ?_
        refine RG.op (ok_incN (dropL hx hN) (ht rfl) hI) rfl ?_
        refine RG.op (ok_assign (ht rfl)) rfl ?_
        refine RG.nil ?_
        exact AT.round (LG.sub (ih (i + 1)  ⟨dropS hx, h⟩) ⟨rfl, rfl, rfl, trivial⟩)

set_option maxRecDepth 100000 in
theorem f47_ok (a1 : DExpr) (b : DExpr) {R : Bool} (h : ref10_Same a1 b = some R) : Spec Tryz.prog 47 [tD rpDExpr a1, tD rpDExpr b] (tD rB R) := by
  refine Spec.of Tryz.func47 rfl rfl rfl fun w0 S0 => ?_
  refine CG.seq ?_
  refine CG.region ?_
  refine RG.op (ok_box (ht rfl)) rfl ?_
  refine RG.op (ok_box (ht rfl)) rfl ?_
  refine RG.op (ok_assign hB) rfl ?_
  refine RG.nil ?_
  refine AT.next ?_
  refine CG.seq ?_
  refine CG.seq ?_
  refine CG.region ?_
  refine RG.op (ok_fieldAddr fd25_0 rfl flDExpr_0 rfl (ht rfl)) rfl ?_
  refine RG.op (ok_load ti23 rfl rfl (ht rfl)) rfl ?_
  refine RG.op (ok_lenSl Tryz.underlying23 (ht rfl)) rfl ?_
  refine RG.op (ok_fieldAddr fd25_0 rfl flDExpr_0 rfl (ht rfl)) rfl ?_
  refine RG.op (ok_load ti23 rfl rfl (ht rfl)) rfl ?_
  refine RG.op (ok_lenSl Tryz.underlying23 (ht rfl)) rfl ?_
  refine RG.op (ok_neqI (ht rfl) (ht rfl)) rfl ?_
  refine RG.nil ?_
  refine AT.next ?_
  refine CG.cond (ht rfl) (fun hc => ?_) (fun hc => ?_)
  · have h := ct h hc
    refine CG.seq ?_
    refine CG.region ?_
    refine RG.op (ok_assign hB) rfl ?_
    refine RG.nil ?_
    refine AT.next ?_
    refine CG.ret ?_
    refine AT.then_ret ?_
    cases so h
    exact AT.ret1 rfl rfl
  · have h := cf h hc
    refine CG.skip ?_
    refine AT.next ?_
    refine CG.seq ?_
    refine CG.seq ?_
    refine CG.region ?_
    refine RG.op (ok_fieldAddr fd25_0 rfl flDExpr_0 rfl (ht rfl)) rfl ?_
    refine RG.op (ok_load ti23 rfl rfl (ht rfl)) rfl ?_
    refine RG.op (ok_lenSl Tryz.underlying23 (ht rfl)) rfl ?_
    refine RG.op (ok_move hI) rfl ?_
    refine RG.nil ?_
    refine AT.next ?_
    refine CG.block ?_
    refine CG.have_len (k := 14) rfl (fun hN => ?_)
    refine CG.loop ?_
    refine LG.sub (LG.list1 (Z := fun ls i  => (a1.Nodes.drop i = ls) ∧ ref10_Same_l1 b ls i  = some R) (Of := fun _ i  => []) (Gf := fun _ i  => [(2, tPtr rpDExpr a1), (3, tPtr rpDExpr b), (15, tD (rI .i64) (a1.Nodes.length : Int)), (16, tD (rI .i64) (i : Int))]) (fun i  h => ?_) (fun e tl ih i  h => ?_) a1.Nodes 0  ⟨rfl, h⟩) ⟨rfl, rfl, rfl, rfl, trivial⟩
    · obtain ⟨hx, h⟩ := h
      refine LG.unfold ?_
      refine CG.seq ?_
      refine CG.region ?_
      refine RG.op (ok_lss (ht rfl) (ht rfl)) rfl ?_
      refine RG.nil ?_
      refine AT.next ?_
      refine CG.seq ?_
      refine CG.condF (ht rfl) (dropF hx) ?_
      refine CG.exit ?_
      refine AT.then_exit (AT.then_exit (AT.in_exit ?_))
      refine AT.next ?_
      refine CG.seq ?_
      refine CG.region ?_
      refine RG.op (ok_assign hB) rfl ?_
      refine RG.nil ?_
      refine AT.next ?_
      refine CG.ret ?_
      cases so h
      exact AT.ret1 rfl rfl
    · obtain ⟨hx, h⟩ := h
      refine LG.unfold ?_
      refine CG.seq ?_
      refine CG.region ?_
      refine RG.op (ok_lss (ht rfl) (ht rfl)) rfl ?_
      refine RG.nil ?_
      refine AT.next ?_
      refine CG.seq ?_
      refine CG.condT (ht rfl) (dropT hx) ?_
      refine CG.skip ?_
      refine AT.next ?_
      refine CG.seq ?_
      refine CG.block ?_
      refine CG.seq ?_
      refine CG.region ?_
      refine RG.op (ok_move (ht rfl)) rfl ?_
      refine RG.op (ok_assign (ht rfl)) rfl ?_
      refine RG.nil ?_
      refine AT.next ?_
      refine CG.seq ?_
      obtain ⟨e1, q_e1, h⟩ := bs h
      refine CG.draw (ts := [tPtr (rSl rpDENode) a1.Nodes, tD (rSl rpDENode) a1.Nodes, tD (rI .i64) (i : Int), tPtr rpDENode e, tD rpDENode e, tPtr (rSl rpDENode) b.Nodes, tD (rSl rpDENode) b.Nodes, tD (rI .i64) (i : Int), tPtr rpDENode e1, tD rpDENode e1, tD rB (!decide (e = e1))]) mixed rfl rfl
        ⟨⟨[⟨2, _, none⟩], _, rfl, ⟨rfl, trivial⟩, rfl, rfl, OpG.plain rfl (ok_fieldAddr fd25_0 rfl flDExpr_0 rfl (ht rfl))⟩,
        ⟨⟨[⟨19, _, some 0⟩], _, rfl, ⟨rfl, trivial⟩, rfl, rfl, OpG.plain rfl (ok_load ti23 rfl rfl (ht rfl))⟩,
        ⟨⟨[⟨5, _, none⟩], _, rfl, ⟨rfl, trivial⟩, rfl, rfl, OpG.plain rfl (ok_move (ht rfl))⟩,
        ⟨⟨[⟨20, _, some 1⟩, ⟨21, _, some 2⟩], _, rfl, ⟨rfl, rfl, trivial⟩, rfl, rfl, OpG.plain rfl (ok_indexAddr Tryz.underlying23 ti83 rfl (ht rfl) (ht rfl) (dropI hx))⟩,
        ⟨⟨[⟨22, _, some 3⟩], _, rfl, ⟨rfl, trivial⟩, rfl, rfl, OpG.plain rfl (ok_load ti83 rfl rfl (ht rfl))⟩,
        ⟨⟨[⟨3, _, none⟩], _, rfl, ⟨rfl, trivial⟩, rfl, rfl, OpG.plain rfl (ok_fieldAddr fd25_0 rfl flDExpr_0 rfl (ht rfl))⟩,
        ⟨⟨[⟨24, _, some 5⟩], _, rfl, ⟨rfl, trivial⟩, rfl, rfl, OpG.plain rfl (ok_load ti23 rfl rfl (ht rfl))⟩,
        ⟨⟨[⟨5, _, none⟩], _, rfl, ⟨rfl, trivial⟩, rfl, rfl, OpG.plain rfl (ok_move (ht rfl))⟩,
        ⟨⟨[⟨25, _, some 6⟩, ⟨26, _, some 7⟩], _, rfl, ⟨rfl, rfl, trivial⟩, rfl, rfl, OpG.plain rfl (ok_indexAddr Tryz.underlying23 ti83 rfl (ht rfl) (ht rfl) q_e1)⟩,
        ⟨⟨[⟨27, _, some 8⟩], _, rfl, ⟨rfl, trivial⟩, rfl, rfl, OpG.plain rfl (ok_load ti83 rfl rfl (ht rfl))⟩,
        ⟨⟨[⟨23, _, some 4⟩, ⟨28, _, some 9⟩], _, rfl, ⟨rfl, rfl, trivial⟩, rfl, rfl, OpG.plain rfl (ok_neqD eq83 (ht rfl) (ht rfl))⟩,
        trivial⟩⟩⟩⟩⟩⟩⟩⟩⟩⟩⟩ ?_
      refine AT.next ?_
      refine CG.cond (ht rfl) (fun hc => ?_) (fun hc => ?_)
      · have h := ct h hc
        refine CG.seq ?_
        refine CG.region ?_
        refine RG.op (ok_assign hB) rfl ?_
        refine RG.nil ?_
        refine AT.next ?_
        refine CG.ret ?_
        refine AT.in_ret (AT.then_ret (AT.then_ret (AT.in_ret (AT.then_ret ?_))))
        cases so h
        exact AT.ret1 rfl rfl
      · have h := cf h hc
        refine CG.skip ?_
        refine AT.in_normal ?_
        refine AT.next ?_
        refine CG.region ?_
        refine RG.op (ok_incN (dropL hx hN) (ht rfl) hI) rfl ?_
        refine RG.op (ok_move (ht rfl)) rfl ?_
        refine RG.nil ?_
        exact AT.round (LG.sub (ih (i + 1)  ⟨dropS hx, h⟩) ⟨rfl, rfl, rfl, rfl, trivial⟩)

set_option maxRecDepth 100000 in
theorem f48_ok (a1 : (List DExpr)) (b : (List DExpr)) {R : Bool} (h : ref10_SameAll a1 b = some R) : Spec Tryz.prog 48 [tD (rSl rpDExpr) a1, tD (rSl rpDExpr) b] (tD rB R) := by
  refine Spec.of Tryz.func48 rfl rfl rfl fun w0 S0 => ?_
  refine CG.seq ?_
  refine CG.region ?_
  refine RG.op (ok_assign hB) rfl ?_
  refine RG.nil ?_
  refine AT.next ?_
  refine CG.seq ?_
  refine CG.seq ?_
  refine CG.region ?_
  refine RG.op (ok_move (ht rfl)) rfl ?_
  refine RG.op (ok_lenSl Tryz.underlying27 (ht rfl)) rfl ?_
  refine RG.op (ok_move (ht rfl)) rfl ?_
  refine RG.op (ok_lenSl Tryz.underlying27 (ht rfl)) rfl ?_
  refine RG.op (ok_neqI (ht rfl) (ht rfl)) rfl ?_
  refine RG.nil ?_
  refine AT.next ?_
  refine CG.cond (ht rfl) (fun hc => ?_) (fun hc => ?_)
  · have h := ct h hc
    refine CG.seq ?_
    refine CG.region ?_
    refine RG.op (ok_assign hB) rfl ?_
    refine RG.nil ?_
    refine AT.next ?_
    refine CG.ret ?_
    refine AT.then_ret ?_
    cases so h
    exact AT.ret1 rfl rfl
  · have h := cf h hc
    refine CG.skip ?_
    refine AT.next ?_
    refine CG.seq ?_
    refine CG.seq ?_
    refine CG.region ?_
    refine RG.op (ok_move (ht rfl)) rfl ?_
    refine RG.op (ok_lenSl Tryz.underlying27 (ht rfl)) rfl ?_
    refine RG.op (ok_move hI) rfl ?_
    refine RG.nil ?_
    refine AT.next ?_
    refine CG.block ?_
    refine CG.have_len (k := 11) rfl (fun hN => ?_)
    refine CG.loop ?_
    refine LG.sub (LG.list1 (Z := fun ls i  => (a1.drop i = ls) ∧ ref10_SameAll_l1 b ls i  = some R) (Of := fun _ i  => []) (Gf := fun _ i  => [(0, tD (rSl rpDExpr) a1), (1, tD (rSl rpDExpr) b), (12, tD (rI .i64) (a1.length : Int)), (13, tD (rI .i64) (i : Int))]) (fun i  h => ?_) (fun e tl ih i  h => ?_) a1 0  ⟨rfl, h⟩) ⟨rfl, rfl, rfl, rfl, trivial⟩
    · obtain ⟨hx, h⟩ := h
      refine LG.unfold ?_
      refine CG.seq ?_
      refine CG.region ?_
      refine RG.op (ok_lss (ht rfl) (ht rfl)) rfl ?_
      refine RG.nil ?_
      refine AT.next ?_
      refine CG.seq ?_
      refine CG.condF (ht rfl) (dropF hx) ?_
      refine CG.exit ?_
      refine AT.then_exit (AT.then_exit (AT.in_exit ?_))
      refine AT.next ?_
      refine CG.seq ?_
      refine CG.region ?_
      refine RG.op (ok_assign hB) rfl ?_
      refine RG.nil ?_
      refine AT.next ?_
      refine CG.ret ?_
      cases so h
      exact AT.ret1 rfl rfl
    · obtain ⟨hx, h⟩ := h
      refine LG.unfold ?_
      refine CG.seq ?_
      refine CG.region ?_
      refine RG.op (ok_lss (ht rfl) (ht rfl)) rfl ?_
      refine RG.nil ?_
      refine AT.next ?_
      refine CG.seq ?_
      refine CG.condT (ht rfl) (dropT hx) ?_
      refine CG.skip ?_
      refine AT.next ?_
      refine CG.seq ?_
      refine CG.block ?_
      refine CG.seq ?_
      refine CG.region ?_
      refine RG.op (ok_move (ht rfl)) rfl ?_
      refine RG.op (ok_assign (ht rfl)) rfl ?_
      refine RG.nil ?_
      refine AT.next ?_
      refine CG.seq ?_
      obtain ⟨e1, q_e1, h⟩ := bs h
      obtain ⟨r, q_r, h⟩ := bs h
      refine CG.draw (ts := [tD (rSl rpDExpr) a1, tD (rI .i64) (i : Int), tPtr rpDExpr e, tD rpDExpr e, tD (rSl rpDExpr) b, tD (rI .i64) (i : Int), tPtr rpDExpr e1, tD rpDExpr e1, tD rB r, tD rB (!r)]) mixed rfl rfl
        ⟨⟨[⟨0, _, none⟩], _, rfl, ⟨rfl, trivial⟩, rfl, rfl, OpG.plain rfl (ok_move (ht rfl))⟩,
        ⟨⟨[⟨5, _, none⟩], _, rfl, ⟨rfl, trivial⟩, rfl, rfl, OpG.plain rfl (ok_move (ht rfl))⟩,
        ⟨⟨[⟨16, _, some 0⟩, ⟨17, _, some 1⟩], _, rfl, ⟨rfl, rfl, trivial⟩, rfl, rfl, OpG.plain rfl (ok_indexAddr Tryz.underlying27 ti25 rfl (ht rfl) (ht rfl) (dropI hx))⟩,
        ⟨⟨[⟨18, _, some 2⟩], _, rfl, ⟨rfl, trivial⟩, rfl, rfl, OpG.plain rfl (ok_load ti25 rfl rfl (ht rfl))⟩,
        ⟨⟨[⟨1, _, none⟩], _, rfl, ⟨rfl, trivial⟩, rfl, rfl, OpG.plain rfl (ok_move (ht rfl))⟩,
        ⟨⟨[⟨5, _, none⟩], _, rfl, ⟨rfl, trivial⟩, rfl, rfl, OpG.plain rfl (ok_move (ht rfl))⟩,
        ⟨⟨[⟨20, _, some 4⟩, ⟨21, _, some 5⟩], _, rfl, ⟨rfl, rfl, trivial⟩, rfl, rfl, OpG.plain rfl (ok_indexAddr Tryz.underlying27 ti25 rfl (ht rfl) (ht rfl) q_e1)⟩,
        ⟨⟨[⟨22, _, some 6⟩], _, rfl, ⟨rfl, trivial⟩, rfl, rfl, OpG.plain rfl (ok_load ti25 rfl rfl (ht rfl))⟩,
        ⟨⟨[⟨19, _, some 3⟩, ⟨23, _, some 7⟩], _, rfl, ⟨rfl, rfl, trivial⟩, rfl, rfl, OpG.plain rfl (ok_call cb47 (f47_ok _ _ q_r) ⟨(ht rfl), (ht rfl), trivial⟩)⟩,
        ⟨⟨[⟨24, _, some 8⟩], _, rfl, ⟨rfl, trivial⟩, rfl, rfl, OpG.plain rfl (ok_not (ht rfl))⟩,
        trivial⟩⟩⟩⟩⟩⟩⟩⟩⟩⟩ ?_
      refine AT.next ?_
      refine CG.cond (ht rfl) (fun hc => ?_) (fun hc => ?_)
      · have h := ct h hc
        refine CG.seq ?_
        refine CG.region ?_
        refine RG.op (ok_assign hB) rfl ?_
        refine RG.nil ?_
        refine AT.next ?_
        refine CG.ret ?_
        refine AT.in_ret (AT.then_ret (AT.then_ret (AT.in_ret (AT.then_ret ?_))))
        cases so h
        exact AT.ret1 rfl rfl
      · have h := cf h hc
        refine CG.skip ?_
        refine AT.in_normal ?_
        refine AT.next ?_
        refine CG.region ?_
        refine RG.op (ok_incN (dropL hx hN) (ht rfl) hI) rfl ?_
        refine RG.op (ok_move (ht rfl)) rfl ?_
        refine RG.nil ?_
        exact AT.round (LG.sub (ih (i + 1)  ⟨dropS hx, h⟩) ⟨rfl, rfl, rfl, rfl, trivial⟩)

set_option maxRecDepth 100000 in
theorem f31_ok (a1 : DLNode) (b : DLNode) {R : Bool} (h : ref13_SameNode a1 b = some R) : Spec Tryz.prog 31 [tD rpDLNode a1, tD rpDLNode b] (tD rB R) := by
  refine Spec.of Tryz.func31 rfl rfl rfl fun w0 S0 => ?_
  refine CG.seq ?_
  refine CG.region ?_
  refine RG.op (ok_box (ht rfl)) rfl ?_
  refine RG.op (ok_box (ht rfl)) rfl ?_
  refine RG.op (ok_assign hB) rfl ?_
  refine RG.nil ?_
  refine AT.next ?_
  refine CG.seq ?_
  refine CG.seq ?_
  refine CG.region ?_
  refine RG.op (ok_fieldAddr fd30_0 rfl flDLNode_0 rfl (ht rfl)) rfl ?_
  refine RG.op (ok_load ti3 rfl rfl (ht rfl)) rfl ?_
  refine RG.op (ok_fieldAddr fd30_0 rfl flDLNode_0 rfl (ht rfl)) rfl ?_
  refine RG.op (ok_load ti3 rfl rfl (ht rfl)) rfl ?_
  refine RG.op (ok_neqI (ht rfl) (ht rfl)) rfl ?_
  refine RG.op (ok_move (ht rfl)) rfl ?_
  refine RG.opGf rfl rfl rfl rfl (fun hg => ok_fieldAddr fd30_1 rfl flDLNode_1 rfl (ht rfl)) ?_
  refine RG.opGf rfl rfl rfl rfl (fun hg => ok_load ti3 rfl rfl (htO rfl hg)) ?_
  refine RG.opGf rfl rfl rfl rfl (fun hg => ok_fieldAddr fd30_1 rfl flDLNode_1 rfl (ht rfl)) ?_
  refine RG.opGf rfl rfl rfl rfl (fun hg => ok_load ti3 rfl rfl (htO rfl hg)) ?_
  refine RG.opGf rfl rfl rfl rfl (fun hg => ok_neqI (htO rfl hg) (htO rfl hg)) ?_
  refine RG.op (ok_pickOr (ht rfl) (fun hb => (htO rfl (noti hb)))) rfl ?_
  refine RG.op (ok_move (ht rfl)) rfl ?_
  refine RG.opGf rfl rfl rfl rfl (fun hg => ok_fieldAddr fd30_2 rfl flDLNode_2 rfl (ht rfl)) ?_
  refine RG.opGf rfl rfl rfl rfl (fun hg => ok_load ti3 rfl rfl (htO rfl hg)) ?_
  refine RG.opGf rfl rfl rfl rfl (fun hg => ok_fieldAddr fd30_2 rfl flDLNode_2 rfl (ht rfl)) ?_
  refine RG.opGf rfl rfl rfl rfl (fun hg => ok_load ti3 rfl rfl (htO rfl hg)) ?_
  refine RG.opGf rfl rfl rfl rfl (fun hg => ok_neqI (htO rfl hg) (htO rfl hg)) ?_
  refine RG.op (ok_pickOr (ht rfl) (fun hb => (htO rfl (noti hb)))) rfl ?_
  refine RG.op (ok_move (ht rfl)) rfl ?_
  refine RG.opGf rfl rfl rfl rfl (fun hg => ok_fieldAddr fd30_3 rfl flDLNode_3 rfl (ht rfl)) ?_
  refine RG.opGf rfl rfl rfl rfl (fun hg => ok_load ti3 rfl rfl (htO rfl hg)) ?_
  refine RG.opGf rfl rfl rfl rfl (fun hg => ok_fieldAddr fd30_3 rfl flDLNode_3 rfl (ht rfl)) ?_
  refine RG.opGf rfl rfl rfl rfl (fun hg => ok_load ti3 rfl rfl (htO rfl hg)) ?_
  refine RG.opGf rfl rfl rfl rfl (fun hg => ok_neqI (htO rfl hg) (htO rfl hg)) ?_
  refine RG.op (ok_pickOr (ht rfl) (fun hb => (htO rfl (noti hb)))) rfl ?_
  refine RG.op (ok_move (ht rfl)) rfl ?_
  refine RG.opGf rfl rfl rfl rfl (fun hg => ok_fieldAddr fd30_5 rfl flDLNode_5 rfl (ht rfl)) ?_
  refine RG.opGf rfl rfl rfl rfl (fun hg => ok_load ti4 rfl rfl (htO rfl hg)) ?_
  refine RG.opGf rfl rfl rfl rfl (fun hg => ok_fieldAddr fd30_5 rfl flDLNode_5 rfl (ht rfl)) ?_
  refine RG.opGf rfl rfl rfl rfl (fun hg => ok_load ti4 rfl rfl (htO rfl hg)) ?_
  refine RG.opGf rfl rfl rfl rfl (fun hg => ok_neqB Tryz.underlying4 (htO rfl hg) (htO rfl hg)) ?_
  refine RG.op (ok_pickOr (ht rfl) (fun hb => (htO rfl (noti hb)))) rfl ?_
  refine RG.op (ok_move (ht rfl)) rfl ?_
  refine RG.opGf rfl rfl rfl rfl (fun hg => ok_fieldAddr fd30_11 rfl flDLNode_11 rfl (ht rfl)) ?_
  refine RG.opGf rfl rfl rfl rfl (fun hg => ok_load ti3 rfl rfl (htO rfl hg)) ?_
  refine RG.opGf rfl rfl rfl rfl (fun hg => ok_fieldAddr fd30_11 rfl flDLNode_11 rfl (ht rfl)) ?_
  refine RG.opGf rfl rfl rfl rfl (fun hg => ok_load ti3 rfl rfl (htO rfl hg)) ?_
  refine RG.opGf rfl rfl rfl rfl (fun hg => ok_neqI (htO rfl hg) (htO rfl hg)) ?_
  refine RG.op (ok_pickOr (ht rfl) (fun hb => (htO rfl (noti hb)))) rfl ?_
  refine RG.nil ?_
  refine AT.next ?_
  refine CG.cond (ht rfl) (fun hc => ?_) (fun hc => ?_)
  · have h := ct h hc
    refine CG.seq ?_
    refine CG.region ?_
    refine RG.op (ok_assign hB) rfl ?_
    refine RG.nil ?_
    refine AT.next ?_
    refine CG.ret ?_
    refine AT.then_ret ?_
    cases so h
    exact AT.ret1 rfl rfl
  · have h := cf h hc
    refine CG.skip ?_
    refine AT.next ?_
    refine CG.seq ?_
    refine CG.seq ?_
    refine CG.region ?_
    refine RG.op (ok_fieldAddr fd30_8 rfl flDLNode_8 rfl (ht rfl)) rfl ?_
    refine RG.op (ok_load ti26 rfl rfl (ht rfl)) rfl ?_
    refine RG.op (ok_lenSl Tryz.underlying26 (ht rfl)) rfl ?_
    refine RG.op (ok_fieldAddr fd30_8 rfl flDLNode_8 rfl (ht rfl)) rfl ?_
    refine RG.op (ok_load ti26 rfl rfl (ht rfl)) rfl ?_
    refine RG.op (ok_lenSl Tryz.underlying26 (ht rfl)) rfl ?_
    refine RG.op (ok_neqI (ht rfl) (ht rfl)) rfl ?_
    refine RG.op (ok_move (ht rfl)) rfl ?_
    refine RG.opGf rfl rfl rfl rfl (fun hg => ok_fieldAddr fd30_10 rfl flDLNode_10 rfl (ht rfl)) ?_
    refine RG.opGf rfl rfl rfl rfl (fun hg => ok_load ti28 rfl rfl (htO rfl hg)) ?_
    refine RG.opGf rfl rfl rfl rfl (fun hg => ok_lenSl Tryz.underlying28 (htO rfl hg)) ?_
    refine RG.opGf rfl rfl rfl rfl (fun hg => ok_fieldAddr fd30_10 rfl flDLNode_10 rfl (ht rfl)) ?_
    refine RG.opGf rfl rfl rfl rfl (fun hg => ok_load ti28 rfl rfl (htO rfl hg)) ?_
    refine RG.opGf rfl rfl rfl rfl (fun hg => ok_lenSl Tryz.underlying28 (htO rfl hg)) ?_
    refine RG.opGf rfl rfl rfl rfl (fun hg => ok_neqI (htO rfl hg) (htO rfl hg)) ?_
    refine RG.op (ok_pickOr (ht rfl) (fun hb => (htO rfl (noti hb)))) rfl ?_
    refine RG.op (ok_move (ht rfl)) rfl ?_
    obtain ⟨t, q_t, h⟩ := bs h
    refine RG.opGf rfl rfl rfl rfl (fun hg => ok_fieldAddr fd30_4 rfl flDLNode_4 rfl (ht rfl)) ?_
    refine RG.opGf rfl rfl rfl rfl (fun hg => ok_load ti22 rfl rfl (htO rfl hg)) ?_
    refine RG.opGf rfl rfl rfl rfl (fun hg => ok_fieldAddr fd30_4 rfl flDLNode_4 rfl (ht rfl)) ?_
    refine RG.opGf rfl rfl rfl rfl (fun hg => ok_load ti22 rfl rfl (htO rfl hg)) ?_
    obtain ⟨r, h1t, h0t⟩ := og q_t
    have q_rg := fun hb => (h1t hb).1
    refine RG.opGf rfl rfl rfl rfl (fun hg => ok_call cb20 (f20_ok _ _ (q_rg hg)) ⟨(htO rfl hg), (htO rfl hg), trivial⟩) ?_
    refine RG.opGf rfl rfl rfl rfl (fun hg => ok_not (htO rfl hg)) ?_
    refine RG.op (ok_pickOrM (ht rfl) (fun hb => (htO rfl (noti hb))) (fun hb => (h1t hb).2) h0t) rfl ?_
    refine RG.op (ok_move (ht rfl)) rfl ?_
    obtain ⟨t1, q_t1, h⟩ := bs h
    refine RG.opGf rfl rfl rfl rfl (fun hg => ok_fieldAddr fd30_7 rfl flDLNode_7 rfl (ht rfl)) ?_
    refine RG.opGf rfl rfl rfl rfl (fun hg => ok_load ti22 rfl rfl (htO rfl hg)) ?_
    refine RG.opGf rfl rfl rfl rfl (fun hg => ok_fieldAddr fd30_7 rfl flDLNode_7 rfl (ht rfl)) ?_
    refine RG.opGf rfl rfl rfl rfl (fun hg => ok_load ti22 rfl rfl (htO rfl hg)) ?_
    obtain ⟨r1, h1t1, h0t1⟩ := og q_t1
    have q_r1g := fun hb => (h1t1 hb).1
    refine RG.opGf rfl rfl rfl rfl (fun hg => ok_call cb20 (f20_ok _ _ (q_r1g hg)) ⟨(htO rfl hg), (htO rfl hg), trivial⟩) ?_
    refine RG.opGf rfl rfl rfl rfl (fun hg => ok_not (htO rfl hg)) ?_
    refine RG.op (ok_pickOrM (ht rfl) (fun hb => (htO rfl (noti hb))) (fun hb => (h1t1 hb).2) h0t1) rfl ?_
    refine RG.nil ?_
    refine AT.next ?_
    refine CG.cond (ht rfl) (fun hc => ?_) (fun hc => ?_)
    · have h := ct h hc
      refine CG.seq ?_
      refine CG.region ?_
      refine RG.op (ok_assign hB) rfl ?_
      refine RG.nil ?_
      refine AT.next ?_
      refine CG.ret ?_
      refine AT.then_ret ?_
      cases so h
      exact AT.ret1 rfl rfl
    · have h := cf h hc
      refine CG.skip ?_
      refine AT.next ?_
      refine CG.seq ?_
      refine CG.seq ?_
      refine CG.region ?_
      refine RG.op (ok_assign hI) rfl ?_
      refine RG.nil ?_
      refine AT.next ?_
      refine CG.block ?_
      refine CG.loop ?_
      refine LG.sub (LG.ind1 (Z := fun n i => ref13_SameNode_l1 a1 b n i = some R) (Of := fun i => []) (Gf := fun i => [(2, tPtr rpDLNode a1), (3, tPtr rpDLNode b), (5, tD (rI .i64) i)]) (fun i h => nn h) (fun n ih i h => ?_) FUEL (0 : Int) h) ⟨rfl, rfl, rfl, trivial⟩
      refine LG.unfold ?_
      refine CG.seq ?_
      refine CG.seq ?_
      refine CG.region ?_
      refine RG.op (ok_move (ht rfl)) rfl ?_
      refine RG.op (ok_fieldAddr fd30_8 rfl flDLNode_8 rfl (ht rfl)) rfl ?_
      refine RG.op (ok_load ti26 rfl rfl (ht rfl)) rfl ?_
      refine RG.op (ok_lenSl Tryz.underlying26 (ht rfl)) rfl ?_
      refine RG.op (ok_lss (ht rfl) (ht rfl)) rfl ?_
      refine RG.nil ?_
      refine AT.next ?_
      refine CG.cond (ht rfl) (fun hc => ?_) (fun hc => ?_)
      · have h := ct h hc
        refine CG.skip ?_
        refine AT.next ?_
        refine CG.seq ?_
        refine CG.block ?_
        refine CG.seq ?_
        obtain ⟨e, q_e, h⟩ := bs h
        obtain ⟨e1, q_e1, h⟩ := bs h
        obtain ⟨t2, q_t2, h⟩ := bs h
        obtain ⟨r2, h1t2, h0t2⟩ := og q_t2
        have q_r2g := fun hb => (h1t2 hb).1
        refine CG.draw (ts := [tPtr (rSl rpDAgg) a1.Aggs, tD (rSl rpDAgg) a1.Aggs, tD (rI .i64) i, tPtr rpDAgg e, tPtr (rI .i64) e.Tag, tD (rI .i64) e.Tag, tPtr (rSl rpDAgg) b.Aggs, tD (rSl rpDAgg) b.Aggs, tD (rI .i64) i, tPtr rpDAgg e1, tPtr (rI .i64) e1.Tag, tD (rI .i64) e1.Tag, tD rB (e.Tag != e1.Tag), tD rB (e.Tag != e1.Tag), tOpt (!(e.Tag != e1.Tag)) (tPtr (rSl rpDAgg) a1.Aggs), tOpt (!(e.Tag != e1.Tag)) (tD (rSl rpDAgg) a1.Aggs), tOpt (!(e.Tag != e1.Tag)) (tD (rI .i64) i), tOpt (!(e.Tag != e1.Tag)) (tPtr rpDAgg e), tOpt (!(e.Tag != e1.Tag)) (tPtr rpDExpr e.Arg), tOpt (!(e.Tag != e1.Tag)) (tD rpDExpr e.Arg), tOpt (!(e.Tag != e1.Tag)) (tPtr (rSl rpDAgg) b.Aggs), tOpt (!(e.Tag != e1.Tag)) (tD (rSl rpDAgg) b.Aggs), tOpt (!(e.Tag != e1.Tag)) (tD (rI .i64) i), tOpt (!(e.Tag != e1.Tag)) (tPtr rpDAgg e1), tOpt (!(e.Tag != e1.Tag)) (tPtr rpDExpr e1.Arg), tOpt (!(e.Tag != e1.Tag)) (tD rpDExpr e1.Arg), tOpt (!(e.Tag != e1.Tag)) (tD rB r2), tOpt (!(e.Tag != e1.Tag)) (tD rB (!r2)), tD rB t2]) mixed rfl rfl
          ⟨⟨[⟨2, _, none⟩], _, rfl, ⟨rfl, trivial⟩, rfl, rfl, OpG.plain rfl (ok_fieldAddr fd30_8 rfl flDLNode_8 rfl (ht rfl))⟩,
          ⟨⟨[⟨86, _, some 0⟩], _, rfl, ⟨rfl, trivial⟩, rfl, rfl, OpG.plain rfl (ok_load ti26 rfl rfl (ht rfl))⟩,
          ⟨⟨[⟨5, _, none⟩], _, rfl, ⟨rfl, trivial⟩, rfl, rfl, OpG.plain rfl (ok_move (ht rfl))⟩,
          ⟨⟨[⟨87, _, some 1⟩, ⟨88, _, some 2⟩], _, rfl, ⟨rfl, rfl, trivial⟩, rfl, rfl, OpG.plain rfl (ok_indexAddr Tryz.underlying26 ti61 rfl (ht rfl) (ht rfl) q_e)⟩,
          ⟨⟨[⟨89, _, some 3⟩], _, rfl, ⟨rfl, trivial⟩, rfl, rfl, OpG.plain rfl (ok_fieldAddr fd61_0 rfl flDAgg_0 rfl (ht rfl))⟩,
          ⟨⟨[⟨90, _, some 4⟩], _, rfl, ⟨rfl, trivial⟩, rfl, rfl, OpG.plain rfl (ok_load ti3 rfl rfl (ht rfl))⟩,
          ⟨⟨[⟨3, _, none⟩], _, rfl, ⟨rfl, trivial⟩, rfl, rfl, OpG.plain rfl (ok_fieldAddr fd30_8 rfl flDLNode_8 rfl (ht rfl))⟩,
          ⟨⟨[⟨92, _, some 6⟩], _, rfl, ⟨rfl, trivial⟩, rfl, rfl, OpG.plain rfl (ok_load ti26 rfl rfl (ht rfl))⟩,
          ⟨⟨[⟨5, _, none⟩], _, rfl, ⟨rfl, trivial⟩, rfl, rfl, OpG.plain rfl (ok_move (ht rfl))⟩,
          ⟨⟨[⟨93, _, some 7⟩, ⟨94, _, some 8⟩], _, rfl, ⟨rfl, rfl, trivial⟩, rfl, rfl, OpG.plain rfl (ok_indexAddr Tryz.underlying26 ti61 rfl (ht rfl) (ht rfl) q_e1)⟩,
          ⟨⟨[⟨95, _, some 9⟩], _, rfl, ⟨rfl, trivial⟩, rfl, rfl, OpG.plain rfl (ok_fieldAddr fd61_0 rfl flDAgg_0 rfl (ht rfl))⟩,
          ⟨⟨[⟨96, _, some 10⟩], _, rfl, ⟨rfl, trivial⟩, rfl, rfl, OpG.plain rfl (ok_load ti3 rfl rfl (ht rfl))⟩,
          ⟨⟨[⟨91, _, some 5⟩, ⟨97, _, some 11⟩], _, rfl, ⟨rfl, rfl, trivial⟩, rfl, rfl, OpG.plain rfl (ok_neqI (ht rfl) (ht rfl))⟩,
          ⟨⟨[⟨98, _, some 12⟩], _, rfl, ⟨rfl, trivial⟩, rfl, rfl, OpG.plain rfl (ok_move (ht rfl))⟩,
          ⟨⟨[⟨2, _, none⟩, ⟨99, _, some 13⟩], _, rfl, ⟨rfl, rfl, trivial⟩, rfl, rfl, OpG.gf rfl rfl rfl rfl (fun hg => ok_fieldAddr fd30_8 rfl flDLNode_8 rfl (ht rfl))⟩,
          ⟨⟨[⟨100, _, some 14⟩, ⟨99, _, some 13⟩], _, rfl, ⟨rfl, rfl, trivial⟩, rfl, rfl, OpG.gf rfl rfl rfl rfl (fun hg => ok_load ti26 rfl rfl (htO rfl hg))⟩,
          ⟨⟨[⟨5, _, none⟩, ⟨99, _, some 13⟩], _, rfl, ⟨rfl, rfl, trivial⟩, rfl, rfl, OpG.gf rfl rfl rfl rfl (fun hg => ok_move (ht rfl))⟩,
          ⟨⟨[⟨101, _, some 15⟩, ⟨102, _, some 16⟩, ⟨99, _, some 13⟩], _, rfl, ⟨rfl, rfl, rfl, trivial⟩, rfl, rfl, OpG.gf rfl rfl rfl rfl (fun hg => ok_indexAddr Tryz.underlying26 ti61 rfl (htO rfl hg) (htO rfl hg) q_e)⟩,
          ⟨⟨[⟨103, _, some 17⟩, ⟨99, _, some 13⟩], _, rfl, ⟨rfl, rfl, trivial⟩, rfl, rfl, OpG.gf rfl rfl rfl rfl (fun hg => ok_fieldAddr fd61_1 rfl flDAgg_1 rfl (htO rfl hg))⟩,
          ⟨⟨[⟨104, _, some 18⟩, ⟨99, _, some 13⟩], _, rfl, ⟨rfl, rfl, trivial⟩, rfl, rfl, OpG.gf rfl rfl rfl rfl (fun hg => ok_load ti25 rfl rfl (htO rfl hg))⟩,
          ⟨⟨[⟨3, _, none⟩, ⟨99, _, some 13⟩], _, rfl, ⟨rfl, rfl, trivial⟩, rfl, rfl, OpG.gf rfl rfl rfl rfl (fun hg => ok_fieldAddr fd30_8 rfl flDLNode_8 rfl (ht rfl))⟩,
          ⟨⟨[⟨106, _, some 20⟩, ⟨99, _, some 13⟩], _, rfl, ⟨rfl, rfl, trivial⟩, rfl, rfl, OpG.gf rfl rfl rfl rfl (fun hg => ok_load ti26 rfl rfl (htO rfl hg))⟩,
          ⟨⟨[⟨5, _, none⟩, ⟨99, _, some 13⟩], _, rfl, ⟨rfl, rfl, trivial⟩, rfl, rfl, OpG.gf rfl rfl rfl rfl (fun hg => ok_move (ht rfl))⟩,
          ⟨⟨[⟨107, _, some 21⟩, ⟨108, _, some 22⟩, ⟨99, _, some 13⟩], _, rfl, ⟨rfl, rfl, rfl, trivial⟩, rfl, rfl, OpG.gf rfl rfl rfl rfl (fun hg => ok_indexAddr Tryz.underlying26 ti61 rfl (htO rfl hg) (htO rfl hg) q_e1)⟩,
          ⟨⟨[⟨109, _, some 23⟩, ⟨99, _, some 13⟩], _, rfl, ⟨rfl, rfl, trivial⟩, rfl, rfl, OpG.gf rfl rfl rfl rfl (fun hg => ok_fieldAddr fd61_1 rfl flDAgg_1 rfl (htO rfl hg))⟩,
          ⟨⟨[⟨110, _, some 24⟩, ⟨99, _, some 13⟩], _, rfl, ⟨rfl, rfl, trivial⟩, rfl, rfl, OpG.gf rfl rfl rfl rfl (fun hg => ok_load ti25 rfl rfl (htO rfl hg))⟩,
          ⟨⟨[⟨105, _, some 19⟩, ⟨111, _, some 25⟩, ⟨99, _, some 13⟩], _, rfl, ⟨rfl, rfl, rfl, trivial⟩, rfl, rfl, OpG.gf rfl rfl rfl rfl (fun hg => ok_call cb47 (f47_ok _ _ (q_r2g hg)) ⟨(htO rfl hg), (htO rfl hg), trivial⟩)⟩,
          ⟨⟨[⟨112, _, some 26⟩, ⟨99, _, some 13⟩], _, rfl, ⟨rfl, rfl, trivial⟩, rfl, rfl, OpG.gf rfl rfl rfl rfl (fun hg => ok_not (htO rfl hg))⟩,
          ⟨⟨[⟨99, _, some 13⟩, ⟨113, _, some 27⟩], _, rfl, ⟨rfl, rfl, trivial⟩, rfl, rfl, OpG.plain rfl (ok_pickOrM (ht rfl) (fun hb => (htO rfl (noti hb))) (fun hb => (h1t2 hb).2) h0t2)⟩,
          trivial⟩⟩⟩⟩⟩⟩⟩⟩⟩⟩⟩⟩⟩⟩⟩⟩⟩⟩⟩⟩⟩⟩⟩⟩⟩⟩⟩⟩⟩ ?_
        refine AT.next ?_
        refine CG.cond (ht rfl) (fun hc => ?_) (fun hc => ?_)
        · have h := ct h hc
          refine CG.seq ?_
          refine CG.region ?_
          refine RG.op (ok_assign hB) rfl ?_
          refine RG.nil ?_
          refine AT.next ?_
          refine CG.ret ?_
          refine AT.in_ret (AT.then_ret (AT.then_ret (AT.in_ret (AT.then_ret ?_))))
          cases so h
          exact AT.ret1 rfl rfl
        · have h := cf h hc
          refine CG.skip ?_
          refine AT.in_normal ?_
          refine AT.next ?_
          refine CG.region ?_
          refine RG.op (ok_move (ht rfl)) rfl ?_
          refine RG.op (ok_add (ht rfl) hI) rfl ?_
          refine RG.op (ok_assign (ht rfl)) rfl ?_
          refine RG.nil ?_
          exact AT.round (LG.sub (ih (IntKind.i64.wrap (i + (1 : Int))) h) ⟨rfl, rfl, rfl, trivial⟩)
      · have h := cf h hc
        refine CG.exit ?_
        refine AT.then_exit (AT.then_exit (AT.in_exit ?_))
        refine AT.next ?_
        refine CG.seq ?_
        refine CG.seq ?_
        refine CG.region ?_
        refine RG.op (ok_assign hI) rfl ?_
        refine RG.nil ?_
        refine AT.next ?_
        refine CG.block ?_
        refine CG.loop ?_
        refine LG.sub (LG.ind1 (Z := fun n1 i1 => ref13_SameNode_l2 a1 b n1 i1 = some R) (Of := fun i1 => []) (Gf := fun i1 => [(2, tPtr rpDLNode a1), (3, tPtr rpDLNode b), (6, tD (rI .i64) i1)]) (fun i1 h => nn h) (fun n1 ih1 i1 h => ?_) FUEL (0 : Int) h) ⟨rfl, rfl, rfl, trivial⟩
        refine LG.unfold ?_
        refine CG.seq ?_
        refine CG.seq ?_
        refine CG.region ?_
        refine RG.op (ok_move (ht rfl)) rfl ?_
        refine RG.op (ok_fieldAddr fd30_10 rfl flDLNode_10 rfl (ht rfl)) rfl ?_
        refine RG.op (ok_load ti28 rfl rfl (ht rfl)) rfl ?_
        refine RG.op (ok_lenSl Tryz.underlying28 (ht rfl)) rfl ?_
        refine RG.op (ok_lss (ht rfl) (ht rfl)) rfl ?_
        refine RG.nil ?_
        refine AT.next ?_
        refine CG.cond (ht rfl) (fun hc => ?_) (fun hc => ?_)
        · have h := ct h hc
          refine CG.skip ?_
          refine AT.next ?_
          refine CG.seq ?_
          refine CG.block ?_
          refine CG.seq ?_
          obtain ⟨e2, q_e2, h⟩ := bs h
          obtain ⟨e3, q_e3, h⟩ := bs h
          refine CG.draw (ts := [tPtr (rSl rpDOrd) a1.Order, tD (rSl rpDOrd) a1.Order, tD (rI .i64) i1, tPtr rpDOrd e2, tD rpDOrd e2, tPtr (rSl rpDOrd) b.Order, tD (rSl rpDOrd) b.Order, tD (rI .i64) i1, tPtr rpDOrd e3, tD rpDOrd e3, tD rB (!decide (e2 = e3))]) mixed rfl rfl
            ⟨⟨[⟨2, _, none⟩], _, rfl, ⟨rfl, trivial⟩, rfl, rfl, OpG.plain rfl (ok_fieldAddr fd30_10 rfl flDLNode_10 rfl (ht rfl))⟩,
            ⟨⟨[⟨122, _, some 0⟩], _, rfl, ⟨rfl, trivial⟩, rfl, rfl, OpG.plain rfl (ok_load ti28 rfl rfl (ht rfl))⟩,
            ⟨⟨[⟨6, _, none⟩], _, rfl, ⟨rfl, trivial⟩, rfl, rfl, OpG.plain rfl (ok_move (ht rfl))⟩,
            ⟨⟨[⟨123, _, some 1⟩, ⟨124, _, some 2⟩], _, rfl, ⟨rfl, rfl, trivial⟩, rfl, rfl, OpG.plain rfl (ok_indexAddr Tryz.underlying28 ti86 rfl (ht rfl) (ht rfl) q_e2)⟩,
            ⟨⟨[⟨125, _, some 3⟩], _, rfl, ⟨rfl, trivial⟩, rfl, rfl, OpG.plain rfl (ok_load ti86 rfl rfl (ht rfl))⟩,
            ⟨⟨[⟨3, _, none⟩], _, rfl, ⟨rfl, trivial⟩, rfl, rfl, OpG.plain rfl (ok_fieldAddr fd30_10 rfl flDLNode_10 rfl (ht rfl))⟩,
            ⟨⟨[⟨127, _, some 5⟩], _, rfl, ⟨rfl, trivial⟩, rfl, rfl, OpG.plain rfl (ok_load ti28 rfl rfl (ht rfl))⟩,
            ⟨⟨[⟨6, _, none⟩], _, rfl, ⟨rfl, trivial⟩, rfl, rfl, OpG.plain rfl (ok_move (ht rfl))⟩,
            ⟨⟨[⟨128, _, some 6⟩, ⟨129, _, some 7⟩], _, rfl, ⟨rfl, rfl, trivial⟩, rfl, rfl, OpG.plain rfl (ok_indexAddr Tryz.underlying28 ti86 rfl (ht rfl) (ht rfl) q_e3)⟩,
            ⟨⟨[⟨130, _, some 8⟩], _, rfl, ⟨rfl, trivial⟩, rfl, rfl, OpG.plain rfl (ok_load ti86 rfl rfl (ht rfl))⟩,
            ⟨⟨[⟨126, _, some 4⟩, ⟨131, _, some 9⟩], _, rfl, ⟨rfl, rfl, trivial⟩, rfl, rfl, OpG.plain rfl (ok_neqD eq86 (ht rfl) (ht rfl))⟩,
            trivial⟩⟩⟩⟩⟩⟩⟩⟩⟩⟩⟩ ?_
          refine AT.next ?_
          refine CG.cond (ht rfl) (fun hc => ?_) (fun hc => ?_)
          · have h := ct h hc
            refine CG.seq ?_
            refine CG.region ?_
            refine RG.op (ok_assign hB) rfl ?_
            refine RG.nil ?_
            refine AT.next ?_
            refine CG.ret ?_
            refine AT.in_ret (AT.then_ret (AT.then_ret (AT.in_ret (AT.then_ret ?_))))
            cases so h
            exact AT.ret1 rfl rfl
          · have h := cf h hc
            refine CG.skip ?_
            refine AT.in_normal ?_
            refine AT.next ?_
            refine CG.region ?_
            refine RG.op (ok_move (ht rfl)) rfl ?_
            refine RG.op (ok_add (ht rfl) hI) rfl ?_
            refine RG.op (ok_assign (ht rfl)) rfl ?_
            refine RG.nil ?_
            exact AT.round (LG.sub (ih1 (IntKind.i64.wrap (i1 + (1 : Int))) h) ⟨rfl, rfl, rfl, trivial⟩)
        · have h := cf h hc
          refine CG.exit ?_
          refine AT.then_exit (AT.then_exit (AT.in_exit ?_))
          refine AT.next ?_
          refine CG.seq ?_
          refine CG.region ?_
          refine RG.op (ok_fieldAddr fd30_6 rfl flDLNode_6 rfl (ht rfl)) rfl ?_
          refine RG.op (ok_load ti25 rfl rfl (ht rfl)) rfl ?_
          refine RG.op (ok_fieldAddr fd30_6 rfl flDLNode_6 rfl (ht rfl)) rfl ?_
          refine RG.op (ok_load ti25 rfl rfl (ht rfl)) rfl ?_
          obtain ⟨r3, q_r3, h⟩ := bs h
          refine RG.op (ok_call cb47 (f47_ok _ _ q_r3) ⟨(ht rfl), (ht rfl), trivial⟩) rfl ?_
          refine RG.op (ok_move (ht rfl)) rfl ?_
          obtain ⟨t3, q_t3, h⟩ := bs h
          refine RG.opGt rfl rfl rfl rfl (fun hg => ok_fieldAddr fd30_9 rfl flDLNode_9 rfl (ht rfl)) ?_
          refine RG.opGt rfl rfl rfl rfl (fun hg => ok_load ti27 rfl rfl (htO rfl hg)) ?_
          refine RG.opGt rfl rfl rfl rfl (fun hg => ok_fieldAddr fd30_9 rfl flDLNode_9 rfl (ht rfl)) ?_
          refine RG.opGt rfl rfl rfl rfl (fun hg => ok_load ti27 rfl rfl (htO rfl hg)) ?_
          obtain ⟨r4, h1t3, h0t3⟩ := og q_t3
          have q_r4g := fun hb => (h1t3 hb).1
          refine RG.opGt rfl rfl rfl rfl (fun hg => ok_call cb48 (f48_ok _ _ (q_r4g hg)) ⟨(htO rfl hg), (htO rfl hg), trivial⟩) ?_
          refine RG.op (ok_pickAndM (ht rfl) (fun hb => (htO rfl hb)) (fun hb => (h1t3 hb).2) h0t3) rfl ?_
          refine RG.op (ok_assign (ht rfl)) rfl ?_
          refine RG.nil ?_
          refine AT.next ?_
          refine CG.ret ?_
          cases so h
          exact AT.ret1 rfl rfl

end Go.Proofs.YtbhkincjkpeaoaaGreat

