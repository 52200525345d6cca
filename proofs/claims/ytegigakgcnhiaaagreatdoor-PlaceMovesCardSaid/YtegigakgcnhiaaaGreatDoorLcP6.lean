/- Facts of this claim: P6. -/
import Derived.Test.YtegigakgcnhiaaaGreatDoorLcT
import Derived.Test.YtegigakgcnhiaaaGreatDoorLcP5
namespace Go.Proofs.YtegigakgcnhiaaaGreatDoor
open Go

set_option maxRecDepth 100000 in
theorem f74_ok (v : DValue) {R : Bool} (h : ref02_Right v = some R) : Spec Tryz.prog 74 [tD rpDValue v] (tD rB R) := by
  refine Spec.of Tryz.func74 rfl rfl rfl fun w0 S0 => ?_
  refine CG.seq ?_
  refine CG.region ?_
  refine RG.op (ok_box (ht rfl)) rfl ?_
  refine RG.op (ok_assign hB) rfl ?_
  refine RG.nil ?_
  refine AT.next ?_
  refine CG.seq ?_
  refine CG.seq ?_
  refine CG.region ?_
  refine RG.op (ok_fieldAddr fd89_0 rfl flDValue_0 rfl (ht rfl)) rfl ?_
  refine RG.op (ok_load ti3 rfl rfl (ht rfl)) rfl ?_
  refine RG.nil ?_
  refine AT.next ?_
  refine CG.block ?_
  refine CG.seq ?_
  refine CG.region ?_
  refine RG.op (ok_eqlI (ht rfl) hI) rfl ?_
  refine RG.op (ok_assign (ht rfl)) rfl ?_
  refine RG.nil ?_
  refine AT.next ?_
  refine CG.cond (ht rfl) (fun hc => ?_) (fun hc => ?_)
  · have h := ct h hc
    refine CG.seq ?_
    refine CG.region ?_
    refine RG.op (ok_load ti89 rfl rfl (ht rfl)) rfl ?_
    refine RG.op (ok_build (y := (⟨(0 : Int), (0 : Int), (0 : Int), []⟩ : DValue)) ti89 fs89 zrDValue (rfl)) rfl ?_
    refine RG.op (ok_eqlD eq89 (ht rfl) (ht rfl)) rfl ?_
    refine RG.op (ok_assign (ht rfl)) rfl ?_
    refine RG.nil ?_
    refine AT.next ?_
    refine CG.ret ?_
    refine AT.in_ret (AT.then_ret ?_)
    cases so h
    exact AT.ret1 rfl rfl
  · have h := cf h hc
    refine CG.seq ?_
    refine CG.region ?_
    refine RG.op (ok_eqlI (ht rfl) hI) rfl ?_
    refine RG.op (ok_assign (ht rfl)) rfl ?_
    refine RG.nil ?_
    refine AT.next ?_
    refine CG.cond (ht rfl) (fun hc => ?_) (fun hc => ?_)
    · have h := ct h hc
      refine CG.seq ?_
      refine CG.region ?_
      refine RG.op (ok_fieldAddr fd89_2 rfl flDValue_2 rfl (ht rfl)) rfl ?_
      refine RG.op (ok_load ti87 rfl rfl (ht rfl)) rfl ?_
      refine RG.op (ok_eqlI (ht rfl) hI) rfl ?_
      refine RG.op (ok_move (ht rfl)) rfl ?_
      refine RG.opGt rfl rfl rfl rfl (fun hg => ok_fieldAddr fd89_3 rfl flDValue_3 rfl (ht rfl)) ?_
      refine RG.opGt rfl rfl rfl rfl (fun hg => ok_load ti9 rfl rfl (htO rfl hg)) ?_
      refine RG.opGt rfl rfl rfl rfl (fun hg => ok_eqlS (htO rfl hg) hS) ?_
      refine RG.op (ok_pickAnd (ht rfl) (fun hb => (htO rfl hb))) rfl ?_
      refine RG.op (ok_move (ht rfl)) rfl ?_
      refine RG.opGt rfl rfl rfl rfl (fun hg => ok_fieldAddr fd89_1 rfl flDValue_1 rfl (ht rfl)) ?_
      refine RG.opGt rfl rfl rfl rfl (fun hg => ok_load ti2 rfl rfl (htO rfl hg)) ?_
      refine RG.opGt rfl rfl rfl rfl (fun hg => ok_eqlI (htO rfl hg) hI) ?_
      refine RG.opGt rfl rfl rfl rfl (fun hg => ok_move (htO rfl hg)) ?_
      refine RG.opGof rfl rfl rfl rfl (fun hg => ok_fieldAddr fd89_1 rfl flDValue_1 rfl (ht rfl)) ?_
      refine RG.opGof rfl rfl rfl rfl (fun hg => ok_load ti2 rfl rfl (htO rfl hg)) ?_
      refine RG.opGof rfl rfl rfl rfl (fun hg => ok_eqlI (htO rfl hg) hI) ?_
      refine RG.opGt rfl rfl rfl rfl (fun hg => ok_pickOr (htO rfl hg) (fun hb => (htO rfl (andi hg (noti hb))))) ?_
      refine RG.op (ok_pickAnd (ht rfl) (fun hb => (htO rfl hb))) rfl ?_
      refine RG.op (ok_assign (ht rfl)) rfl ?_
      refine RG.nil ?_
      refine AT.next ?_
      refine CG.ret ?_
      refine AT.in_ret (AT.then_ret ?_)
      cases so h
      exact AT.ret1 rfl rfl
    · have h := cf h hc
      refine CG.seq ?_
      refine CG.region ?_
      refine RG.op (ok_eqlI (ht rfl) hI) rfl ?_
      refine RG.op (ok_assign (ht rfl)) rfl ?_
      refine RG.nil ?_
      refine AT.next ?_
      refine CG.cond (ht rfl) (fun hc => ?_) (fun hc => ?_)
      · have h := ct h hc
        refine CG.seq ?_
        refine CG.region ?_
        refine RG.op (ok_fieldAddr fd89_2 rfl flDValue_2 rfl (ht rfl)) rfl ?_
        refine RG.op (ok_load ti87 rfl rfl (ht rfl)) rfl ?_
        refine RG.op (ok_eqlI (ht rfl) hI) rfl ?_
        refine RG.op (ok_move (ht rfl)) rfl ?_
        refine RG.opGt rfl rfl rfl rfl (fun hg => ok_fieldAddr fd89_3 rfl flDValue_3 rfl (ht rfl)) ?_
        refine RG.opGt rfl rfl rfl rfl (fun hg => ok_load ti9 rfl rfl (htO rfl hg)) ?_
        refine RG.opGt rfl rfl rfl rfl (fun hg => ok_eqlS (htO rfl hg) hS) ?_
        refine RG.op (ok_pickAnd (ht rfl) (fun hb => (htO rfl hb))) rfl ?_
        refine RG.op (ok_assign (ht rfl)) rfl ?_
        refine RG.nil ?_
        refine AT.next ?_
        refine CG.ret ?_
        refine AT.in_ret (AT.then_ret ?_)
        cases so h
        exact AT.ret1 rfl rfl
      · have h := cf h hc
        refine CG.seq ?_
        refine CG.region ?_
        refine RG.op (ok_eqlI (ht rfl) hI) rfl ?_
        refine RG.op (ok_assign (ht rfl)) rfl ?_
        refine RG.nil ?_
        refine AT.next ?_
        refine CG.cond (ht rfl) (fun hc => ?_) (fun hc => ?_)
        · have h := ct h hc
          refine CG.seq ?_
          refine CG.region ?_
          refine RG.op (ok_fieldAddr fd89_1 rfl flDValue_1 rfl (ht rfl)) rfl ?_
          refine RG.op (ok_load ti2 rfl rfl (ht rfl)) rfl ?_
          refine RG.op (ok_eqlI (ht rfl) hI) rfl ?_
          refine RG.op (ok_move (ht rfl)) rfl ?_
          refine RG.opGt rfl rfl rfl rfl (fun hg => ok_fieldAddr fd89_2 rfl flDValue_2 rfl (ht rfl)) ?_
          refine RG.opGt rfl rfl rfl rfl (fun hg => ok_load ti87 rfl rfl (htO rfl hg)) ?_
          refine RG.opGt rfl rfl rfl rfl (fun hg => ok_eqlI (htO rfl hg) hI) ?_
          refine RG.op (ok_pickAnd (ht rfl) (fun hb => (htO rfl hb))) rfl ?_
          refine RG.op (ok_move (ht rfl)) rfl ?_
          refine RG.opGt rfl rfl rfl rfl (fun hg => ok_fieldAddr fd89_3 rfl flDValue_3 rfl (ht rfl)) ?_
          refine RG.opGt rfl rfl rfl rfl (fun hg => ok_load ti9 rfl rfl (htO rfl hg)) ?_
          refine RG.opGt rfl rfl rfl rfl (fun hg => ok_lenS Tryz.underlying9 (htO rfl hg)) ?_
          refine RG.opGt rfl rfl rfl rfl (fun hg => ok_leq (htO rfl hg) hI) ?_
          refine RG.op (ok_pickAnd (ht rfl) (fun hb => (htO rfl hb))) rfl ?_
          refine RG.op (ok_assign (ht rfl)) rfl ?_
          refine RG.nil ?_
          refine AT.next ?_
          refine CG.ret ?_
          refine AT.in_ret (AT.then_ret ?_)
          cases so h
          exact AT.ret1 rfl rfl
        · have h := cf h hc
          refine CG.skip ?_
          refine AT.in_normal ?_
          refine AT.next ?_
          refine CG.seq ?_
          refine CG.region ?_
          refine RG.op (ok_fieldAddr fd89_0 rfl flDValue_0 rfl (ht rfl)) rfl ?_
          refine RG.op (ok_load ti3 rfl rfl (ht rfl)) rfl ?_
          refine RG.op (ok_eqlI (ht rfl) hI) rfl ?_
          refine RG.op (ok_move (ht rfl)) rfl ?_
          refine RG.opGt rfl rfl rfl rfl (fun hg => ok_fieldAddr fd89_3 rfl flDValue_3 rfl (ht rfl)) ?_
          refine RG.opGt rfl rfl rfl rfl (fun hg => ok_load ti9 rfl rfl (htO rfl hg)) ?_
          refine RG.opGt rfl rfl rfl rfl (fun hg => ok_eqlS (htO rfl hg) hS) ?_
          refine RG.op (ok_pickAnd (ht rfl) (fun hb => (htO rfl hb))) rfl ?_
          refine RG.op (ok_assign (ht rfl)) rfl ?_
          refine RG.nil ?_
          refine AT.next ?_
          refine CG.ret ?_
          cases so h
          exact AT.ret1 rfl rfl

set_option maxRecDepth 100000 in
theorem f46_ok (l : (List (List DValue))) (kinds : (List Int)) {R : Bool} (h : ref15_rows l kinds = some R) : Spec Tryz.prog 46 [tD (rSl (rSl rpDValue)) l, tD (rSl (rI .i64)) kinds] (tD rB R) := by
  refine Spec.of Tryz.func46 rfl rfl rfl fun w0 S0 => ?_
  refine CG.seq ?_
  refine CG.region ?_
  refine RG.op (ok_assign hB) rfl ?_
  refine RG.nil ?_
  refine AT.next ?_
  refine CG.seq ?_
  refine CG.seq ?_
  refine CG.region ?_
  refine RG.op (ok_move (ht rfl)) rfl ?_
  refine RG.op (ok_lenSl Tryz.underlying54 (ht rfl)) rfl ?_
  refine RG.op (ok_gtr (ht rfl) hI) rfl ?_
  refine RG.nil ?_
  refine AT.next ?_
  refine CG.cond (ht rfl) (fun hc => ?_) (fun hc => ?_)
  · have h := ct h hc
    refine CG.seq ?_
    refine CG.region ?_
    refine RG.op (ok_assign hB) rfl ?_
    refine RG.nil ?_
    refine AT.next ?_
    refine CG.ret ?_
    refine AT.then_ret ?_
    cases so h
    exact AT.ret1 rfl rfl
  · have h := cf h hc
    refine CG.skip ?_
    refine AT.next ?_
    refine CG.seq ?_
    refine CG.seq ?_
    refine CG.region ?_
    refine RG.op (ok_assign hI) rfl ?_
    refine RG.nil ?_
    refine AT.next ?_
    refine CG.block ?_
    refine CG.have_len (k := 0) rfl (fun hN => ?_)
    refine CG.loop ?_
    refine LG.sub (LG.list1 (Z := fun ls i  => (l.drop i = ls) ∧ ref15_rows_l1 kinds ls  = some R) (Of := fun _ i  => []) (Gf := fun _ i  => [(0, tD (rSl (rSl rpDValue)) l), (1, tD (rSl (rI .i64)) kinds), (5, tD (rI .i64) (i : Int))]) (fun i  h => ?_) (fun e tl ih i  h => ?_) l 0  ⟨rfl, h⟩) ⟨rfl, rfl, rfl, trivial⟩
    · obtain ⟨hx, h⟩ := h
      refine LG.unfold ?_
      refine CG.seq ?_
      refine CG.seq ?_
      refine CG.region ?_
      refine RG.op (ok_move (ht rfl)) rfl ?_
      refine RG.op (ok_move (ht rfl)) rfl ?_
      refine RG.op (ok_lenSl Tryz.underlying54 (ht rfl)) rfl ?_
      refine RG.op (ok_lss (ht rfl) (ht rfl)) rfl ?_
      refine RG.nil ?_
      refine AT.next ?_
      refine CG.condF (ht rfl) (dropF hx) ?_
      refine CG.exit ?_
      refine AT.then_exit (AT.then_exit (AT.in_exit ?_))
      refine AT.next ?_
      refine CG.seq ?_
      refine CG.region ?_
      refine RG.op (ok_assign hB) rfl ?_
      refine RG.nil ?_
      refine AT.next ?_
      refine CG.ret ?_
      cases so h
      exact AT.ret1 rfl rfl
    · obtain ⟨hx, h⟩ := h
      refine LG.unfold ?_
      refine CG.seq ?_
      refine CG.seq ?_
      refine CG.region ?_
      refine RG.op (ok_move (ht rfl)) rfl ?_
      refine RG.op (ok_move (ht rfl)) rfl ?_
      refine RG.op (ok_lenSl Tryz.underlying54 (ht rfl)) rfl ?_
      refine RG.op (ok_lss (ht rfl) (ht rfl)) rfl ?_
      refine RG.nil ?_
      refine AT.next ?_
      refine CG.condT (ht rfl) (dropT hx) ?_
      refine CG.skip ?_
      refine AT.next ?_
      refine CG.seq ?_
      refine CG.block ?_
      refine CG.seq ?_
      refine CG.seq ?_
      refine CG.region ?_
      refine RG.op (ok_move (ht rfl)) rfl ?_
      refine RG.op (ok_move (ht rfl)) rfl ?_
      refine RG.op (ok_indexAddr Tryz.underlying54 ti45 rfl (ht rfl) (ht rfl) (dropI hx)) rfl ?_
      refine RG.op (ok_load ti45 rfl rfl (ht rfl)) rfl ?_
      refine RG.op (ok_lenSl Tryz.underlying45 (ht rfl)) rfl ?_
      refine RG.op (ok_move (ht rfl)) rfl ?_
      refine RG.op (ok_lenSl Tryz.underlying28 (ht rfl)) rfl ?_
      refine RG.op (ok_neqI (ht rfl) (ht rfl)) rfl ?_
      refine RG.nil ?_
      refine AT.next ?_
      refine CG.cond (ht rfl) (fun hc => ?_) (fun hc => ?_)
      · have h := ct h hc
        refine CG.seq ?_
        refine CG.region ?_
        refine RG.op (ok_assign hB) rfl ?_
        refine RG.nil ?_
        refine AT.next ?_
        refine CG.ret ?_
        refine AT.then_ret (AT.in_ret (AT.then_ret (AT.then_ret (AT.in_ret (AT.then_ret ?_)))))
        cases so h
        exact AT.ret1 rfl rfl
      · have h := cf h hc
        refine CG.skip ?_
        refine AT.next ?_
        refine CG.seq ?_
        refine CG.region ?_
        refine RG.op (ok_assign hI) rfl ?_
        refine RG.nil ?_
        refine AT.next ?_
        refine CG.block ?_
        refine CG.have_len (k := 1) rfl (fun hN1 => ?_)
        refine CG.loop ?_
        refine LG.sub (LG.list1 (Z := fun ls1 i1  => (kinds.drop i1 = ls1) ∧ ref15_rows_l2 (ref15_rows_l1 kinds tl) e ls1 i1  = some R) (Of := fun _ i1  => []) (Gf := fun _ i1  => [(0, tD (rSl (rSl rpDValue)) l), (1, tD (rSl (rI .i64)) kinds), (5, tD (rI .i64) (i : Int)), (6, tD (rI .i64) (i1 : Int))]) (fun i1  h => ?_) (fun e1 tl1 ih1 i1  h => ?_) kinds 0  ⟨rfl, h⟩) ⟨rfl, rfl, rfl, rfl, trivial⟩
        · obtain ⟨hx1, h⟩ := h
          refine LG.unfold ?_
          refine CG.seq ?_
          refine CG.seq ?_
          refine CG.region ?_
          refine RG.op (ok_move (ht rfl)) rfl ?_
          refine RG.op (ok_move (ht rfl)) rfl ?_
          refine RG.op (ok_lenSl Tryz.underlying28 (ht rfl)) rfl ?_
          refine RG.op (ok_lss (ht rfl) (ht rfl)) rfl ?_
          refine RG.nil ?_
          refine AT.next ?_
          refine CG.condF (ht rfl) (dropF hx1) ?_
          refine CG.exit ?_
          refine AT.then_exit (AT.then_exit (AT.in_exit ?_))
          refine AT.in_normal ?_
          refine AT.next ?_
          refine CG.region ?_
          refine RG.op (ok_move (ht rfl)) rfl ?_
          refine RG.op (ok_incN (dropL hx hN) (ht rfl) hI) rfl ?_
          refine RG.op (ok_assign (ht rfl)) rfl ?_
          refine RG.nil ?_
          exact AT.round (LG.sub (ih (i + 1)  ⟨dropS hx, h⟩) ⟨rfl, rfl, rfl, trivial⟩)
        · obtain ⟨hx1, h⟩ := h
          refine LG.unfold ?_
          refine CG.seq ?_
          refine CG.seq ?_
          refine CG.region ?_
          refine RG.op (ok_move (ht rfl)) rfl ?_
          refine RG.op (ok_move (ht rfl)) rfl ?_
          refine RG.op (ok_lenSl Tryz.underlying28 (ht rfl)) rfl ?_
          refine RG.op (ok_lss (ht rfl) (ht rfl)) rfl ?_
          refine RG.nil ?_
          refine AT.next ?_
          refine CG.condT (ht rfl) (dropT hx1) ?_
          refine CG.skip ?_
          refine AT.next ?_
          refine CG.seq ?_
          refine CG.block ?_
          refine CG.seq ?_
          refine CG.region ?_
          refine RG.op (ok_move (ht rfl)) rfl ?_
          refine RG.op (ok_move (ht rfl)) rfl ?_
          refine RG.op (ok_indexAddr Tryz.underlying54 ti45 rfl (ht rfl) (ht rfl) (dropI hx)) rfl ?_
          refine RG.op (ok_load ti45 rfl rfl (ht rfl)) rfl ?_
          refine RG.op (ok_move (ht rfl)) rfl ?_
          obtain ⟨e2, q_e2, h⟩ := bs h
          refine RG.op (ok_indexAddr Tryz.underlying45 ti89 rfl (ht rfl) (ht rfl) q_e2) rfl ?_
          refine RG.op (ok_load ti89 rfl rfl (ht rfl)) rfl ?_
          refine RG.alloc (r := rpDValue) (x := (⟨(0 : Int), (0 : Int), (0 : Int), []⟩ : DValue)) ti89 (fun _ => zrDValue _) rfl (fun b => ?_)
          refine RG.storeB ti89 rfl sfld_whole rfl (ht rfl) (ht rfl) ?_
          refine RG.settleB 7 rfl ?_
          refine RG.nil ?_
          refine AT.next ?_
          refine CG.seq ?_
          obtain ⟨r, q_r, h⟩ := bs h
          refine CG.draw (ts := [tD rpDValue e2, tD rB r, tD rB (!r), tD rB (!r), tOpt (!(!r)) (tPtr (rI .i64) e2.Kind), tOpt (!(!r)) (tD (rI .i64) e2.Kind), tOpt (!(!r)) (tD rB (e2.Kind != (0 : Int))), tOpt (!(!r)) (tD rB (e2.Kind != (0 : Int))), tOpt ((!(!r)) && (e2.Kind != (0 : Int))) (tPtr (rI .i64) e2.Kind), tOpt ((!(!r)) && (e2.Kind != (0 : Int))) (tD (rI .i64) e2.Kind), tOpt ((!(!r)) && (e2.Kind != (0 : Int))) (tD (rSl (rI .i64)) kinds), tOpt ((!(!r)) && (e2.Kind != (0 : Int))) (tD (rI .i64) (i1 : Int)), tOpt ((!(!r)) && (e2.Kind != (0 : Int))) (tPtr (rI .i64) e1), tOpt ((!(!r)) && (e2.Kind != (0 : Int))) (tD (rI .i64) e1), tOpt ((!(!r)) && (e2.Kind != (0 : Int))) (tD rB (e2.Kind != e1)), tOpt (!(!r)) (tD rB ((e2.Kind != (0 : Int)) && (e2.Kind != e1))), tD rB ((!r) || ((e2.Kind != (0 : Int)) && (e2.Kind != e1)))]) mixed rfl rfl
            ⟨⟨[⟨7, _, none⟩], _, rfl, ⟨rfl, trivial⟩, rfl, rfl, OpG.plain rfl (ok_load ti89 rfl rfl (ht rfl))⟩,
            ⟨⟨[⟨38, _, some 0⟩], _, rfl, ⟨rfl, trivial⟩, rfl, rfl, OpG.plain rfl (ok_call cb74 (f74_ok _ q_r) ⟨(ht rfl), trivial⟩)⟩,
            ⟨⟨[⟨39, _, some 1⟩], _, rfl, ⟨rfl, trivial⟩, rfl, rfl, OpG.plain rfl (ok_not (ht rfl))⟩,
            ⟨⟨[⟨40, _, some 2⟩], _, rfl, ⟨rfl, trivial⟩, rfl, rfl, OpG.plain rfl (ok_move (ht rfl))⟩,
            ⟨⟨[⟨7, _, none⟩, ⟨41, _, some 3⟩], _, rfl, ⟨rfl, rfl, trivial⟩, rfl, rfl, OpG.gf rfl rfl rfl rfl (fun hg => ok_fieldAddr fd89_0 rfl flDValue_0 rfl (ht rfl))⟩,
            ⟨⟨[⟨42, _, some 4⟩, ⟨41, _, some 3⟩], _, rfl, ⟨rfl, rfl, trivial⟩, rfl, rfl, OpG.gf rfl rfl rfl rfl (fun hg => ok_load ti3 rfl rfl (htO rfl hg))⟩,
            ⟨⟨[⟨43, _, some 5⟩, ⟨41, _, some 3⟩], _, rfl, ⟨rfl, rfl, trivial⟩, rfl, rfl, OpG.gf rfl rfl rfl rfl (fun hg => ok_neqI (htO rfl hg) hI)⟩,
            ⟨⟨[⟨44, _, some 6⟩, ⟨41, _, some 3⟩], _, rfl, ⟨rfl, rfl, trivial⟩, rfl, rfl, OpG.gf rfl rfl rfl rfl (fun hg => ok_move (htO rfl hg))⟩,
            ⟨⟨[⟨7, _, none⟩, ⟨45, _, some 7⟩], _, rfl, ⟨rfl, rfl, trivial⟩, rfl, rfl, OpG.got rfl rfl rfl rfl (fun hg => ok_fieldAddr fd89_0 rfl flDValue_0 rfl (ht rfl))⟩,
            ⟨⟨[⟨46, _, some 8⟩, ⟨45, _, some 7⟩], _, rfl, ⟨rfl, rfl, trivial⟩, rfl, rfl, OpG.got rfl rfl rfl rfl (fun hg => ok_load ti3 rfl rfl (htO rfl hg))⟩,
            ⟨⟨[⟨1, _, none⟩, ⟨45, _, some 7⟩], _, rfl, ⟨rfl, rfl, trivial⟩, rfl, rfl, OpG.got rfl rfl rfl rfl (fun hg => ok_move (ht rfl))⟩,
            ⟨⟨[⟨6, _, none⟩, ⟨45, _, some 7⟩], _, rfl, ⟨rfl, rfl, trivial⟩, rfl, rfl, OpG.got rfl rfl rfl rfl (fun hg => ok_move (ht rfl))⟩,
            ⟨⟨[⟨48, _, some 10⟩, ⟨49, _, some 11⟩, ⟨45, _, some 7⟩], _, rfl, ⟨rfl, rfl, rfl, trivial⟩, rfl, rfl, OpG.got rfl rfl rfl rfl (fun hg => ok_indexAddr Tryz.underlying28 ti3 rfl (htO rfl hg) (htO rfl hg) (dropI hx1))⟩,
            ⟨⟨[⟨50, _, some 12⟩, ⟨45, _, some 7⟩], _, rfl, ⟨rfl, rfl, trivial⟩, rfl, rfl, OpG.got rfl rfl rfl rfl (fun hg => ok_load ti3 rfl rfl (htO rfl hg))⟩,
            ⟨⟨[⟨47, _, some 9⟩, ⟨51, _, some 13⟩, ⟨45, _, some 7⟩], _, rfl, ⟨rfl, rfl, rfl, trivial⟩, rfl, rfl, OpG.got rfl rfl rfl rfl (fun hg => ok_neqI (htO rfl hg) (htO rfl hg))⟩,
            ⟨⟨[⟨45, _, some 7⟩, ⟨52, _, some 14⟩, ⟨41, _, some 3⟩], _, rfl, ⟨rfl, rfl, rfl, trivial⟩, rfl, rfl, OpG.gf rfl rfl rfl rfl (fun hg => ok_pickAnd (htO rfl hg) (fun hb => (htO rfl (andi hg hb))))⟩,
            ⟨⟨[⟨41, _, some 3⟩, ⟨53, _, some 15⟩], _, rfl, ⟨rfl, rfl, trivial⟩, rfl, rfl, OpG.plain rfl (ok_pickOr (ht rfl) (fun hb => (htO rfl (noti hb))))⟩,
            trivial⟩⟩⟩⟩⟩⟩⟩⟩⟩⟩⟩⟩⟩⟩⟩⟩⟩ ?_
          refine AT.next ?_
          refine CG.cond (ht rfl) (fun hc => ?_) (fun hc => ?_)
          · have h := ct h hc
            refine CG.seq ?_
            refine CG.region ?_
            refine RG.op (ok_assign hB) rfl ?_
            refine RG.nil ?_
            refine AT.next ?_
            refine CG.ret ?_
            refine AT.in_ret (AT.then_ret (AT.then_ret (AT.in_ret (AT.in_ret (AT.then_ret (AT.then_ret (AT.in_ret (AT.then_ret ?_))))))))
            cases so h
            exact AT.ret1 rfl rfl
          · have h := cf h hc
            refine CG.skip ?_
            refine AT.in_normal ?_
            refine AT.next ?_
            refine CG.region ?_
            refine RG.op (ok_move (ht rfl)) rfl ?_
            refine RG.op (ok_incN (dropL hx1 hN1) (ht rfl) hI) rfl ?_
            refine RG.op (ok_assign (ht rfl)) rfl ?_
            refine RG.nil ?_
            exact AT.round (LG.sub (ih1 (i1 + 1)  ⟨dropS hx1, h⟩) ⟨rfl, rfl, rfl, rfl, trivial⟩)

set_option maxRecDepth 100000 in
theorem f14_ok (c : DCatalog) (b : DBase) {R : Bool} (h : ref15_RightBase c b = some R) : Spec Tryz.prog 14 [tD rpDCatalog c, tD rpDBase b] (tD rB R) := by
  refine Spec.of Tryz.func14 rfl rfl rfl fun w0 S0 => ?_
  refine CG.seq ?_
  refine CG.region ?_
  refine RG.op (ok_box (ht rfl)) rfl ?_
  refine RG.op (ok_box (ht rfl)) rfl ?_
  refine RG.op (ok_assign hB) rfl ?_
  refine RG.nil ?_
  refine AT.next ?_
  refine CG.seq ?_
  refine CG.seq ?_
  refine CG.region ?_
  refine RG.op (ok_load ti24 rfl rfl (ht rfl)) rfl ?_
  obtain ⟨r, q_r, h⟩ := bs h
  refine RG.op (ok_call cb13 (f13_ok _ q_r) ⟨(ht rfl), trivial⟩) rfl ?_
  refine RG.op (ok_not (ht rfl)) rfl ?_
  refine RG.op (ok_move (ht rfl)) rfl ?_
  refine RG.opGf rfl rfl rfl rfl (fun hg => ok_fieldAddr fd27_0 rfl flDBase_0 rfl (ht rfl)) ?_
  refine RG.opGf rfl rfl rfl rfl (fun hg => ok_load ti25 rfl rfl (htO rfl hg)) ?_
  refine RG.opGf rfl rfl rfl rfl (fun hg => ok_lenSl Tryz.underlying25 (htO rfl hg)) ?_
  refine RG.opGf rfl rfl rfl rfl (fun hg => ok_fieldAddr fd24_0 rfl flDCatalog_0 rfl (ht rfl)) ?_
  refine RG.opGf rfl rfl rfl rfl (fun hg => ok_load ti22 rfl rfl (htO rfl hg)) ?_
  refine RG.opGf rfl rfl rfl rfl (fun hg => ok_lenSl Tryz.underlying22 (htO rfl hg)) ?_
  refine RG.opGf rfl rfl rfl rfl (fun hg => ok_neqI (htO rfl hg) (htO rfl hg)) ?_
  refine RG.op (ok_pickOr (ht rfl) (fun hb => (htO rfl (noti hb)))) rfl ?_
  refine RG.nil ?_
  refine AT.next ?_
  refine CG.cond (ht rfl) (fun hc => ?_) (fun hc => ?_)
  · have h := ct h hc
    refine CG.seq ?_
    refine CG.region ?_
    refine RG.op (ok_assign hB) rfl ?_
    refine RG.nil ?_
    refine AT.next ?_
    refine CG.ret ?_
    refine AT.then_ret ?_
    cases so h
    exact AT.ret1 rfl rfl
  · have h := cf h hc
    refine CG.skip ?_
    refine AT.next ?_
    refine CG.seq ?_
    refine CG.seq ?_
    refine CG.region ?_
    refine RG.op (ok_assign hI) rfl ?_
    refine RG.nil ?_
    refine AT.next ?_
    refine CG.block ?_
    refine CG.loop ?_
    refine LG.sub (LG.ind1 (Z := fun n i => ref15_RightBase_l1 c b n i = some R) (Of := fun i => []) (Gf := fun i => [(2, tPtr rpDCatalog c), (3, tPtr rpDBase b), (5, tD (rI .i64) i)]) (fun i h => nn h) (fun n ih i h => ?_) FUEL (0 : Int) h) ⟨rfl, rfl, rfl, trivial⟩
    refine LG.unfold ?_
    refine CG.seq ?_
    refine CG.seq ?_
    refine CG.region ?_
    refine RG.op (ok_move (ht rfl)) rfl ?_
    refine RG.op (ok_fieldAddr fd24_0 rfl flDCatalog_0 rfl (ht rfl)) rfl ?_
    refine RG.op (ok_load ti22 rfl rfl (ht rfl)) rfl ?_
    refine RG.op (ok_lenSl Tryz.underlying22 (ht rfl)) rfl ?_
    refine RG.op (ok_lss (ht rfl) (ht rfl)) rfl ?_
    refine RG.nil ?_
    refine AT.next ?_
    refine CG.cond (ht rfl) (fun hc => ?_) (fun hc => ?_)
    · have h := ct h hc
      refine CG.skip ?_
      refine AT.next ?_
      refine CG.seq ?_
      refine CG.block ?_
      refine CG.seq ?_
      refine CG.region ?_
      refine RG.fresh false (rI .i64) 3 ?_
      refine RG.op (ok_assign hVn) rfl ?_
      refine RG.nil ?_
      refine AT.next ?_
      refine CG.seq ?_
      refine CG.seq ?_
      refine CG.region ?_
      refine RG.op (ok_assign hI) rfl ?_
      refine RG.nil ?_
      refine AT.next ?_
      refine CG.block ?_
      refine CG.loop ?_
      refine LG.sub (LG.ind4 (Z := fun n1 kinds l c1 k => ref15_RightBase_l2 c b (ref15_RightBase_l1 c b n) i n1 kinds k = some R) (Of := fun kinds l c1 k => [arr (rI .i64) 3 l c1 kinds]) (Gf := fun kinds l c1 k => [(2, tPtr rpDCatalog c), (3, tPtr rpDBase b), (5, tD (rI .i64) i), (6, tV (oslV l c1 kinds.length)), (7, tD (rI .i64) k)]) (fun kinds l c1 k h => nn h) (fun n1 ih1 kinds l c1 k h => ?_) FUEL ([] : List Int) none 0 (0 : Int) h) ⟨rfl, rfl, rfl, rfl, rfl, trivial⟩
      refine LG.unfold ?_
      refine CG.seq ?_
      refine CG.seq ?_
      refine CG.region ?_
      refine RG.op (ok_move (ht rfl)) rfl ?_
      refine RG.op (ok_fieldAddr fd24_0 rfl flDCatalog_0 rfl (ht rfl)) rfl ?_
      refine RG.op (ok_load ti22 rfl rfl (ht rfl)) rfl ?_
      refine RG.op (ok_move (ht rfl)) rfl ?_
      obtain ⟨e, q_e, h⟩ := bs h
      refine RG.op (ok_indexAddr Tryz.underlying22 ti53 rfl (ht rfl) (ht rfl) q_e) rfl ?_
      refine RG.op (ok_fieldAddr fd53_1 rfl flDTable_1 rfl (ht rfl)) rfl ?_
      refine RG.op (ok_load ti51 rfl rfl (ht rfl)) rfl ?_
      refine RG.op (ok_lenSl Tryz.underlying51 (ht rfl)) rfl ?_
      refine RG.op (ok_lss (ht rfl) (ht rfl)) rfl ?_
      refine RG.nil ?_
      refine AT.next ?_
      refine CG.cond (ht rfl) (fun hc => ?_) (fun hc => ?_)
      · have h := ct h hc
        refine CG.skip ?_
        refine AT.next ?_
        refine CG.seq ?_
        refine CG.block ?_
        refine CG.region ?_
        refine RG.op (ok_move (ht rfl)) rfl ?_
        refine RG.op (ok_fieldAddr fd24_0 rfl flDCatalog_0 rfl (ht rfl)) rfl ?_
        refine RG.op (ok_load ti22 rfl rfl (ht rfl)) rfl ?_
        refine RG.op (ok_move (ht rfl)) rfl ?_
        refine RG.op (ok_indexAddr Tryz.underlying22 ti53 rfl (ht rfl) (ht rfl) q_e) rfl ?_
        refine RG.op (ok_fieldAddr fd53_1 rfl flDTable_1 rfl (ht rfl)) rfl ?_
        refine RG.op (ok_load ti51 rfl rfl (ht rfl)) rfl ?_
        refine RG.op (ok_move (ht rfl)) rfl ?_
        obtain ⟨e1, q_e1, h⟩ := bs h
        refine RG.op (ok_indexAddr Tryz.underlying51 ti79 rfl (ht rfl) (ht rfl) q_e1) rfl ?_
        refine RG.op (ok_fieldAddr fd79_1 rfl flDColumn_1 rfl (ht rfl)) rfl ?_
        refine RG.op (ok_load ti3 rfl rfl (ht rfl)) rfl ?_
        refine RG.op (ok_buildSlice (r := (rI .i64)) (ys := [e1.Kind]) (xs := [.tmp 48]) Tryz.underlying28 ti3 rfl rfl rfl rfl rfl ⟨(ht rfl), trivial⟩) rfl ?_
        obtain ⟨kinds1, q_kinds1, h⟩ := bs h
        refine RG.append ti3 rfl rfl rfl rfl Tryz.underlying28 rfl rfl (ht rfl) (ht rfl) q_kinds1 (fun l1 c2 => ?_)
        refine RG.op (ok_assign (ht rfl)) rfl ?_
        refine RG.nil ?_
        refine AT.in_normal ?_
        refine AT.next ?_
        refine CG.region ?_
        refine RG.op (ok_move (ht rfl)) rfl ?_
        refine RG.op (ok_add (ht rfl) hI) rfl ?_
        refine RG.op (ok_assign (ht rfl)) rfl ?_
        refine RG.nil ?_
        exact AT.round (LG.sub (ih1 kinds1 l1 c2 (IntKind.i64.wrap (k + (1 : Int))) h) ⟨rfl, rfl, rfl, rfl, rfl, trivial⟩)
      · have h := cf h hc
        refine CG.exit ?_
        refine AT.then_exit (AT.then_exit (AT.in_exit ?_))
        refine AT.next ?_
        refine CG.seq ?_
        refine CG.region ?_
        refine RG.op (ok_fieldAddr fd27_0 rfl flDBase_0 rfl (ht rfl)) rfl ?_
        refine RG.op (ok_load ti25 rfl rfl (ht rfl)) rfl ?_
        refine RG.op (ok_move (ht rfl)) rfl ?_
        obtain ⟨e2, q_e2, h⟩ := bs h
        refine RG.op (ok_indexAddr Tryz.underlying25 ti54 rfl (ht rfl) (ht rfl) q_e2) rfl ?_
        refine RG.op (ok_load ti54 rfl rfl (ht rfl)) rfl ?_
        refine RG.op (ok_move (ht rfl)) rfl ?_
        refine RG.freeze ?_
        refine RG.tipAt 6 rfl ?_
        refine RG.tipAt 56 rfl ?_
        obtain ⟨r1, q_r1, h⟩ := bs h
        refine RG.op (ok_call cb46 (f46_ok _ _ q_r1) ⟨(ht rfl), (tO_d (ht rfl)), trivial⟩) rfl ?_
        refine RG.op (ok_not (ht rfl)) rfl ?_
        refine RG.nil ?_
        refine AT.next ?_
        refine CG.cond (ht rfl) (fun hc => ?_) (fun hc => ?_)
        · have h := ct h hc
          refine CG.seq ?_
          refine CG.region ?_
          refine RG.op (ok_assign hB) rfl ?_
          refine RG.nil ?_
          refine AT.next ?_
          refine CG.ret ?_
          refine AT.in_ret (AT.then_ret (AT.then_ret (AT.in_ret (AT.then_ret ?_))))
          refine AT.drop ?_
          cases so h
          exact AT.ret1 rfl rfl
        · have h := cf h hc
          refine CG.skip ?_
          refine AT.in_normal ?_
          refine AT.next ?_
          refine CG.region ?_
          refine RG.op (ok_move (ht rfl)) rfl ?_
          refine RG.op (ok_add (ht rfl) hI) rfl ?_
          refine RG.op (ok_assign (ht rfl)) rfl ?_
          refine RG.nil ?_
          refine AT.drop ?_
          exact AT.round (LG.sub (ih (IntKind.i64.wrap (i + (1 : Int))) h) ⟨rfl, rfl, rfl, trivial⟩)
    · have h := cf h hc
      refine CG.exit ?_
      refine AT.then_exit (AT.then_exit (AT.in_exit ?_))
      refine AT.next ?_
      refine CG.seq ?_
      refine CG.region ?_
      refine RG.op (ok_assign hB) rfl ?_
      refine RG.nil ?_
      refine AT.next ?_
      refine CG.ret ?_
      cases so h
      exact AT.ret1 rfl rfl

set_option maxRecDepth 100000 in
theorem f81_ok (less : Bool) {R : Int} (h : ref05_sign less = some R) : Spec Tryz.prog 81 [tD rB less] (tD (rI .i64) R) := by
  refine Spec.of Tryz.func81 rfl rfl rfl fun w0 S0 => ?_
  refine CG.seq ?_
  refine CG.region ?_
  refine RG.op (ok_assign hI) rfl ?_
  refine RG.nil ?_
  refine AT.next ?_
  refine CG.seq ?_
  refine CG.seq ?_
  refine CG.region ?_
  refine RG.op (ok_move (ht rfl)) rfl ?_
  refine RG.nil ?_
  refine AT.next ?_
  refine CG.cond (ht rfl) (fun hc => ?_) (fun hc => ?_)
  · have h := ct h hc
    refine CG.seq ?_
    refine CG.region ?_
    refine RG.op (ok_assign hI) rfl ?_
    refine RG.nil ?_
    refine AT.next ?_
    refine CG.ret ?_
    refine AT.then_ret ?_
    cases so h
    exact AT.ret1 rfl rfl
  · have h := cf h hc
    refine CG.skip ?_
    refine AT.next ?_
    refine CG.seq ?_
    refine CG.region ?_
    refine RG.op (ok_assign hI) rfl ?_
    refine RG.nil ?_
    refine AT.next ?_
    refine CG.ret ?_
    cases so h
    exact AT.ret1 rfl rfl

set_option maxRecDepth 100000 in
theorem f80_ok (a1 : DValue) (b : DValue) {R : Int} (h : ref05_Value a1 b = some R) : Spec Tryz.prog 80 [tD rpDValue a1, tD rpDValue b] (tD (rI .i64) R) := by
  refine Spec.of Tryz.func80 rfl rfl rfl fun w0 S0 => ?_
  refine CG.seq ?_
  refine CG.region ?_
  refine RG.op (ok_box (ht rfl)) rfl ?_
  refine RG.op (ok_box (ht rfl)) rfl ?_
  refine RG.op (ok_assign hI) rfl ?_
  refine RG.nil ?_
  refine AT.next ?_
  refine CG.seq ?_
  refine CG.seq ?_
  refine CG.region ?_
  refine RG.op (ok_fieldAddr fd89_0 rfl flDValue_0 rfl (ht rfl)) rfl ?_
  refine RG.op (ok_load ti3 rfl rfl (ht rfl)) rfl ?_
  refine RG.op (ok_fieldAddr fd89_0 rfl flDValue_0 rfl (ht rfl)) rfl ?_
  refine RG.op (ok_load ti3 rfl rfl (ht rfl)) rfl ?_
  refine RG.op (ok_neqI (ht rfl) (ht rfl)) rfl ?_
  refine RG.nil ?_
  refine AT.next ?_
  refine CG.cond (ht rfl) (fun hc => ?_) (fun hc => ?_)
  · have h := ct h hc
    refine CG.seq ?_
    refine CG.region ?_
    refine RG.op (ok_fieldAddr fd89_0 rfl flDValue_0 rfl (ht rfl)) rfl ?_
    refine RG.op (ok_load ti3 rfl rfl (ht rfl)) rfl ?_
    refine RG.op (ok_fieldAddr fd89_0 rfl flDValue_0 rfl (ht rfl)) rfl ?_
    refine RG.op (ok_load ti3 rfl rfl (ht rfl)) rfl ?_
    refine RG.op (ok_lss (ht rfl) (ht rfl)) rfl ?_
    obtain ⟨r, q_r, h⟩ := bs h
    refine RG.op (ok_call cb81 (f81_ok _ q_r) ⟨(ht rfl), trivial⟩) rfl ?_
    refine RG.op (ok_assign (ht rfl)) rfl ?_
    refine RG.nil ?_
    refine AT.next ?_
    refine CG.ret ?_
    refine AT.then_ret ?_
    cases so h
    exact AT.ret1 rfl rfl
  · have h := cf h hc
    refine CG.skip ?_
    refine AT.next ?_
    refine CG.seq ?_
    refine CG.seq ?_
    refine CG.region ?_
    refine RG.op (ok_fieldAddr fd89_1 rfl flDValue_1 rfl (ht rfl)) rfl ?_
    refine RG.op (ok_load ti2 rfl rfl (ht rfl)) rfl ?_
    refine RG.op (ok_fieldAddr fd89_1 rfl flDValue_1 rfl (ht rfl)) rfl ?_
    refine RG.op (ok_load ti2 rfl rfl (ht rfl)) rfl ?_
    refine RG.op (ok_neqI (ht rfl) (ht rfl)) rfl ?_
    refine RG.nil ?_
    refine AT.next ?_
    refine CG.cond (ht rfl) (fun hc => ?_) (fun hc => ?_)
    · have h := ct h hc
      refine CG.seq ?_
      refine CG.region ?_
      refine RG.op (ok_fieldAddr fd89_1 rfl flDValue_1 rfl (ht rfl)) rfl ?_
      refine RG.op (ok_load ti2 rfl rfl (ht rfl)) rfl ?_
      refine RG.op (ok_fieldAddr fd89_1 rfl flDValue_1 rfl (ht rfl)) rfl ?_
      refine RG.op (ok_load ti2 rfl rfl (ht rfl)) rfl ?_
      refine RG.op (ok_lss (ht rfl) (ht rfl)) rfl ?_
      obtain ⟨r1, q_r1, h⟩ := bs h
      refine RG.op (ok_call cb81 (f81_ok _ q_r1) ⟨(ht rfl), trivial⟩) rfl ?_
      refine RG.op (ok_assign (ht rfl)) rfl ?_
      refine RG.nil ?_
      refine AT.next ?_
      refine CG.ret ?_
      refine AT.then_ret ?_
      cases so h
      exact AT.ret1 rfl rfl
    · have h := cf h hc
      refine CG.skip ?_
      refine AT.next ?_
      refine CG.seq ?_
      refine CG.seq ?_
      refine CG.region ?_
      refine RG.op (ok_fieldAddr fd89_2 rfl flDValue_2 rfl (ht rfl)) rfl ?_
      refine RG.op (ok_load ti87 rfl rfl (ht rfl)) rfl ?_
      refine RG.op (ok_fieldAddr fd89_2 rfl flDValue_2 rfl (ht rfl)) rfl ?_
      refine RG.op (ok_load ti87 rfl rfl (ht rfl)) rfl ?_
      refine RG.op (ok_neqI (ht rfl) (ht rfl)) rfl ?_
      refine RG.nil ?_
      refine AT.next ?_
      refine CG.cond (ht rfl) (fun hc => ?_) (fun hc => ?_)
      · have h := ct h hc
        refine CG.seq ?_
        refine CG.region ?_
        refine RG.op (ok_fieldAddr fd89_2 rfl flDValue_2 rfl (ht rfl)) rfl ?_
        refine RG.op (ok_load ti87 rfl rfl (ht rfl)) rfl ?_
        refine RG.op (ok_fieldAddr fd89_2 rfl flDValue_2 rfl (ht rfl)) rfl ?_
        refine RG.op (ok_load ti87 rfl rfl (ht rfl)) rfl ?_
        refine RG.op (ok_lss (ht rfl) (ht rfl)) rfl ?_
        obtain ⟨r2, q_r2, h⟩ := bs h
        refine RG.op (ok_call cb81 (f81_ok _ q_r2) ⟨(ht rfl), trivial⟩) rfl ?_
        refine RG.op (ok_assign (ht rfl)) rfl ?_
        refine RG.nil ?_
        refine AT.next ?_
        refine CG.ret ?_
        refine AT.then_ret ?_
        cases so h
        exact AT.ret1 rfl rfl
      · have h := cf h hc
        refine CG.skip ?_
        refine AT.next ?_
        refine CG.seq ?_
        refine CG.seq ?_
        refine CG.region ?_
        refine RG.op (ok_fieldAddr fd89_3 rfl flDValue_3 rfl (ht rfl)) rfl ?_
        refine RG.op (ok_load ti9 rfl rfl (ht rfl)) rfl ?_
        refine RG.op (ok_fieldAddr fd89_3 rfl flDValue_3 rfl (ht rfl)) rfl ?_
        refine RG.op (ok_load ti9 rfl rfl (ht rfl)) rfl ?_
        refine RG.op (ok_neqS (ht rfl) (ht rfl)) rfl ?_
        refine RG.nil ?_
        refine AT.next ?_
        refine CG.cond (ht rfl) (fun hc => ?_) (fun hc => ?_)
        · have h := ct h hc
          refine CG.seq ?_
          refine CG.region ?_
          refine RG.op (ok_fieldAddr fd89_3 rfl flDValue_3 rfl (ht rfl)) rfl ?_
          refine RG.op (ok_load ti9 rfl rfl (ht rfl)) rfl ?_
          refine RG.op (ok_fieldAddr fd89_3 rfl flDValue_3 rfl (ht rfl)) rfl ?_
          refine RG.op (ok_load ti9 rfl rfl (ht rfl)) rfl ?_
          refine RG.op (ok_lssS (ht rfl) (ht rfl)) rfl ?_
          obtain ⟨r3, q_r3, h⟩ := bs h
          refine RG.op (ok_call cb81 (f81_ok _ q_r3) ⟨(ht rfl), trivial⟩) rfl ?_
          refine RG.op (ok_assign (ht rfl)) rfl ?_
          refine RG.nil ?_
          refine AT.next ?_
          refine CG.ret ?_
          refine AT.then_ret ?_
          cases so h
          exact AT.ret1 rfl rfl
        · have h := cf h hc
          refine CG.skip ?_
          refine AT.next ?_
          refine CG.seq ?_
          refine CG.region ?_
          refine RG.op (ok_assign hI) rfl ?_
          refine RG.nil ?_
          refine AT.next ?_
          refine CG.ret ?_
          cases so h
          exact AT.ret1 rfl rfl

set_option maxRecDepth 100000 in
theorem f54_ok (a1 : (List DValue)) (b : (List DValue)) {R : Int} (h : ref05_Compare a1 b = some R) : Spec Tryz.prog 54 [tD (rSl rpDValue) a1, tD (rSl rpDValue) b] (tD (rI .i64) R) := by
  refine Spec.of Tryz.func54 rfl rfl rfl fun w0 S0 => ?_
  refine CG.seq ?_
  refine CG.region ?_
  refine RG.op (ok_assign hI) rfl ?_
  refine RG.nil ?_
  refine AT.next ?_
  refine CG.seq ?_
  refine CG.seq ?_
  refine CG.region ?_
  refine RG.op (ok_assign hI) rfl ?_
  refine RG.nil ?_
  refine AT.next ?_
  refine CG.block ?_
  refine CG.loop ?_
  refine LG.sub (LG.ind1 (Z := fun n i => ref05_Compare_l1 a1 b n i = some R) (Of := fun i => []) (Gf := fun i => [(0, tD (rSl rpDValue) a1), (1, tD (rSl rpDValue) b), (5, tD (rI .i64) i)]) (fun i h => nn h) (fun n ih i h => ?_) FUEL (0 : Int) h) ⟨rfl, rfl, rfl, trivial⟩
  refine LG.unfold ?_
  refine CG.seq ?_
  refine CG.seq ?_
  refine CG.region ?_
  refine RG.op (ok_move (ht rfl)) rfl ?_
  refine RG.op (ok_move (ht rfl)) rfl ?_
  refine RG.op (ok_lenSl Tryz.underlying45 (ht rfl)) rfl ?_
  refine RG.op (ok_lss (ht rfl) (ht rfl)) rfl ?_
  refine RG.op (ok_move (ht rfl)) rfl ?_
  refine RG.opGt rfl rfl rfl rfl (fun hg => ok_move (ht rfl)) ?_
  refine RG.opGt rfl rfl rfl rfl (fun hg => ok_move (ht rfl)) ?_
  refine RG.opGt rfl rfl rfl rfl (fun hg => ok_lenSl Tryz.underlying45 (htO rfl hg)) ?_
  refine RG.opGt rfl rfl rfl rfl (fun hg => ok_lss (htO rfl hg) (htO rfl hg)) ?_
  refine RG.op (ok_pickAnd (ht rfl) (fun hb => (htO rfl hb))) rfl ?_
  refine RG.nil ?_
  refine AT.next ?_
  refine CG.cond (ht rfl) (fun hc => ?_) (fun hc => ?_)
  · have h := ct h hc
    refine CG.skip ?_
    refine AT.next ?_
    refine CG.seq ?_
    refine CG.block ?_
    refine CG.seq ?_
    obtain ⟨e, q_e, h⟩ := bs h
    obtain ⟨e1, q_e1, h⟩ := bs h
    obtain ⟨r, q_r, h⟩ := bs h
    refine CG.draw (ts := [tD (rSl rpDValue) a1, tD (rI .i64) i, tPtr rpDValue e, tD rpDValue e, tD (rSl rpDValue) b, tD (rI .i64) i, tPtr rpDValue e1, tD rpDValue e1, tD (rI .i64) r, tD (rI .i64) r]) mixed rfl rfl
      ⟨⟨[⟨0, _, none⟩], _, rfl, ⟨rfl, trivial⟩, rfl, rfl, OpG.plain rfl (ok_move (ht rfl))⟩,
      ⟨⟨[⟨5, _, none⟩], _, rfl, ⟨rfl, trivial⟩, rfl, rfl, OpG.plain rfl (ok_move (ht rfl))⟩,
      ⟨⟨[⟨19, _, some 0⟩, ⟨20, _, some 1⟩], _, rfl, ⟨rfl, rfl, trivial⟩, rfl, rfl, OpG.plain rfl (ok_indexAddr Tryz.underlying45 ti89 rfl (ht rfl) (ht rfl) q_e)⟩,
      ⟨⟨[⟨21, _, some 2⟩], _, rfl, ⟨rfl, trivial⟩, rfl, rfl, OpG.plain rfl (ok_load ti89 rfl rfl (ht rfl))⟩,
      ⟨⟨[⟨1, _, none⟩], _, rfl, ⟨rfl, trivial⟩, rfl, rfl, OpG.plain rfl (ok_move (ht rfl))⟩,
      ⟨⟨[⟨5, _, none⟩], _, rfl, ⟨rfl, trivial⟩, rfl, rfl, OpG.plain rfl (ok_move (ht rfl))⟩,
      ⟨⟨[⟨23, _, some 4⟩, ⟨24, _, some 5⟩], _, rfl, ⟨rfl, rfl, trivial⟩, rfl, rfl, OpG.plain rfl (ok_indexAddr Tryz.underlying45 ti89 rfl (ht rfl) (ht rfl) q_e1)⟩,
      ⟨⟨[⟨25, _, some 6⟩], _, rfl, ⟨rfl, trivial⟩, rfl, rfl, OpG.plain rfl (ok_load ti89 rfl rfl (ht rfl))⟩,
      ⟨⟨[⟨22, _, some 3⟩, ⟨26, _, some 7⟩], _, rfl, ⟨rfl, rfl, trivial⟩, rfl, rfl, OpG.plain rfl (ok_call cb80 (f80_ok _ _ q_r) ⟨(ht rfl), (ht rfl), trivial⟩)⟩,
      ⟨⟨[⟨27, _, some 8⟩], _, rfl, ⟨rfl, trivial⟩, rfl, rfl, OpG.plain rfl (ok_assign (ht rfl))⟩,
      trivial⟩⟩⟩⟩⟩⟩⟩⟩⟩⟩ ?_
    refine AT.next ?_
    refine CG.seq ?_
    refine CG.region ?_
    refine RG.op (ok_move (ht rfl)) rfl ?_
    refine RG.op (ok_neqI (ht rfl) hI) rfl ?_
    refine RG.nil ?_
    refine AT.next ?_
    refine CG.cond (ht rfl) (fun hc => ?_) (fun hc => ?_)
    · have h := ct h hc
      refine CG.seq ?_
      refine CG.region ?_
      refine RG.op (ok_move (ht rfl)) rfl ?_
      refine RG.op (ok_assign (ht rfl)) rfl ?_
      refine RG.nil ?_
      refine AT.next ?_
      refine CG.ret ?_
      refine AT.in_ret (AT.then_ret (AT.then_ret (AT.in_ret (AT.then_ret ?_))))
      cases so h
      exact AT.ret1 rfl rfl
    · have h := cf h hc
      refine CG.skip ?_
      refine AT.in_normal ?_
      refine AT.next ?_
      refine CG.region ?_
      refine RG.op (ok_move (ht rfl)) rfl ?_
      refine RG.op (ok_add (ht rfl) hI) rfl ?_
      refine RG.op (ok_assign (ht rfl)) rfl ?_
      refine RG.nil ?_
      exact AT.round (LG.sub (ih (IntKind.i64.wrap (i + (1 : Int))) h) ⟨rfl, rfl, rfl, trivial⟩)
  · have h := cf h hc
    refine CG.exit ?_
    refine AT.then_exit (AT.then_exit (AT.in_exit ?_))
    refine AT.next ?_
    refine CG.seq ?_
    refine CG.seq ?_
    refine CG.region ?_
    refine RG.op (ok_move (ht rfl)) rfl ?_
    refine RG.op (ok_lenSl Tryz.underlying45 (ht rfl)) rfl ?_
    refine RG.op (ok_move (ht rfl)) rfl ?_
    refine RG.op (ok_lenSl Tryz.underlying45 (ht rfl)) rfl ?_
    refine RG.op (ok_eqlI (ht rfl) (ht rfl)) rfl ?_
    refine RG.nil ?_
    refine AT.next ?_
    refine CG.cond (ht rfl) (fun hc => ?_) (fun hc => ?_)
    · have h := ct h hc
      refine CG.seq ?_
      refine CG.region ?_
      refine RG.op (ok_assign hI) rfl ?_
      refine RG.nil ?_
      refine AT.next ?_
      refine CG.ret ?_
      refine AT.then_ret ?_
      cases so h
      exact AT.ret1 rfl rfl
    · have h := cf h hc
      refine CG.skip ?_
      refine AT.next ?_
      refine CG.seq ?_
      refine CG.region ?_
      refine RG.op (ok_move (ht rfl)) rfl ?_
      refine RG.op (ok_lenSl Tryz.underlying45 (ht rfl)) rfl ?_
      refine RG.op (ok_move (ht rfl)) rfl ?_
      refine RG.op (ok_lenSl Tryz.underlying45 (ht rfl)) rfl ?_
      refine RG.op (ok_lss (ht rfl) (ht rfl)) rfl ?_
      obtain ⟨r1, q_r1, h⟩ := bs h
      refine RG.op (ok_call cb81 (f81_ok _ q_r1) ⟨(ht rfl), trivial⟩) rfl ?_
      refine RG.op (ok_assign (ht rfl)) rfl ?_
      refine RG.nil ?_
      refine AT.next ?_
      refine CG.ret ?_
      cases so h
      exact AT.ret1 rfl rfl

set_option maxRecDepth 100000 in
theorem f25_ok (a1 : (List (List DValue))) (b : (List (List DValue))) {R : Bool} (h : ref05_Same a1 b = some R) : Spec Tryz.prog 25 [tD (rSl (rSl rpDValue)) a1, tD (rSl (rSl rpDValue)) b] (tD rB R) := by
  refine Spec.of Tryz.func25 rfl rfl rfl fun w0 S0 => ?_
  refine CG.seq ?_
  refine CG.region ?_
  refine RG.op (ok_assign hB) rfl ?_
  refine RG.nil ?_
  refine AT.next ?_
  refine CG.seq ?_
  refine CG.seq ?_
  refine CG.region ?_
  refine RG.op (ok_move (ht rfl)) rfl ?_
  refine RG.op (ok_lenSl Tryz.underlying54 (ht rfl)) rfl ?_
  refine RG.op (ok_move (ht rfl)) rfl ?_
  refine RG.op (ok_lenSl Tryz.underlying54 (ht rfl)) rfl ?_
  refine RG.op (ok_neqI (ht rfl) (ht rfl)) rfl ?_
  refine RG.nil ?_
  refine AT.next ?_
  refine CG.cond (ht rfl) (fun hc => ?_) (fun hc => ?_)
  · have h := ct h hc
    refine CG.seq ?_
    refine CG.region ?_
    refine RG.op (ok_assign hB) rfl ?_
    refine RG.nil ?_
    refine AT.next ?_
    refine CG.ret ?_
    refine AT.then_ret ?_
    cases so h
    exact AT.ret1 rfl rfl
  · have h := cf h hc
    refine CG.skip ?_
    refine AT.next ?_
    refine CG.seq ?_
    refine CG.seq ?_
    refine CG.region ?_
    refine RG.op (ok_assign hI) rfl ?_
    refine RG.nil ?_
    refine AT.next ?_
    refine CG.block ?_
    refine CG.have_len (k := 0) rfl (fun hN => ?_)
    refine CG.loop ?_
    refine LG.sub (LG.list1 (Z := fun ls i  => (a1.drop i = ls) ∧ ref05_Same_l1 b ls i  = some R) (Of := fun _ i  => []) (Gf := fun _ i  => [(0, tD (rSl (rSl rpDValue)) a1), (1, tD (rSl (rSl rpDValue)) b), (5, tD (rI .i64) (i : Int))]) (fun i  h => ?_) (fun e tl ih i  h => ?_) a1 0  ⟨rfl, h⟩) ⟨rfl, rfl, rfl, trivial⟩
    · obtain ⟨hx, h⟩ := h
      refine LG.unfold ?_
      refine CG.seq ?_
      refine CG.seq ?_
      refine CG.region ?_
      refine RG.op (ok_move (ht rfl)) rfl ?_
      refine RG.op (ok_move (ht rfl)) rfl ?_
      refine RG.op (ok_lenSl Tryz.underlying54 (ht rfl)) rfl ?_
      refine RG.op (ok_lss (ht rfl) (ht rfl)) rfl ?_
      refine RG.nil ?_
      refine AT.next ?_
      refine CG.condF (ht rfl) (dropF hx) ?_
      refine CG.exit ?_
      refine AT.then_exit (AT.then_exit (AT.in_exit ?_))
      refine AT.next ?_
      refine CG.seq ?_
      refine CG.region ?_
      refine RG.op (ok_assign hB) rfl ?_
      refine RG.nil ?_
      refine AT.next ?_
      refine CG.ret ?_
      cases so h
      exact AT.ret1 rfl rfl
    · obtain ⟨hx, h⟩ := h
      refine LG.unfold ?_
      refine CG.seq ?_
      refine CG.seq ?_
      refine CG.region ?_
      refine RG.op (ok_move (ht rfl)) rfl ?_
      refine RG.op (ok_move (ht rfl)) rfl ?_
      refine RG.op (ok_lenSl Tryz.underlying54 (ht rfl)) rfl ?_
      refine RG.op (ok_lss (ht rfl) (ht rfl)) rfl ?_
      refine RG.nil ?_
      refine AT.next ?_
      refine CG.condT (ht rfl) (dropT hx) ?_
      refine CG.skip ?_
      refine AT.next ?_
      refine CG.seq ?_
      refine CG.block ?_
      refine CG.seq ?_
      obtain ⟨e1, q_e1, h⟩ := bs h
      obtain ⟨r, q_r, h⟩ := bs h
      refine CG.draw (ts := [tD (rSl (rSl rpDValue)) a1, tD (rI .i64) (i : Int), tPtr (rSl rpDValue) e, tD (rSl rpDValue) e, tD (rSl (rSl rpDValue)) b, tD (rI .i64) (i : Int), tPtr (rSl rpDValue) e1, tD (rSl rpDValue) e1, tD (rI .i64) r, tD rB (r != (0 : Int))]) mixed rfl rfl
        ⟨⟨[⟨0, _, none⟩], _, rfl, ⟨rfl, trivial⟩, rfl, rfl, OpG.plain rfl (ok_move (ht rfl))⟩,
        ⟨⟨[⟨5, _, none⟩], _, rfl, ⟨rfl, trivial⟩, rfl, rfl, OpG.plain rfl (ok_move (ht rfl))⟩,
        ⟨⟨[⟨17, _, some 0⟩, ⟨18, _, some 1⟩], _, rfl, ⟨rfl, rfl, trivial⟩, rfl, rfl, OpG.plain rfl (ok_indexAddr Tryz.underlying54 ti45 rfl (ht rfl) (ht rfl) (dropI hx))⟩,
        ⟨⟨[⟨19, _, some 2⟩], _, rfl, ⟨rfl, trivial⟩, rfl, rfl, OpG.plain rfl (ok_load ti45 rfl rfl (ht rfl))⟩,
        ⟨⟨[⟨1, _, none⟩], _, rfl, ⟨rfl, trivial⟩, rfl, rfl, OpG.plain rfl (ok_move (ht rfl))⟩,
        ⟨⟨[⟨5, _, none⟩], _, rfl, ⟨rfl, trivial⟩, rfl, rfl, OpG.plain rfl (ok_move (ht rfl))⟩,
        ⟨⟨[⟨21, _, some 4⟩, ⟨22, _, some 5⟩], _, rfl, ⟨rfl, rfl, trivial⟩, rfl, rfl, OpG.plain rfl (ok_indexAddr Tryz.underlying54 ti45 rfl (ht rfl) (ht rfl) q_e1)⟩,
        ⟨⟨[⟨23, _, some 6⟩], _, rfl, ⟨rfl, trivial⟩, rfl, rfl, OpG.plain rfl (ok_load ti45 rfl rfl (ht rfl))⟩,
        ⟨⟨[⟨20, _, some 3⟩, ⟨24, _, some 7⟩], _, rfl, ⟨rfl, rfl, trivial⟩, rfl, rfl, OpG.plain rfl (ok_call cb54 (f54_ok _ _ q_r) ⟨(ht rfl), (ht rfl), trivial⟩)⟩,
        ⟨⟨[⟨25, _, some 8⟩], _, rfl, ⟨rfl, trivial⟩, rfl, rfl, OpG.plain rfl (ok_neqI (ht rfl) hI)⟩,
        trivial⟩⟩⟩⟩⟩⟩⟩⟩⟩⟩ ?_
      refine AT.next ?_
      refine CG.cond (ht rfl) (fun hc => ?_) (fun hc => ?_)
      · have h := ct h hc
        refine CG.seq ?_
        refine CG.region ?_
        refine RG.op (ok_assign hB) rfl ?_
        refine RG.nil ?_
        refine AT.next ?_
        refine CG.ret ?_
        refine AT.in_ret (AT.then_ret (AT.then_ret (AT.in_ret (AT.then_ret ?_))))
        cases so h
        exact AT.ret1 rfl rfl
      · have h := cf h hc
        refine CG.skip ?_
        refine AT.in_normal ?_
        refine AT.next ?_
        refine CG.region ?_
        refine RG.op (ok_move (ht rfl)) rfl ?_
        refine RG.op (ok_incN (dropL hx hN) (ht rfl) hI) rfl ?_
        refine RG.op (ok_assign (ht rfl)) rfl ?_
        refine RG.nil ?_
        exact AT.round (LG.sub (ih (i + 1)  ⟨dropS hx, h⟩) ⟨rfl, rfl, rfl, trivial⟩)

set_option maxRecDepth 100000 in
theorem f35_ok (a1 : DBase) (b : DBase) {R : Bool} (h : ref17_SameBase a1 b = some R) : Spec Tryz.prog 35 [tD rpDBase a1, tD rpDBase b] (tD rB R) := by
  refine Spec.of Tryz.func35 rfl rfl rfl fun w0 S0 => ?_
  refine CG.seq ?_
  refine CG.region ?_
  refine RG.op (ok_box (ht rfl)) rfl ?_
  refine RG.op (ok_box (ht rfl)) rfl ?_
  refine RG.op (ok_assign hB) rfl ?_
  refine RG.nil ?_
  refine AT.next ?_
  refine CG.seq ?_
  refine CG.seq ?_
  refine CG.region ?_
  refine RG.op (ok_fieldAddr fd27_0 rfl flDBase_0 rfl (ht rfl)) rfl ?_
  refine RG.op (ok_load ti25 rfl rfl (ht rfl)) rfl ?_
  refine RG.op (ok_lenSl Tryz.underlying25 (ht rfl)) rfl ?_
  refine RG.op (ok_fieldAddr fd27_0 rfl flDBase_0 rfl (ht rfl)) rfl ?_
  refine RG.op (ok_load ti25 rfl rfl (ht rfl)) rfl ?_
  refine RG.op (ok_lenSl Tryz.underlying25 (ht rfl)) rfl ?_
  refine RG.op (ok_neqI (ht rfl) (ht rfl)) rfl ?_
  refine RG.nil ?_
  refine AT.next ?_
  refine CG.cond (ht rfl) (fun hc => ?_) (fun hc => ?_)
  · have h := ct h hc
    refine CG.seq ?_
    refine CG.region ?_
    refine RG.op (ok_assign hB) rfl ?_
    refine RG.nil ?_
    refine AT.next ?_
    refine CG.ret ?_
    refine AT.then_ret ?_
    cases so h
    exact AT.ret1 rfl rfl
  · have h := cf h hc
    refine CG.skip ?_
    refine AT.next ?_
    refine CG.seq ?_
    refine CG.seq ?_
    refine CG.region ?_
    refine RG.op (ok_assign hI) rfl ?_
    refine RG.nil ?_
    refine AT.next ?_
    refine CG.block ?_
    refine CG.loop ?_
    refine LG.sub (LG.ind1 (Z := fun n i => ref17_SameBase_l1 a1 b n i = some R) (Of := fun i => []) (Gf := fun i => [(2, tPtr rpDBase a1), (3, tPtr rpDBase b), (5, tD (rI .i64) i)]) (fun i h => nn h) (fun n ih i h => ?_) FUEL (0 : Int) h) ⟨rfl, rfl, rfl, trivial⟩
    refine LG.unfold ?_
    refine CG.seq ?_
    refine CG.seq ?_
    refine CG.region ?_
    refine RG.op (ok_move (ht rfl)) rfl ?_
    refine RG.op (ok_fieldAddr fd27_0 rfl flDBase_0 rfl (ht rfl)) rfl ?_
    refine RG.op (ok_load ti25 rfl rfl (ht rfl)) rfl ?_
    refine RG.op (ok_lenSl Tryz.underlying25 (ht rfl)) rfl ?_
    refine RG.op (ok_lss (ht rfl) (ht rfl)) rfl ?_
    refine RG.nil ?_
    refine AT.next ?_
    refine CG.cond (ht rfl) (fun hc => ?_) (fun hc => ?_)
    · have h := ct h hc
      refine CG.skip ?_
      refine AT.next ?_
      refine CG.seq ?_
      refine CG.block ?_
      refine CG.seq ?_
      obtain ⟨e, q_e, h⟩ := bs h
      obtain ⟨e1, q_e1, h⟩ := bs h
      obtain ⟨r, q_r, h⟩ := bs h
      refine CG.draw (ts := [tPtr (rSl (rSl (rSl rpDValue))) a1.Tables, tD (rSl (rSl (rSl rpDValue))) a1.Tables, tD (rI .i64) i, tPtr (rSl (rSl rpDValue)) e, tD (rSl (rSl rpDValue)) e, tPtr (rSl (rSl (rSl rpDValue))) b.Tables, tD (rSl (rSl (rSl rpDValue))) b.Tables, tD (rI .i64) i, tPtr (rSl (rSl rpDValue)) e1, tD (rSl (rSl rpDValue)) e1, tD rB r, tD rB (!r)]) mixed rfl rfl
        ⟨⟨[⟨2, _, none⟩], _, rfl, ⟨rfl, trivial⟩, rfl, rfl, OpG.plain rfl (ok_fieldAddr fd27_0 rfl flDBase_0 rfl (ht rfl))⟩,
        ⟨⟨[⟨20, _, some 0⟩], _, rfl, ⟨rfl, trivial⟩, rfl, rfl, OpG.plain rfl (ok_load ti25 rfl rfl (ht rfl))⟩,
        ⟨⟨[⟨5, _, none⟩], _, rfl, ⟨rfl, trivial⟩, rfl, rfl, OpG.plain rfl (ok_move (ht rfl))⟩,
        ⟨⟨[⟨21, _, some 1⟩, ⟨22, _, some 2⟩], _, rfl, ⟨rfl, rfl, trivial⟩, rfl, rfl, OpG.plain rfl (ok_indexAddr Tryz.underlying25 ti54 rfl (ht rfl) (ht rfl) q_e)⟩,
        ⟨⟨[⟨23, _, some 3⟩], _, rfl, ⟨rfl, trivial⟩, rfl, rfl, OpG.plain rfl (ok_load ti54 rfl rfl (ht rfl))⟩,
        ⟨⟨[⟨3, _, none⟩], _, rfl, ⟨rfl, trivial⟩, rfl, rfl, OpG.plain rfl (ok_fieldAddr fd27_0 rfl flDBase_0 rfl (ht rfl))⟩,
        ⟨⟨[⟨25, _, some 5⟩], _, rfl, ⟨rfl, trivial⟩, rfl, rfl, OpG.plain rfl (ok_load ti25 rfl rfl (ht rfl))⟩,
        ⟨⟨[⟨5, _, none⟩], _, rfl, ⟨rfl, trivial⟩, rfl, rfl, OpG.plain rfl (ok_move (ht rfl))⟩,
        ⟨⟨[⟨26, _, some 6⟩, ⟨27, _, some 7⟩], _, rfl, ⟨rfl, rfl, trivial⟩, rfl, rfl, OpG.plain rfl (ok_indexAddr Tryz.underlying25 ti54 rfl (ht rfl) (ht rfl) q_e1)⟩,
        ⟨⟨[⟨28, _, some 8⟩], _, rfl, ⟨rfl, trivial⟩, rfl, rfl, OpG.plain rfl (ok_load ti54 rfl rfl (ht rfl))⟩,
        ⟨⟨[⟨24, _, some 4⟩, ⟨29, _, some 9⟩], _, rfl, ⟨rfl, rfl, trivial⟩, rfl, rfl, OpG.plain rfl (ok_call cb25 (f25_ok _ _ q_r) ⟨(ht rfl), (ht rfl), trivial⟩)⟩,
        ⟨⟨[⟨30, _, some 10⟩], _, rfl, ⟨rfl, trivial⟩, rfl, rfl, OpG.plain rfl (ok_not (ht rfl))⟩,
        trivial⟩⟩⟩⟩⟩⟩⟩⟩⟩⟩⟩⟩ ?_
      refine AT.next ?_
      refine CG.cond (ht rfl) (fun hc => ?_) (fun hc => ?_)
      · have h := ct h hc
        refine CG.seq ?_
        refine CG.region ?_
        refine RG.op (ok_assign hB) rfl ?_
        refine RG.nil ?_
        refine AT.next ?_
        refine CG.ret ?_
        refine AT.in_ret (AT.then_ret (AT.then_ret (AT.in_ret (AT.then_ret ?_))))
        cases so h
        exact AT.ret1 rfl rfl
      · have h := cf h hc
        refine CG.skip ?_
        refine AT.in_normal ?_
        refine AT.next ?_
        refine CG.region ?_
        refine RG.op (ok_move (ht rfl)) rfl ?_
        refine RG.op (ok_add (ht rfl) hI) rfl ?_
        refine RG.op (ok_assign (ht rfl)) rfl ?_
        refine RG.nil ?_
        exact AT.round (LG.sub (ih (IntKind.i64.wrap (i + (1 : Int))) h) ⟨rfl, rfl, rfl, trivial⟩)
    · have h := cf h hc
      refine CG.exit ?_
      refine AT.then_exit (AT.then_exit (AT.in_exit ?_))
      refine AT.next ?_
      refine CG.seq ?_
      refine CG.region ?_
      refine RG.op (ok_assign hB) rfl ?_
      refine RG.nil ?_
      refine AT.next ?_
      refine CG.ret ?_
      cases so h
      exact AT.ret1 rfl rfl

set_option maxRecDepth 100000 in
theorem f15_ok (a1 : DLayout) (b : DLayout) {R : Bool} (h : ref17_Same a1 b = some R) : Spec Tryz.prog 15 [tD rpDLayout a1, tD rpDLayout b] (tD rB R) := by
  refine Spec.of Tryz.func15 rfl rfl rfl fun w0 S0 => ?_
  refine CG.seq ?_
  refine CG.region ?_
  refine RG.op (ok_box (ht rfl)) rfl ?_
  refine RG.op (ok_box (ht rfl)) rfl ?_
  refine RG.op (ok_assign hB) rfl ?_
  refine RG.nil ?_
  refine AT.next ?_
  refine CG.seq ?_
  refine CG.seq ?_
  refine CG.region ?_
  refine RG.op (ok_fieldAddr fd36_0 rfl flDLayout_0 rfl (ht rfl)) rfl ?_
  refine RG.op (ok_load ti34 rfl rfl (ht rfl)) rfl ?_
  refine RG.op (ok_lenSl Tryz.underlying34 (ht rfl)) rfl ?_
  refine RG.op (ok_fieldAddr fd36_0 rfl flDLayout_0 rfl (ht rfl)) rfl ?_
  refine RG.op (ok_load ti34 rfl rfl (ht rfl)) rfl ?_
  refine RG.op (ok_lenSl Tryz.underlying34 (ht rfl)) rfl ?_
  refine RG.op (ok_neqI (ht rfl) (ht rfl)) rfl ?_
  refine RG.nil ?_
  refine AT.next ?_
  refine CG.cond (ht rfl) (fun hc => ?_) (fun hc => ?_)
  · have h := ct h hc
    refine CG.seq ?_
    refine CG.region ?_
    refine RG.op (ok_assign hB) rfl ?_
    refine RG.nil ?_
    refine AT.next ?_
    refine CG.ret ?_
    refine AT.then_ret ?_
    cases so h
    exact AT.ret1 rfl rfl
  · have h := cf h hc
    refine CG.skip ?_
    refine AT.next ?_
    refine CG.seq ?_
    refine CG.seq ?_
    refine CG.region ?_
    refine RG.op (ok_assign hI) rfl ?_
    refine RG.nil ?_
    refine AT.next ?_
    refine CG.block ?_
    refine CG.loop ?_
    refine LG.sub (LG.ind1 (Z := fun n i => ref17_Same_l1 a1 b n i = some R) (Of := fun i => []) (Gf := fun i => [(2, tPtr rpDLayout a1), (3, tPtr rpDLayout b), (5, tD (rI .i64) i)]) (fun i h => nn h) (fun n ih i h => ?_) FUEL (0 : Int) h) ⟨rfl, rfl, rfl, trivial⟩
    refine LG.unfold ?_
    refine CG.seq ?_
    refine CG.seq ?_
    refine CG.region ?_
    refine RG.op (ok_move (ht rfl)) rfl ?_
    refine RG.op (ok_fieldAddr fd36_0 rfl flDLayout_0 rfl (ht rfl)) rfl ?_
    refine RG.op (ok_load ti34 rfl rfl (ht rfl)) rfl ?_
    refine RG.op (ok_lenSl Tryz.underlying34 (ht rfl)) rfl ?_
    refine RG.op (ok_lss (ht rfl) (ht rfl)) rfl ?_
    refine RG.nil ?_
    refine AT.next ?_
    refine CG.cond (ht rfl) (fun hc => ?_) (fun hc => ?_)
    · have h := ct h hc
      refine CG.skip ?_
      refine AT.next ?_
      refine CG.seq ?_
      refine CG.block ?_
      refine CG.seq ?_
      obtain ⟨e, q_e, h⟩ := bs h
      obtain ⟨e1, q_e1, h⟩ := bs h
      obtain ⟨r, q_r, h⟩ := bs h
      refine CG.draw (ts := [tPtr (rSl rpDBase) a1.Parts, tD (rSl rpDBase) a1.Parts, tD (rI .i64) i, tPtr rpDBase e, tD rpDBase e, tPtr (rSl rpDBase) b.Parts, tD (rSl rpDBase) b.Parts, tD (rI .i64) i, tPtr rpDBase e1, tD rpDBase e1, tD rB r, tD rB (!r)]) mixed rfl rfl
        ⟨⟨[⟨2, _, none⟩], _, rfl, ⟨rfl, trivial⟩, rfl, rfl, OpG.plain rfl (ok_fieldAddr fd36_0 rfl flDLayout_0 rfl (ht rfl))⟩,
        ⟨⟨[⟨20, _, some 0⟩], _, rfl, ⟨rfl, trivial⟩, rfl, rfl, OpG.plain rfl (ok_load ti34 rfl rfl (ht rfl))⟩,
        ⟨⟨[⟨5, _, none⟩], _, rfl, ⟨rfl, trivial⟩, rfl, rfl, OpG.plain rfl (ok_move (ht rfl))⟩,
        ⟨⟨[⟨21, _, some 1⟩, ⟨22, _, some 2⟩], _, rfl, ⟨rfl, rfl, trivial⟩, rfl, rfl, OpG.plain rfl (ok_indexAddr Tryz.underlying34 ti27 rfl (ht rfl) (ht rfl) q_e)⟩,
        ⟨⟨[⟨23, _, some 3⟩], _, rfl, ⟨rfl, trivial⟩, rfl, rfl, OpG.plain rfl (ok_load ti27 rfl rfl (ht rfl))⟩,
        ⟨⟨[⟨3, _, none⟩], _, rfl, ⟨rfl, trivial⟩, rfl, rfl, OpG.plain rfl (ok_fieldAddr fd36_0 rfl flDLayout_0 rfl (ht rfl))⟩,
        ⟨⟨[⟨25, _, some 5⟩], _, rfl, ⟨rfl, trivial⟩, rfl, rfl, OpG.plain rfl (ok_load ti34 rfl rfl (ht rfl))⟩,
        ⟨⟨[⟨5, _, none⟩], _, rfl, ⟨rfl, trivial⟩, rfl, rfl, OpG.plain rfl (ok_move (ht rfl))⟩,
        ⟨⟨[⟨26, _, some 6⟩, ⟨27, _, some 7⟩], _, rfl, ⟨rfl, rfl, trivial⟩, rfl, rfl, OpG.plain rfl (ok_indexAddr Tryz.underlying34 ti27 rfl (ht rfl) (ht rfl) q_e1)⟩,
        ⟨⟨[⟨28, _, some 8⟩], _, rfl, ⟨rfl, trivial⟩, rfl, rfl, OpG.plain rfl (ok_load ti27 rfl rfl (ht rfl))⟩,
        ⟨⟨[⟨24, _, some 4⟩, ⟨29, _, some 9⟩], _, rfl, ⟨rfl, rfl, trivial⟩, rfl, rfl, OpG.plain rfl (ok_call cb35 (f35_ok _ _ q_r) ⟨(ht rfl), (ht rfl), trivial⟩)⟩,
        ⟨⟨[⟨30, _, some 10⟩], _, rfl, ⟨rfl, trivial⟩, rfl, rfl, OpG.plain rfl (ok_not (ht rfl))⟩,
        trivial⟩⟩⟩⟩⟩⟩⟩⟩⟩⟩⟩⟩ ?_
      refine AT.next ?_
      refine CG.cond (ht rfl) (fun hc => ?_) (fun hc => ?_)
      · have h := ct h hc
        refine CG.seq ?_
        refine CG.region ?_
        refine RG.op (ok_assign hB) rfl ?_
        refine RG.nil ?_
        refine AT.next ?_
        refine CG.ret ?_
        refine AT.in_ret (AT.then_ret (AT.then_ret (AT.in_ret (AT.then_ret ?_))))
        cases so h
        exact AT.ret1 rfl rfl
      · have h := cf h hc
        refine CG.skip ?_
        refine AT.in_normal ?_
        refine AT.next ?_
        refine CG.region ?_
        refine RG.op (ok_move (ht rfl)) rfl ?_
        refine RG.op (ok_add (ht rfl) hI) rfl ?_
        refine RG.op (ok_assign (ht rfl)) rfl ?_
        refine RG.nil ?_
        exact AT.round (LG.sub (ih (IntKind.i64.wrap (i + (1 : Int))) h) ⟨rfl, rfl, rfl, trivial⟩)
    · have h := cf h hc
      refine CG.exit ?_
      refine AT.then_exit (AT.then_exit (AT.in_exit ?_))
      refine AT.next ?_
      refine CG.seq ?_
      refine CG.region ?_
      refine RG.op (ok_assign hB) rfl ?_
      refine RG.nil ?_
      refine AT.next ?_
      refine CG.ret ?_
      cases so h
      exact AT.ret1 rfl rfl

end Go.Proofs.YtegigakgcnhiaaaGreatDoor

