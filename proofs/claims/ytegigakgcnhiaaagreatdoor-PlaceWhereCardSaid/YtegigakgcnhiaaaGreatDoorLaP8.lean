/- Facts of this claim: P8. -/
import Derived.Test.YtegigakgcnhiaaaGreatDoorLaT
import Derived.Test.YtegigakgcnhiaaaGreatDoorLaP7
import Derived.Test.YtegigakgcnhiaaaGreatDoorLaNS
namespace Go.Proofs.YtegigakgcnhiaaaGreatDoor
open Go

set_option maxRecDepth 100000 in
theorem f48_ok (t : DTable) (r : (List DValue)) {R : Bool} (h : place_fits t r = some R) : Spec Tryz.prog 48 [tD rpDTable t, tD (rSl rpDValue) r] (tD rB R) := by
  refine Spec.of Tryz.func48 rfl rfl rfl fun w0 S0 => ?_
  refine CG.seq ?_
  refine CG.region ?_
  refine RG.op (ok_box (ht rfl)) rfl ?_
  refine RG.op (ok_assign hB) rfl ?_
  refine RG.nil ?_
  refine AT.next ?_
  refine CG.seq ?_
  refine CG.region ?_
  refine RG.op (ok_load ti53 rfl rfl (ht rfl)) rfl ?_
  refine RG.op (ok_buildSlice (r := rpDTable) (ys := [t]) (xs := [.tmp 6]) Tryz.underlying22 ti53 rfl rfl rfl rfl rfl ⟨(ht rfl), trivial⟩) rfl ?_
  refine RG.op (ok_build (y := (⟨[t]⟩ : DCatalog)) ti24 fs24 zrDCatalog (⟨_, _, _, _, _, rfl, sfDCatalog_0, rfl, (ht rfl), rfl⟩)) rfl ?_
  refine RG.alloc (r := rpDCatalog) (x := (⟨[]⟩ : DCatalog)) ti24 (fun _ => zrDCatalog _) rfl (fun b => ?_)
  refine RG.storeB ti24 rfl sfld_whole rfl (ht rfl) (ht rfl) ?_
  refine RG.settleB 5 rfl ?_
  refine RG.nil ?_
  refine AT.next ?_
  refine CG.seq ?_
  refine CG.region ?_
  refine RG.op (ok_load ti24 rfl rfl (ht rfl)) rfl ?_
  refine RG.op (ok_move (ht rfl)) rfl ?_
  refine RG.op (ok_buildSlice (r := (rSl rpDValue)) (ys := [r]) (xs := [.tmp 10]) Tryz.underlying54 ti45 rfl rfl rfl rfl rfl ⟨(ht rfl), trivial⟩) rfl ?_
  refine RG.op (ok_buildSlice (r := (rSl (rSl rpDValue))) (ys := [[r]]) (xs := [.tmp 11]) Tryz.underlying25 ti54 rfl rfl rfl rfl rfl ⟨(ht rfl), trivial⟩) rfl ?_
  refine RG.op (ok_build (y := (⟨[[r]]⟩ : DBase)) ti27 fs27 zrDBase (⟨_, _, _, _, _, rfl, sfDBase_0, rfl, (ht rfl), rfl⟩)) rfl ?_
  obtain ⟨r1, q_r1, h⟩ := bs h
  refine RG.op (ok_call cb40 (f40_ok _ _ q_r1) ⟨(ht rfl), (ht rfl), trivial⟩) rfl ?_
  refine RG.op (ok_eqlI (ht rfl) hI) rfl ?_
  refine RG.op (ok_assign (ht rfl)) rfl ?_
  refine RG.nil ?_
  refine AT.next ?_
  refine CG.ret ?_
  cases so h
  exact AT.ret1 rfl rfl

set_option maxRecDepth 100000 in
theorem f18_ok (c : DCatalog) (table : Int) (r : (List DValue)) (nodes : Int) {R : Int × Int} (h : place_Where c table r nodes = some R) : Spec Tryz.prog 18 [tD rpDCatalog c, tD (rI .i64) table, tD (rSl rpDValue) r, tD (rI .i64) nodes] (tT [tD (rI .i64) R.1, tD (rI .i64) R.2]) := by
  refine Spec.of Tryz.func18 rfl rfl rfl fun w0 S0 => ?_
  refine CG.seq ?_
  refine CG.region ?_
  refine RG.op (ok_box (ht rfl)) rfl ?_
  refine RG.op (ok_assign hI) rfl ?_
  refine RG.op (ok_assign hI) rfl ?_
  refine RG.nil ?_
  refine AT.next ?_
  refine CG.seq ?_
  refine CG.seq ?_
  refine CG.region ?_
  refine RG.op (ok_load ti24 rfl rfl (ht rfl)) rfl ?_
  obtain ⟨r1, q_r1, h⟩ := bs h
  refine RG.op (ok_call cb39 (f39_ok _ q_r1) ⟨(ht rfl), trivial⟩) rfl ?_
  refine RG.op (ok_assign (ht rfl)) rfl ?_
  refine RG.nil ?_
  refine AT.next ?_
  refine CG.seq ?_
  refine CG.region ?_
  refine RG.op (ok_move (ht rfl)) rfl ?_
  refine RG.op (ok_neqI (ht rfl) hI) rfl ?_
  refine RG.nil ?_
  refine AT.next ?_
  refine CG.cond (ht rfl) (fun hc => ?_) (fun hc => ?_)
  · have h := ct h hc
    refine CG.seq ?_
    refine CG.region ?_
    refine RG.op (ok_move (ht rfl)) rfl ?_
    refine RG.op (ok_assign hI) rfl ?_
    refine RG.op (ok_assign (ht rfl)) rfl ?_
    refine RG.nil ?_
    refine AT.next ?_
    refine CG.ret ?_
    refine AT.then_ret ?_
    cases so h
    exact AT.ret2 rfl rfl rfl
  · have h := cf h hc
    refine CG.skip ?_
    refine AT.next ?_
    refine CG.seq ?_
    refine CG.seq ?_
    refine CG.region ?_
    refine RG.op (ok_move (ht rfl)) rfl ?_
    refine RG.op (ok_lss (ht rfl) hI) rfl ?_
    refine RG.op (ok_move (ht rfl)) rfl ?_
    refine RG.opGf rfl rfl rfl rfl (fun hg => ok_move (ht rfl)) ?_
    refine RG.opGf rfl rfl rfl rfl (fun hg => ok_fieldAddr fd24_0 rfl flDCatalog_0 rfl (ht rfl)) ?_
    refine RG.opGf rfl rfl rfl rfl (fun hg => ok_load ti22 rfl rfl (htO rfl hg)) ?_
    refine RG.opGf rfl rfl rfl rfl (fun hg => ok_lenSl Tryz.underlying22 (htO rfl hg)) ?_
    refine RG.opGf rfl rfl rfl rfl (fun hg => ok_geq (htO rfl hg) (htO rfl hg)) ?_
    refine RG.op (ok_pickOr (ht rfl) (fun hb => (htO rfl (noti hb)))) rfl ?_
    refine RG.op (ok_move (ht rfl)) rfl ?_
    refine RG.opGf rfl rfl rfl rfl (fun hg => ok_move (ht rfl)) ?_
    refine RG.opGf rfl rfl rfl rfl (fun hg => ok_lss (htO rfl hg) hI) ?_
    refine RG.op (ok_pickOr (ht rfl) (fun hb => (htO rfl (noti hb)))) rfl ?_
    refine RG.op (ok_move (ht rfl)) rfl ?_
    refine RG.opGf rfl rfl rfl rfl (fun hg => ok_move (ht rfl)) ?_
    refine RG.opGf rfl rfl rfl rfl (fun hg => ok_gtr (htO rfl hg) hI) ?_
    refine RG.op (ok_pickOr (ht rfl) (fun hb => (htO rfl (noti hb)))) rfl ?_
    refine RG.op (ok_move (ht rfl)) rfl ?_
    obtain ⟨t, q_t, h⟩ := bs h
    refine RG.opGf rfl rfl rfl rfl (fun hg => ok_fieldAddr fd24_0 rfl flDCatalog_0 rfl (ht rfl)) ?_
    refine RG.opGf rfl rfl rfl rfl (fun hg => ok_load ti22 rfl rfl (htO rfl hg)) ?_
    refine RG.opGf rfl rfl rfl rfl (fun hg => ok_move (ht rfl)) ?_
    obtain ⟨e, h1t, h0t⟩ := og q_t
    have q_eg := fun hb => (h1t hb).1
    refine RG.opGf rfl rfl rfl rfl (fun hg => ok_indexAddr Tryz.underlying22 ti53 rfl (htO rfl hg) (htO rfl hg) (q_eg hg)) ?_
    refine RG.opGf rfl rfl rfl rfl (fun hg => ok_load ti53 rfl rfl (htO rfl hg)) ?_
    refine RG.opGf rfl rfl rfl rfl (fun hg => ok_move (ht rfl)) ?_
    obtain ⟨r2, h1t⟩ := og2 (fun hb => (h1t hb).2)
    have q_r2g := fun hb => (h1t hb).1
    refine RG.opGf rfl rfl rfl rfl (fun hg => ok_call cb48 (f48_ok _ _ (q_r2g hg)) ⟨(htO rfl hg), (htO rfl hg), trivial⟩) ?_
    refine RG.opGf rfl rfl rfl rfl (fun hg => ok_not (htO rfl hg)) ?_
    refine RG.op (ok_pickOrM (ht rfl) (fun hb => (htO rfl (noti hb))) (fun hb => (h1t hb).2) h0t) rfl ?_
    refine RG.nil ?_
    refine AT.next ?_
    refine CG.cond (ht rfl) (fun hc => ?_) (fun hc => ?_)
    · have h := ct h hc
      refine CG.seq ?_
      refine CG.region ?_
      refine RG.op (ok_assign hI) rfl ?_
      refine RG.op (ok_assign hI) rfl ?_
      refine RG.nil ?_
      refine AT.next ?_
      refine CG.ret ?_
      refine AT.then_ret ?_
      cases so h
      exact AT.ret2 rfl rfl rfl
    · have h := cf h hc
      refine CG.skip ?_
      refine AT.next ?_
      refine CG.seq ?_
      refine CG.region ?_
      refine RG.op (ok_fieldAddr fd24_0 rfl flDCatalog_0 rfl (ht rfl)) rfl ?_
      refine RG.op (ok_load ti22 rfl rfl (ht rfl)) rfl ?_
      refine RG.op (ok_move (ht rfl)) rfl ?_
      obtain ⟨e1, q_e1, h⟩ := bs h
      refine RG.op (ok_indexAddr Tryz.underlying22 ti53 rfl (ht rfl) (ht rfl) q_e1) rfl ?_
      refine RG.op (ok_load ti53 rfl rfl (ht rfl)) rfl ?_
      refine RG.op (ok_move (ht rfl)) rfl ?_
      refine RG.op (ok_move (ht rfl)) rfl ?_
      obtain ⟨r3, q_r3, h⟩ := bs h
      refine RG.op (ok_call cb43 (f43_ok _ _ _ q_r3) ⟨(ht rfl), (ht rfl), (ht rfl), trivial⟩) rfl ?_
      refine RG.op (ok_assign (ht rfl)) rfl ?_
      refine RG.op (ok_assign hI) rfl ?_
      refine RG.nil ?_
      refine AT.next ?_
      refine CG.ret ?_
      cases so h
      exact AT.ret2 rfl rfl rfl

set_option maxRecDepth 100000 in
theorem f4_ok (c : DCatalog) (r : (List DValue)) (s : DStep) {R : Bool} (h : law17_PlaceWhere c r s = some R) : Spec Tryz.prog 4 [tD rpDCatalog c, tD (rSl rpDValue) r, tD rpDStep s] (tD rB R) := by
  refine Spec.of Tryz.func4 rfl rfl rfl fun w0 S0 => ?_
  refine CG.seq ?_
  refine CG.region ?_
  refine RG.op (ok_box (ht rfl)) rfl ?_
  refine RG.op (ok_box (ht rfl)) rfl ?_
  refine RG.op (ok_assign hB) rfl ?_
  refine RG.nil ?_
  refine AT.next ?_
  refine CG.seq ?_
  refine CG.seq ?_
  refine CG.region ?_
  obtain ⟨r1, q_r1, h⟩ := bs h
  refine RG.op (ok_call cb9 (f9_ok  q_r1) trivial) rfl ?_
  refine RG.op (ok_not (ht rfl)) rfl ?_
  refine RG.nil ?_
  refine AT.next ?_
  refine CG.cond (ht rfl) (fun hc => ?_) (fun hc => ?_)
  · have h := ct h hc
    refine CG.seq ?_
    refine CG.region ?_
    refine RG.op (ok_assign hB) rfl ?_
    refine RG.nil ?_
    refine AT.next ?_
    refine CG.ret ?_
    refine AT.then_ret ?_
    cases so h
    exact AT.ret1 rfl rfl
  · have h := cf h hc
    refine CG.skip ?_
    refine AT.next ?_
    refine CG.seq ?_
    refine CG.seq ?_
    refine CG.region ?_
    refine RG.op (ok_load ti24 rfl rfl (ht rfl)) rfl ?_
    obtain ⟨r2, q_r2, h⟩ := bs h
    refine RG.op (ok_call cb10 (f10_ok _ q_r2) ⟨(ht rfl), trivial⟩) rfl ?_
    refine RG.op (ok_move (ht rfl)) rfl ?_
    obtain ⟨t, q_t, h⟩ := bs h
    refine RG.opGf rfl rfl rfl rfl (fun hg => ok_move (ht rfl)) ?_
    obtain ⟨r3, h1t, h0t⟩ := og q_t
    have q_r3g := fun hb => (h1t hb).1
    refine RG.opGf rfl rfl rfl rfl (fun hg => ok_call cb17 (f17_ok _ (q_r3g hg)) ⟨(htO rfl hg), trivial⟩) ?_
    refine RG.op (ok_pickOrM (ht rfl) (fun hb => (htO rfl (noti hb))) (fun hb => (h1t hb).2) h0t) rfl ?_
    refine RG.nil ?_
    refine AT.next ?_
    refine CG.cond (ht rfl) (fun hc => ?_) (fun hc => ?_)
    · have h := ct h hc
      refine CG.seq ?_
      refine CG.region ?_
      refine RG.op (ok_assign hB) rfl ?_
      refine RG.nil ?_
      refine AT.next ?_
      refine CG.ret ?_
      refine AT.then_ret ?_
      cases so h
      exact AT.ret1 rfl rfl
    · have h := cf h hc
      refine CG.skip ?_
      refine AT.next ?_
      refine CG.seq ?_
      obtain ⟨l, q_l, h⟩ := bs h
      obtain ⟨r4, q_r4, h⟩ := bs h
      refine CG.draw (ts := [tD rpDCatalog c, tPtr (rI .i64) s.Table, tD (rI .i64) s.Table, tLit rpDValue ([] : List DValue), tD (rSl rpDValue) r, tD (rSl rpDValue) l, tPtr (rI .i64) s.To, tD (rI .i64) s.To, tT [tD (rI .i64) r4.1, tD (rI .i64) r4.2], tT [tD (rI .i64) r4.1, tD (rI .i64) r4.2], tD (rI .i64) r4.1, tD (rI .i64) r4.2, tD (rI .i64) r4.1, tD (rI .i64) r4.2]) mixed rfl rfl
        ⟨⟨[⟨3, _, none⟩], _, rfl, ⟨rfl, trivial⟩, rfl, rfl, OpG.plain rfl (ok_load ti24 rfl rfl (ht rfl))⟩,
        ⟨⟨[⟨5, _, none⟩], _, rfl, ⟨rfl, trivial⟩, rfl, rfl, OpG.plain rfl (ok_fieldAddr fd47_0 rfl flDStep_0 rfl (ht rfl))⟩,
        ⟨⟨[⟨20, _, some 1⟩], _, rfl, ⟨rfl, trivial⟩, rfl, rfl, OpG.plain rfl (ok_load ti3 rfl rfl (ht rfl))⟩,
        ⟨⟨[], _, rfl, trivial, rfl, rfl, OpG.plain rfl (ok_buildLit (r := rpDValue) (ys := ([] : List DValue)) (xs := []) Tryz.underlying45 ti89 rfl rfl rfl rfl rfl trivial)⟩,
        ⟨⟨[⟨1, _, none⟩], _, rfl, ⟨rfl, trivial⟩, rfl, rfl, OpG.plain rfl (ok_move (ht rfl))⟩,
        ⟨⟨[⟨22, _, some 3⟩, ⟨23, _, some 4⟩], _, rfl, ⟨rfl, rfl, trivial⟩, rfl, rfl, OpG.plain rfl (ok_appendL ti89 rfl rfl rfl rfl Tryz.underlying45 Tryz.underlying45 (ht rfl) (ht rfl) q_l)⟩,
        ⟨⟨[⟨5, _, none⟩], _, rfl, ⟨rfl, trivial⟩, rfl, rfl, OpG.plain rfl (ok_fieldAddr fd47_3 rfl flDStep_3 rfl (ht rfl))⟩,
        ⟨⟨[⟨25, _, some 6⟩], _, rfl, ⟨rfl, trivial⟩, rfl, rfl, OpG.plain rfl (ok_load ti3 rfl rfl (ht rfl))⟩,
        ⟨⟨[⟨19, _, some 0⟩, ⟨21, _, some 2⟩, ⟨24, _, some 5⟩, ⟨26, _, some 7⟩], _, rfl, ⟨rfl, rfl, rfl, rfl, trivial⟩, rfl, rfl, OpG.plain rfl (ok_call cb18 (f18_ok _ _ _ _ q_r4) ⟨(ht rfl), (ht rfl), (ht rfl), (ht rfl), trivial⟩)⟩,
        ⟨⟨[⟨27, _, some 8⟩], _, rfl, ⟨rfl, trivial⟩, rfl, rfl, OpG.plain rfl (ok_move (ht rfl))⟩,
        ⟨⟨[⟨18, _, some 9⟩], _, rfl, ⟨rfl, trivial⟩, rfl, rfl, OpG.plain rfl (ok_extract rfl (ht rfl))⟩,
        ⟨⟨[⟨18, _, some 9⟩], _, rfl, ⟨rfl, trivial⟩, rfl, rfl, OpG.plain rfl (ok_extract rfl (ht rfl))⟩,
        ⟨⟨[⟨28, _, some 10⟩], _, rfl, ⟨rfl, trivial⟩, rfl, rfl, OpG.plain rfl (ok_assign (ht rfl))⟩,
        ⟨⟨[⟨29, _, some 11⟩], _, rfl, ⟨rfl, trivial⟩, rfl, rfl, OpG.plain rfl (ok_assign (ht rfl))⟩,
        trivial⟩⟩⟩⟩⟩⟩⟩⟩⟩⟩⟩⟩⟩⟩ ?_
      refine AT.next ?_
      refine CG.seq ?_
      refine CG.seq ?_
      refine CG.region ?_
      refine RG.op (ok_load ti24 rfl rfl (ht rfl)) rfl ?_
      obtain ⟨r5, q_r5, h⟩ := bs h
      refine RG.op (ok_call cb13 (f13_ok _ q_r5) ⟨(ht rfl), trivial⟩) rfl ?_
      refine RG.op (ok_not (ht rfl)) rfl ?_
      refine RG.nil ?_
      refine AT.next ?_
      refine CG.cond (ht rfl) (fun hc => ?_) (fun hc => ?_)
      · have h := ct h hc
        refine CG.seq ?_
        refine CG.region ?_
        refine RG.op (ok_move (ht rfl)) rfl ?_
        refine RG.op (ok_eqlI (ht rfl) hI) rfl ?_
        refine RG.op (ok_move (ht rfl)) rfl ?_
        refine RG.opGt rfl rfl rfl rfl (fun hg => ok_move (ht rfl)) ?_
        refine RG.opGt rfl rfl rfl rfl (fun hg => ok_eqlI (htO rfl hg) hI) ?_
        refine RG.op (ok_pickAnd (ht rfl) (fun hb => (htO rfl hb))) rfl ?_
        refine RG.op (ok_assign (ht rfl)) rfl ?_
        refine RG.nil ?_
        refine AT.next ?_
        refine CG.ret ?_
        refine AT.then_ret ?_
        cases so h
        exact AT.ret1 rfl rfl
      · have h := cf h hc
        refine CG.skip ?_
        refine AT.next ?_
        refine CG.seq ?_
        refine CG.seq ?_
        refine CG.region ?_
        refine RG.op (ok_fieldAddr fd47_0 rfl flDStep_0 rfl (ht rfl)) rfl ?_
        refine RG.op (ok_load ti3 rfl rfl (ht rfl)) rfl ?_
        refine RG.op (ok_lss (ht rfl) hI) rfl ?_
        refine RG.op (ok_move (ht rfl)) rfl ?_
        refine RG.opGf rfl rfl rfl rfl (fun hg => ok_fieldAddr fd47_0 rfl flDStep_0 rfl (ht rfl)) ?_
        refine RG.opGf rfl rfl rfl rfl (fun hg => ok_load ti3 rfl rfl (htO rfl hg)) ?_
        refine RG.opGf rfl rfl rfl rfl (fun hg => ok_fieldAddr fd24_0 rfl flDCatalog_0 rfl (ht rfl)) ?_
        refine RG.opGf rfl rfl rfl rfl (fun hg => ok_load ti22 rfl rfl (htO rfl hg)) ?_
        refine RG.opGf rfl rfl rfl rfl (fun hg => ok_lenSl Tryz.underlying22 (htO rfl hg)) ?_
        refine RG.opGf rfl rfl rfl rfl (fun hg => ok_geq (htO rfl hg) (htO rfl hg)) ?_
        refine RG.op (ok_pickOr (ht rfl) (fun hb => (htO rfl (noti hb)))) rfl ?_
        refine RG.op (ok_move (ht rfl)) rfl ?_
        refine RG.opGf rfl rfl rfl rfl (fun hg => ok_fieldAddr fd47_3 rfl flDStep_3 rfl (ht rfl)) ?_
        refine RG.opGf rfl rfl rfl rfl (fun hg => ok_load ti3 rfl rfl (htO rfl hg)) ?_
        refine RG.opGf rfl rfl rfl rfl (fun hg => ok_lss (htO rfl hg) hI) ?_
        refine RG.op (ok_pickOr (ht rfl) (fun hb => (htO rfl (noti hb)))) rfl ?_
        refine RG.op (ok_move (ht rfl)) rfl ?_
        refine RG.opGf rfl rfl rfl rfl (fun hg => ok_fieldAddr fd47_3 rfl flDStep_3 rfl (ht rfl)) ?_
        refine RG.opGf rfl rfl rfl rfl (fun hg => ok_load ti3 rfl rfl (htO rfl hg)) ?_
        refine RG.opGf rfl rfl rfl rfl (fun hg => ok_gtr (htO rfl hg) hI) ?_
        refine RG.op (ok_pickOr (ht rfl) (fun hb => (htO rfl (noti hb)))) rfl ?_
        refine RG.nil ?_
        refine AT.next ?_
        refine CG.cond (ht rfl) (fun hc => ?_) (fun hc => ?_)
        · have h := ct h hc
          refine CG.seq ?_
          refine CG.region ?_
          refine RG.op (ok_move (ht rfl)) rfl ?_
          refine RG.op (ok_eqlI (ht rfl) hI) rfl ?_
          refine RG.op (ok_move (ht rfl)) rfl ?_
          refine RG.opGt rfl rfl rfl rfl (fun hg => ok_move (ht rfl)) ?_
          refine RG.opGt rfl rfl rfl rfl (fun hg => ok_eqlI (htO rfl hg) hI) ?_
          refine RG.op (ok_pickAnd (ht rfl) (fun hb => (htO rfl hb))) rfl ?_
          refine RG.op (ok_assign (ht rfl)) rfl ?_
          refine RG.nil ?_
          refine AT.next ?_
          refine CG.ret ?_
          refine AT.then_ret ?_
          cases so h
          exact AT.ret1 rfl rfl
        · have h := cf h hc
          refine CG.skip ?_
          refine AT.next ?_
          refine CG.seq ?_
          refine CG.region ?_
          refine RG.op (ok_fieldAddr fd24_0 rfl flDCatalog_0 rfl (ht rfl)) rfl ?_
          refine RG.op (ok_load ti22 rfl rfl (ht rfl)) rfl ?_
          refine RG.op (ok_fieldAddr fd47_0 rfl flDStep_0 rfl (ht rfl)) rfl ?_
          refine RG.op (ok_load ti3 rfl rfl (ht rfl)) rfl ?_
          obtain ⟨e, q_e, h⟩ := bs h
          refine RG.op (ok_indexAddr Tryz.underlying22 ti53 rfl (ht rfl) (ht rfl) q_e) rfl ?_
          refine RG.op (ok_load ti53 rfl rfl (ht rfl)) rfl ?_
          refine RG.alloc (r := rpDTable) (x := (⟨[], [], []⟩ : DTable)) ti53 (fun _ => zrDTable _) rfl (fun b => ?_)
          refine RG.storeB ti53 rfl sfld_whole rfl (ht rfl) (ht rfl) ?_
          refine RG.settleB 9 rfl ?_
          refine RG.nil ?_
          refine AT.next ?_
          refine CG.seq ?_
          refine CG.seq ?_
          refine CG.region ?_
          refine RG.op (ok_load ti53 rfl rfl (ht rfl)) rfl ?_
          refine RG.op (ok_buildSlice (r := rpDTable) (ys := [e]) (xs := [.tmp 72]) Tryz.underlying22 ti53 rfl rfl rfl rfl rfl ⟨(ht rfl), trivial⟩) rfl ?_
          refine RG.op (ok_build (y := (⟨[e]⟩ : DCatalog)) ti24 fs24 zrDCatalog (⟨_, _, _, _, _, rfl, sfDCatalog_0, rfl, (ht rfl), rfl⟩)) rfl ?_
          refine RG.op (ok_move (ht rfl)) rfl ?_
          refine RG.op (ok_buildSlice (r := (rSl rpDValue)) (ys := [r]) (xs := [.tmp 75]) Tryz.underlying54 ti45 rfl rfl rfl rfl rfl ⟨(ht rfl), trivial⟩) rfl ?_
          refine RG.op (ok_buildSlice (r := (rSl (rSl rpDValue))) (ys := [[r]]) (xs := [.tmp 76]) Tryz.underlying25 ti54 rfl rfl rfl rfl rfl ⟨(ht rfl), trivial⟩) rfl ?_
          refine RG.op (ok_build (y := (⟨[[r]]⟩ : DBase)) ti27 fs27 zrDBase (⟨_, _, _, _, _, rfl, sfDBase_0, rfl, (ht rfl), rfl⟩)) rfl ?_
          obtain ⟨r6, q_r6, h⟩ := bs h
          refine RG.op (ok_call cb14 (f14_ok _ _ q_r6) ⟨(ht rfl), (ht rfl), trivial⟩) rfl ?_
          refine RG.op (ok_not (ht rfl)) rfl ?_
          refine RG.nil ?_
          refine AT.next ?_
          refine CG.cond (ht rfl) (fun hc => ?_) (fun hc => ?_)
          · have h := ct h hc
            refine CG.seq ?_
            refine CG.region ?_
            refine RG.op (ok_move (ht rfl)) rfl ?_
            refine RG.op (ok_eqlI (ht rfl) hI) rfl ?_
            refine RG.op (ok_move (ht rfl)) rfl ?_
            refine RG.opGt rfl rfl rfl rfl (fun hg => ok_move (ht rfl)) ?_
            refine RG.opGt rfl rfl rfl rfl (fun hg => ok_eqlI (htO rfl hg) hI) ?_
            refine RG.op (ok_pickAnd (ht rfl) (fun hb => (htO rfl hb))) rfl ?_
            refine RG.op (ok_assign (ht rfl)) rfl ?_
            refine RG.nil ?_
            refine AT.next ?_
            refine CG.ret ?_
            refine AT.then_ret ?_
            cases so h
            exact AT.ret1 rfl rfl
          · have h := cf h hc
            refine CG.skip ?_
            refine AT.next ?_
            refine CG.seq ?_
            refine CG.region ?_
            refine RG.op (ok_move (ht rfl)) rfl ?_
            refine RG.op (ok_eqlI (ht rfl) hI) rfl ?_
            refine RG.op (ok_move (ht rfl)) rfl ?_
            obtain ⟨t1, q_t1, h⟩ := bs h
            refine RG.opGt rfl rfl rfl rfl (fun hg => ok_move (ht rfl)) ?_
            refine RG.opGt rfl rfl rfl rfl (fun hg => ok_load ti53 rfl rfl (ht rfl)) ?_
            refine RG.opGt rfl rfl rfl rfl (fun hg => ok_move (ht rfl)) ?_
            refine RG.opGt rfl rfl rfl rfl (fun hg => ok_fieldAddr fd47_3 rfl flDStep_3 rfl (ht rfl)) ?_
            refine RG.opGt rfl rfl rfl rfl (fun hg => ok_load ti3 rfl rfl (htO rfl hg)) ?_
            obtain ⟨r7, h1t1, h0t1⟩ := og q_t1
            have q_r7g := fun hb => (h1t1 hb).1
            refine RG.opGt rfl rfl rfl rfl (fun hg => ok_call cb19 (f19_ok _ _ _ (q_r7g hg)) ⟨(htO rfl hg), (htO rfl hg), (htO rfl hg), trivial⟩) ?_
            refine RG.opGt rfl rfl rfl rfl (fun hg => ok_eqlI (htO rfl hg) (htO rfl hg)) ?_
            refine RG.op (ok_pickAndM (ht rfl) (fun hb => (htO rfl hb)) (fun hb => (h1t1 hb).2) h0t1) rfl ?_
            refine RG.op (ok_assign (ht rfl)) rfl ?_
            refine RG.nil ?_
            refine AT.next ?_
            refine CG.ret ?_
            cases so h
            exact AT.ret1 rfl rfl

end Go.Proofs.YtegigakgcnhiaaaGreatDoor

