/- Facts of this claim: P8. -/
import Derived.Test.YtegigakgcnhiaaaGreatDoorLfT
import Derived.Test.YtegigakgcnhiaaaGreatDoorLfP7
import Derived.Test.YtegigakgcnhiaaaGreatDoorLfNS
namespace Go.Proofs.YtegigakgcnhiaaaGreatDoor
open Go

set_option maxRecDepth 100000 in
theorem f48_ok (t : DTable) (r : (List DValue)) {R : Bool} (h : place_fits t r = some R) : Spec Tryz.prog 48 [tD rpDTable t, tD (rSl rpDValue) r] (tD rB R) := by
  refine Spec.of Tryz.func48 rfl rfl rfl fun w0 S0 => ?_
  refine CG.seq ?_
  refine CG.region ?_
  refine RG.op (ok_box (ht rfl)) rfl ?_
  refine RG.op (ok_assign hB) rfl ?_
  refine RG.nil ?_
  refine AT.next ?_
  refine CG.seq ?_
  refine CG.region ?_
  refine RG.op (ok_load ti53 rfl rfl (ht rfl)) rfl ?_
  refine RG.op (ok_buildSlice (r := rpDTable) (ys := [t]) (xs := [.tmp 6]) Tryz.underlying22 ti53 rfl rfl rfl rfl rfl ⟨(ht rfl), trivial⟩) rfl ?_
  refine RG.op (ok_build (y := (⟨[t]⟩ : DCatalog)) ti24 fs24 zrDCatalog (⟨_, _, _, _, _, rfl, sfDCatalog_0, rfl, (ht rfl), rfl⟩)) rfl ?_
  refine RG.alloc (r := rpDCatalog) (x := (⟨[]⟩ : DCatalog)) ti24 (fun _ => zrDCatalog _) rfl (fun b => ?_)
  refine RG.storeB ti24 rfl sfld_whole rfl (ht rfl) (ht rfl) ?_
  refine RG.settleB 5 rfl ?_
  refine RG.nil ?_
  refine AT.next ?_
  refine CG.seq ?_
  refine CG.region ?_
  refine RG.op (ok_load ti24 rfl rfl (ht rfl)) rfl ?_
  refine RG.op (ok_move (ht rfl)) rfl ?_
  refine RG.op (ok_buildSlice (r := (rSl rpDValue)) (ys := [r]) (xs := [.tmp 10]) Tryz.underlying54 ti45 rfl rfl rfl rfl rfl ⟨(ht rfl), trivial⟩) rfl ?_
  refine RG.op (ok_buildSlice (r := (rSl (rSl rpDValue))) (ys := [[r]]) (xs := [.tmp 11]) Tryz.underlying25 ti54 rfl rfl rfl rfl rfl ⟨(ht rfl), trivial⟩) rfl ?_
  refine RG.op (ok_build (y := (⟨[[r]]⟩ : DBase)) ti27 fs27 zrDBase (⟨_, _, _, _, _, rfl, sfDBase_0, rfl, (ht rfl), rfl⟩)) rfl ?_
  obtain ⟨r1, q_r1, h⟩ := bs h
  refine RG.op (ok_call cb40 (f40_ok _ _ q_r1) ⟨(ht rfl), (ht rfl), trivial⟩) rfl ?_
  refine RG.op (ok_eqlI (ht rfl) hI) rfl ?_
  refine RG.op (ok_assign (ht rfl)) rfl ?_
  refine RG.nil ?_
  refine AT.next ?_
  refine CG.ret ?_
  cases so h
  exact AT.ret1 rfl rfl

set_option maxRecDepth 100000 in
theorem f18_ok (c : DCatalog) (table : Int) (r : (List DValue)) (nodes : Int) {R : Int × Int} (h : place_Where c table r nodes = some R) : Spec Tryz.prog 18 [tD rpDCatalog c, tD (rI .i64) table, tD (rSl rpDValue) r, tD (rI .i64) nodes] (tT [tD (rI .i64) R.1, tD (rI .i64) R.2]) := by
  refine Spec.of Tryz.func18 rfl rfl rfl fun w0 S0 => ?_
  refine CG.seq ?_
  refine CG.region ?_
  refine RG.op (ok_box (ht rfl)) rfl ?_
  refine RG.op (ok_assign hI) rfl ?_
  refine RG.op (ok_assign hI) rfl ?_
  refine RG.nil ?_
  refine AT.next ?_
  refine CG.seq ?_
  refine CG.seq ?_
  refine CG.region ?_
  refine RG.op (ok_load ti24 rfl rfl (ht rfl)) rfl ?_
  obtain ⟨r1, q_r1, h⟩ := bs h
  refine RG.op (ok_call cb39 (f39_ok _ q_r1) ⟨(ht rfl), trivial⟩) rfl ?_
  refine RG.op (ok_assign (ht rfl)) rfl ?_
  refine RG.nil ?_
  refine AT.next ?_
  refine CG.seq ?_
  refine CG.region ?_
  refine RG.op (ok_move (ht rfl)) rfl ?_
  refine RG.op (ok_neqI (ht rfl) hI) rfl ?_
  refine RG.nil ?_
  refine AT.next ?_
  refine CG.cond (ht rfl) (fun hc => ?_) (fun hc => ?_)
  · have h := ct h hc
    refine CG.seq ?_
    refine CG.region ?_
    refine RG.op (ok_move (ht rfl)) rfl ?_
    refine RG.op (ok_assign hI) rfl ?_
    refine RG.op (ok_assign (ht rfl)) rfl ?_
    refine RG.nil ?_
    refine AT.next ?_
    refine CG.ret ?_
    refine AT.then_ret ?_
    cases so h
    exact AT.ret2 rfl rfl rfl
  · have h := cf h hc
    refine CG.skip ?_
    refine AT.next ?_
    refine CG.seq ?_
    refine CG.seq ?_
    refine CG.region ?_
    refine RG.op (ok_move (ht rfl)) rfl ?_
    refine RG.op (ok_lss (ht rfl) hI) rfl ?_
    refine RG.op (ok_move (ht rfl)) rfl ?_
    refine RG.opGf rfl rfl rfl rfl (fun hg => ok_move (ht rfl)) ?_
    refine RG.opGf rfl rfl rfl rfl (fun hg => ok_fieldAddr fd24_0 rfl flDCatalog_0 rfl (ht rfl)) ?_
    refine RG.opGf rfl rfl rfl rfl (fun hg => ok_load ti22 rfl rfl (htO rfl hg)) ?_
    refine RG.opGf rfl rfl rfl rfl (fun hg => ok_lenSl Tryz.underlying22 (htO rfl hg)) ?_
    refine RG.opGf rfl rfl rfl rfl (fun hg => ok_geq (htO rfl hg) (htO rfl hg)) ?_
    refine RG.op (ok_pickOr (ht rfl) (fun hb => (htO rfl (noti hb)))) rfl ?_
    refine RG.op (ok_move (ht rfl)) rfl ?_
    refine RG.opGf rfl rfl rfl rfl (fun hg => ok_move (ht rfl)) ?_
    refine RG.opGf rfl rfl rfl rfl (fun hg => ok_lss (htO rfl hg) hI) ?_
    refine RG.op (ok_pickOr (ht rfl) (fun hb => (htO rfl (noti hb)))) rfl ?_
    refine RG.op (ok_move (ht rfl)) rfl ?_
    refine RG.opGf rfl rfl rfl rfl (fun hg => ok_move (ht rfl)) ?_
    refine RG.opGf rfl rfl rfl rfl (fun hg => ok_gtr (htO rfl hg) hI) ?_
    refine RG.op (ok_pickOr (ht rfl) (fun hb => (htO rfl (noti hb)))) rfl ?_
    refine RG.op (ok_move (ht rfl)) rfl ?_
    obtain ⟨t, q_t, h⟩ := bs h
    refine RG.opGf rfl rfl rfl rfl (fun hg => ok_fieldAddr fd24_0 rfl flDCatalog_0 rfl (ht rfl)) ?_
    refine RG.opGf rfl rfl rfl rfl (fun hg => ok_load ti22 rfl rfl (htO rfl hg)) ?_
    refine RG.opGf rfl rfl rfl rfl (fun hg => ok_move (ht rfl)) ?_
    obtain ⟨e, h1t, h0t⟩ := og q_t
    have q_eg := fun hb => (h1t hb).1
    refine RG.opGf rfl rfl rfl rfl (fun hg => ok_indexAddr Tryz.underlying22 ti53 rfl (htO rfl hg) (htO rfl hg) (q_eg hg)) ?_
    refine RG.opGf rfl rfl rfl rfl (fun hg => ok_load ti53 rfl rfl (htO rfl hg)) ?_
    refine RG.opGf rfl rfl rfl rfl (fun hg => ok_move (ht rfl)) ?_
    obtain ⟨r2, h1t⟩ := og2 (fun hb => (h1t hb).2)
    have q_r2g := fun hb => (h1t hb).1
    refine RG.opGf rfl rfl rfl rfl (fun hg => ok_call cb48 (f48_ok _ _ (q_r2g hg)) ⟨(htO rfl hg), (htO rfl hg), trivial⟩) ?_
    refine RG.opGf rfl rfl rfl rfl (fun hg => ok_not (htO rfl hg)) ?_
    refine RG.op (ok_pickOrM (ht rfl) (fun hb => (htO rfl (noti hb))) (fun hb => (h1t hb).2) h0t) rfl ?_
    refine RG.nil ?_
    refine AT.next ?_
    refine CG.cond (ht rfl) (fun hc => ?_) (fun hc => ?_)
    · have h := ct h hc
      refine CG.seq ?_
      refine CG.region ?_
      refine RG.op (ok_assign hI) rfl ?_
      refine RG.op (ok_assign hI) rfl ?_
      refine RG.nil ?_
      refine AT.next ?_
      refine CG.ret ?_
      refine AT.then_ret ?_
      cases so h
      exact AT.ret2 rfl rfl rfl
    · have h := cf h hc
      refine CG.skip ?_
      refine AT.next ?_
      refine CG.seq ?_
      refine CG.region ?_
      refine RG.op (ok_fieldAddr fd24_0 rfl flDCatalog_0 rfl (ht rfl)) rfl ?_
      refine RG.op (ok_load ti22 rfl rfl (ht rfl)) rfl ?_
      refine RG.op (ok_move (ht rfl)) rfl ?_
      obtain ⟨e1, q_e1, h⟩ := bs h
      refine RG.op (ok_indexAddr Tryz.underlying22 ti53 rfl (ht rfl) (ht rfl) q_e1) rfl ?_
      refine RG.op (ok_load ti53 rfl rfl (ht rfl)) rfl ?_
      refine RG.op (ok_move (ht rfl)) rfl ?_
      refine RG.op (ok_move (ht rfl)) rfl ?_
      obtain ⟨r3, q_r3, h⟩ := bs h
      refine RG.op (ok_call cb43 (f43_ok _ _ _ q_r3) ⟨(ht rfl), (ht rfl), (ht rfl), trivial⟩) rfl ?_
      refine RG.op (ok_assign (ht rfl)) rfl ?_
      refine RG.op (ok_assign hI) rfl ?_
      refine RG.nil ?_
      refine AT.next ?_
      refine CG.ret ?_
      cases so h
      exact AT.ret2 rfl rfl rfl

set_option maxRecDepth 100000 in
theorem f23_ok (c : DCatalog) (l : DLayout) (table : Int) (from1 : Int) (at1 : Int) (to1 : Int) {R : DLayout × Int} (h : place_Move c l table from1 at1 to1 = some R) : Spec Tryz.prog 23 [tD rpDCatalog c, tD rpDLayout l, tD (rI .i64) table, tD (rI .i64) from1, tD (rI .i64) at1, tD (rI .i64) to1] (tT [tD rpDLayout R.1, tD (rI .i64) R.2]) := by
  refine Spec.ofM Tryz.func23 rfl rfl rfl fun w0 S0 => ?_
  refine CG.seq ?_
  refine CG.region ?_
  refine RG.op (ok_box (ht rfl)) rfl ?_
  refine RG.op (ok_box (ht rfl)) rfl ?_
  refine RG.op (ok_box (ht rfl)) rfl ?_
  refine RG.op (ok_box (ht rfl)) rfl ?_
  refine RG.op (ok_box (ht rfl)) rfl ?_
  refine RG.alloc (r := rpDLayout) (x := (⟨[]⟩ : DLayout)) ti36 (fun _ => zrDLayout _) rfl (fun b => ?_)
  refine RG.op (ok_assign hI) rfl ?_
  refine RG.nil ?_
  refine AT.next ?_
  refine CG.seq ?_
  refine CG.seq ?_
  refine CG.region ?_
  refine RG.op (ok_load ti24 rfl rfl (ht rfl)) rfl ?_
  refine RG.op (ok_load ti36 rfl rfl (ht rfl)) rfl ?_
  obtain ⟨r, q_r, h⟩ := bs h
  refine RG.op (ok_call cb52 (f52_ok _ _ q_r) ⟨(ht rfl), (ht rfl), trivial⟩) rfl ?_
  refine RG.op (ok_assign (ht rfl)) rfl ?_
  refine RG.nil ?_
  refine AT.next ?_
  refine CG.seq ?_
  refine CG.region ?_
  refine RG.op (ok_move (ht rfl)) rfl ?_
  refine RG.op (ok_neqI (ht rfl) hI) rfl ?_
  refine RG.nil ?_
  refine AT.next ?_
  refine CG.cond (ht rfl) (fun hc => ?_) (fun hc => ?_)
  · have h := ct h hc
    refine CG.seq ?_
    refine CG.region ?_
    refine RG.op (ok_build (y := (⟨[]⟩ : DLayout)) ti36 fs36 zrDLayout (rfl)) rfl ?_
    refine RG.op (ok_move (ht rfl)) rfl ?_
    refine RG.storeB ti36 rfl sfld_whole rfl (ht rfl) (ht rfl) ?_
    refine RG.op (ok_assign (ht rfl)) rfl ?_
    refine RG.nil ?_
    refine AT.next ?_
    refine CG.ret ?_
    refine AT.then_ret ?_
    refine AT.settleB 12 rfl ?_
    refine AT.shut0 ?_
    cases so h
    exact AT.retL (ts := [tD rpDLayout (⟨[]⟩ : DLayout), tD (rI .i64) r]) (rvs := [.cell 12 36, .tmp 13]) rfl rfl ⟨res_cell ti36 rfl rfl rfl, res_tmp rfl, trivial⟩
  · have h := cf h hc
    refine CG.skip ?_
    refine AT.next ?_
    refine CG.seq ?_
    refine CG.region ?_
    refine RG.op (ok_load ti36 rfl rfl (ht rfl)) rfl ?_
    refine RG.op (ok_load ti3 rfl rfl (ht rfl)) rfl ?_
    refine RG.op (ok_load ti3 rfl rfl (ht rfl)) rfl ?_
    obtain ⟨r1, q_r1, h⟩ := bs h
    refine RG.op (ok_call cb21 (f21_ok _ _ _ q_r1) ⟨(ht rfl), (ht rfl), (ht rfl), trivial⟩) rfl ?_
    refine RG.op (ok_assign (ht rfl)) rfl ?_
    refine RG.nil ?_
    refine AT.next ?_
    refine CG.seq ?_
    refine CG.block ?_
    refine CG.seq ?_
    refine CG.region ?_
    refine RG.op (ok_load ti3 rfl rfl (ht rfl)) rfl ?_
    refine RG.op (ok_lss (ht rfl) hI) rfl ?_
    refine RG.op (ok_move (ht rfl)) rfl ?_
    refine RG.opGf rfl rfl rfl rfl (fun hg => ok_load ti3 rfl rfl (ht rfl)) ?_
    refine RG.opGf rfl rfl rfl rfl (fun hg => ok_fieldAddr fd24_0 rfl flDCatalog_0 rfl (ht rfl)) ?_
    refine RG.opGf rfl rfl rfl rfl (fun hg => ok_load ti22 rfl rfl (htO rfl hg)) ?_
    refine RG.opGf rfl rfl rfl rfl (fun hg => ok_lenSl Tryz.underlying22 (htO rfl hg)) ?_
    refine RG.opGf rfl rfl rfl rfl (fun hg => ok_geq (htO rfl hg) (htO rfl hg)) ?_
    refine RG.op (ok_pickOr (ht rfl) (fun hb => (htO rfl (noti hb)))) rfl ?_
    refine RG.op (ok_move (ht rfl)) rfl ?_
    refine RG.opGf rfl rfl rfl rfl (fun hg => ok_load ti3 rfl rfl (ht rfl)) ?_
    refine RG.opGf rfl rfl rfl rfl (fun hg => ok_lss (htO rfl hg) hI) ?_
    refine RG.op (ok_pickOr (ht rfl) (fun hb => (htO rfl (noti hb)))) rfl ?_
    refine RG.op (ok_move (ht rfl)) rfl ?_
    refine RG.opGf rfl rfl rfl rfl (fun hg => ok_load ti3 rfl rfl (ht rfl)) ?_
    refine RG.opGf rfl rfl rfl rfl (fun hg => ok_move (ht rfl)) ?_
    refine RG.opGf rfl rfl rfl rfl (fun hg => ok_lenSl Tryz.underlying54 (htO rfl hg)) ?_
    refine RG.opGf rfl rfl rfl rfl (fun hg => ok_geq (htO rfl hg) (htO rfl hg)) ?_
    refine RG.op (ok_pickOr (ht rfl) (fun hb => (htO rfl (noti hb)))) rfl ?_
    refine RG.op (ok_move (ht rfl)) rfl ?_
    refine RG.opGf rfl rfl rfl rfl (fun hg => ok_move (ht rfl)) ?_
    refine RG.opGf rfl rfl rfl rfl (fun hg => ok_lss (htO rfl hg) hI) ?_
    refine RG.op (ok_pickOr (ht rfl) (fun hb => (htO rfl (noti hb)))) rfl ?_
    refine RG.op (ok_move (ht rfl)) rfl ?_
    refine RG.opGf rfl rfl rfl rfl (fun hg => ok_move (ht rfl)) ?_
    refine RG.opGf rfl rfl rfl rfl (fun hg => ok_fieldAddr fd36_0 rfl flDLayout_0 rfl (ht rfl)) ?_
    refine RG.opGf rfl rfl rfl rfl (fun hg => ok_load ti34 rfl rfl (htO rfl hg)) ?_
    refine RG.opGf rfl rfl rfl rfl (fun hg => ok_lenSl Tryz.underlying34 (htO rfl hg)) ?_
    refine RG.opGf rfl rfl rfl rfl (fun hg => ok_gtr (htO rfl hg) (htO rfl hg)) ?_
    refine RG.op (ok_pickOr (ht rfl) (fun hb => (htO rfl (noti hb)))) rfl ?_
    refine RG.op (ok_assign (ht rfl)) rfl ?_
    refine RG.nil ?_
    refine AT.next ?_
    refine CG.cond (ht rfl) (fun hc => ?_) (fun hc => ?_)
    · have h := ct h hc
      refine CG.seq ?_
      refine CG.region ?_
      refine RG.op (ok_build (y := (⟨[]⟩ : DLayout)) ti36 fs36 zrDLayout (rfl)) rfl ?_
      refine RG.storeB ti36 rfl sfld_whole rfl (ht rfl) (ht rfl) ?_
      refine RG.op (ok_assign hI) rfl ?_
      refine RG.nil ?_
      refine AT.next ?_
      refine CG.ret ?_
      refine AT.in_ret (AT.then_ret ?_)
      refine AT.settleB 12 rfl ?_
      refine AT.shut0 ?_
      cases so h
      exact AT.retL (ts := [tD rpDLayout (⟨[]⟩ : DLayout), tD (rI .i64) (2 : Int)]) (rvs := [.cell 12 36, .tmp 13]) rfl rfl ⟨res_cell ti36 rfl rfl rfl, res_tmp rfl, trivial⟩
    · have h := cf h hc
      refine CG.seq ?_
      refine CG.region ?_
      refine RG.op (ok_fieldAddr fd24_0 rfl flDCatalog_0 rfl (ht rfl)) rfl ?_
      refine RG.op (ok_load ti22 rfl rfl (ht rfl)) rfl ?_
      refine RG.op (ok_load ti3 rfl rfl (ht rfl)) rfl ?_
      obtain ⟨e, q_e, h⟩ := bs h
      refine RG.op (ok_indexAddr Tryz.underlying22 ti53 rfl (ht rfl) (ht rfl) q_e) rfl ?_
      refine RG.op (ok_fieldAddr fd53_2 rfl flDTable_2 rfl (ht rfl)) rfl ?_
      refine RG.op (ok_load ti28 rfl rfl (ht rfl)) rfl ?_
      refine RG.op (ok_lenSl Tryz.underlying28 (ht rfl)) rfl ?_
      refine RG.op (ok_gtr (ht rfl) hI) rfl ?_
      refine RG.op (ok_move (ht rfl)) rfl ?_
      refine RG.opGt rfl rfl rfl rfl (fun hg => ok_move (ht rfl)) ?_
      refine RG.opGt rfl rfl rfl rfl (fun hg => ok_load ti3 rfl rfl (ht rfl)) ?_
      refine RG.opGt rfl rfl rfl rfl (fun hg => ok_neqI (htO rfl hg) (htO rfl hg)) ?_
      refine RG.op (ok_pickAnd (ht rfl) (fun hb => (htO rfl hb))) rfl ?_
      refine RG.op (ok_assign (ht rfl)) rfl ?_
      refine RG.nil ?_
      refine AT.next ?_
      refine CG.cond (ht rfl) (fun hc => ?_) (fun hc => ?_)
      · have h := ct h hc
        refine CG.seq ?_
        refine CG.region ?_
        refine RG.op (ok_build (y := (⟨[]⟩ : DLayout)) ti36 fs36 zrDLayout (rfl)) rfl ?_
        refine RG.storeB ti36 rfl sfld_whole rfl (ht rfl) (ht rfl) ?_
        refine RG.op (ok_assign hI) rfl ?_
        refine RG.nil ?_
        refine AT.next ?_
        refine CG.ret ?_
        refine AT.in_ret (AT.then_ret ?_)
        refine AT.settleB 12 rfl ?_
        refine AT.shut0 ?_
        cases so h
        exact AT.retL (ts := [tD rpDLayout (⟨[]⟩ : DLayout), tD (rI .i64) (271 : Int)]) (rvs := [.cell 12 36, .tmp 13]) rfl rfl ⟨res_cell ti36 rfl rfl rfl, res_tmp rfl, trivial⟩
      · have h := cf h hc
        refine CG.skip ?_
        refine AT.in_normal ?_
        refine AT.next ?_
        refine CG.seq ?_
        refine CG.region ?_
        refine RG.op (ok_load ti24 rfl rfl (ht rfl)) rfl ?_
        refine RG.op (ok_fieldAddr fd36_0 rfl flDLayout_0 rfl (ht rfl)) rfl ?_
        refine RG.op (ok_load ti34 rfl rfl (ht rfl)) rfl ?_
        refine RG.op (ok_lenSl Tryz.underlying34 (ht rfl)) rfl ?_
        obtain ⟨r2, q_r2, h⟩ := bs h
        refine RG.callM [] _ rfl cb42 (f42_n _ _ q_r2) ⟨(ht rfl), (ht rfl), trivial⟩ rfl (fun i => ?_)
        refine (show RG _ _ _ _ [nst (fun y : DBase => y.Tables) (rSl rpDValue) 27 54 45 (i.h 0).1 (i.h 0).2 r2.Parts.length i.ng r2.Parts none, bx rpDLayout 36 b (⟨[]⟩ : DLayout)] ((81, tV (.agg #[oslV (i.h 0).1 (i.h 0).2 r2.Parts.length])) :: _) from ?_)
        refine RG.alloc (r := rpOLayout_0) (x := mkOLayout_0 (⟨[]⟩ : DLayout) (oslV none 0 0)) ti36 zrOLayout_0 rfl (fun b1 => ?_)
        refine RG.storeFX (q := rpOLayout_0) (y := mkOLayout_0 (⟨[]⟩ : DLayout) (oslV (i.h 0).1 (i.h 0).2 r2.Parts.length)) (x' := mkOLayout_0 (⟨[]⟩ : DLayout) (oslV (i.h 0).1 (i.h 0).2 r2.Parts.length)) ti36 rfl (sfx_of sfld_whole) rfl (ht rfl) (hH rfl (fun _ => ⟨rfl, osl_one _ _ _⟩) (ht rfl)) ?_
        refine RG.nil ?_
        refine AT.next ?_
        refine CG.seq ?_
        refine CG.seq ?_
        refine CG.region ?_
        refine RG.op (ok_load ti36 rfl rfl (ht rfl)) rfl ?_
        obtain ⟨it, q_it, h⟩ := bs h
        refine RG.callIt cb50 (f50_itr _ q_it) ⟨(ht rfl), trivial⟩ rfl (fun v fp => ?_)
        refine RG.nil ?_
        refine AT.next ?_
        refine CG.block ?_
        obtain ⟨r3, q_r3, h⟩ := bs h
        refine CG.itU ?_
        refine CG.rangeX (fun (ix : NG × List DBase) => [bx rpOLayout_0 36 b1 (mkOLayout_0 (⟨[]⟩ : DLayout) (oslV (i.h 0).1 (i.h 0).2 r2.Parts.length)), nst (fun y : DBase => y.Tables) (rSl rpDValue) 27 54 45 (i.h 0).1 (i.h 0).2 r2.Parts.length ix.1 ix.2 none, bx rpDLayout 36 b (⟨[]⟩ : DLayout)]) (fun (ix : NG × List DBase) => (ix.2)) (fun _ => .ret) rfl (ht rfl) (i.ng, r2.Parts) rfl q_r3 (fun _ => rfl) rfl (fun ix x r4 h lp rec1 _ _ _ => ?_) (fun i1 j hi bd => ⟨fun hj => ?_, fun _ hj => ?_⟩)
        · obtain ⟨g, x1⟩ := ix
          replace h : place_Move_b1 table from1 at1 x x1 = some r4 := h
          refine (show CG _ _ _ [recP lp rec1 .ready none, bx rpOLayout_0 36 b1 (mkOLayout_0 (⟨[]⟩ : DLayout) (oslV (i.h 0).1 (i.h 0).2 r2.Parts.length)), nst (fun y : DBase => y.Tables) (rSl rpDValue) 27 54 45 (i.h 0).1 (i.h 0).2 r2.Parts.length g x1 none, bx rpDLayout 36 b (⟨[]⟩ : DLayout)] _ from ?_)
          refine CG.sub (G' := [(0, tD rpDCatalog c), (1, tD rpDLayout l), (2, tD (rI .i64) table), (3, tD (rI .i64) from1), (4, tD (rI .i64) at1), (5, tD (rI .i64) to1), (6, tPtr rpDCatalog c), (7, tPtr rpDLayout l), (8, tPtr (rI .i64) table), (9, tPtr (rI .i64) from1), (10, tPtr (rI .i64) at1), (12, tV (bptr b 0)), (13, tD (rI .i64) (0 : Int)), (14, tD (rI .i64) r), (15, tD (rSl (rSl rpDValue)) r1), (16, tV (bptr b1 0)), (19, tD rpDCatalog c), (20, tD rpDLayout l), (21, tD (rI .i64) r), (22, tD (rI .i64) r), (23, tD rB (r != (0 : Int))), (26, tD rpDLayout l), (27, tD (rI .i64) from1), (28, tD (rI .i64) table), (29, tD (rSl (rSl rpDValue)) r1), (30, tD rB ((((((decide (table < (0 : Int))) || (decide ((c.Tables.length : Int) ≤ table))) || (decide (at1 < (0 : Int)))) || (decide ((r1.length : Int) ≤ at1))) || (decide (to1 < (1 : Int)))) || (decide ((l.Parts.length : Int) < to1)))), (31, tD (rI .i64) table), (32, tD rB (decide (table < (0 : Int)))), (33, tD rB (decide (table < (0 : Int)))), (34, tOpt (!(decide (table < (0 : Int)))) (tD (rI .i64) table)), (35, tOpt (!(decide (table < (0 : Int)))) (tPtr (rSl rpDTable) c.Tables)), (36, tOpt (!(decide (table < (0 : Int)))) (tD (rSl rpDTable) c.Tables)), (37, tOpt (!(decide (table < (0 : Int)))) (tD (rI .i64) (c.Tables.length : Int))), (38, tOpt (!(decide (table < (0 : Int)))) (tD rB (decide ((c.Tables.length : Int) ≤ table)))), (39, tD rB ((decide (table < (0 : Int))) || (decide ((c.Tables.length : Int) ≤ table)))), (40, tD rB ((decide (table < (0 : Int))) || (decide ((c.Tables.length : Int) ≤ table)))), (41, tOpt (!((decide (table < (0 : Int))) || (decide ((c.Tables.length : Int) ≤ table)))) (tD (rI .i64) at1)), (42, tOpt (!((decide (table < (0 : Int))) || (decide ((c.Tables.length : Int) ≤ table)))) (tD rB (decide (at1 < (0 : Int))))), (43, tD rB (((decide (table < (0 : Int))) || (decide ((c.Tables.length : Int) ≤ table))) || (decide (at1 < (0 : Int))))), (44, tD rB (((decide (table < (0 : Int))) || (decide ((c.Tables.length : Int) ≤ table))) || (decide (at1 < (0 : Int))))), (45, tOpt (!(((decide (table < (0 : Int))) || (decide ((c.Tables.length : Int) ≤ table))) || (decide (at1 < (0 : Int))))) (tD (rI .i64) at1)), (46, tOpt (!(((decide (table < (0 : Int))) || (decide ((c.Tables.length : Int) ≤ table))) || (decide (at1 < (0 : Int))))) (tD (rSl (rSl rpDValue)) r1)), (47, tOpt (!(((decide (table < (0 : Int))) || (decide ((c.Tables.length : Int) ≤ table))) || (decide (at1 < (0 : Int))))) (tD (rI .i64) (r1.length : Int))), (48, tOpt (!(((decide (table < (0 : Int))) || (decide ((c.Tables.length : Int) ≤ table))) || (decide (at1 < (0 : Int))))) (tD rB (decide ((r1.length : Int) ≤ at1)))), (49, tD rB ((((decide (table < (0 : Int))) || (decide ((c.Tables.length : Int) ≤ table))) || (decide (at1 < (0 : Int)))) || (decide ((r1.length : Int) ≤ at1)))), (50, tD rB ((((decide (table < (0 : Int))) || (decide ((c.Tables.length : Int) ≤ table))) || (decide (at1 < (0 : Int)))) || (decide ((r1.length : Int) ≤ at1)))), (51, tOpt (!((((decide (table < (0 : Int))) || (decide ((c.Tables.length : Int) ≤ table))) || (decide (at1 < (0 : Int)))) || (decide ((r1.length : Int) ≤ at1)))) (tD (rI .i64) to1)), (52, tOpt (!((((decide (table < (0 : Int))) || (decide ((c.Tables.length : Int) ≤ table))) || (decide (at1 < (0 : Int)))) || (decide ((r1.length : Int) ≤ at1)))) (tD rB (decide (to1 < (1 : Int))))), (53, tD rB (((((decide (table < (0 : Int))) || (decide ((c.Tables.length : Int) ≤ table))) || (decide (at1 < (0 : Int)))) || (decide ((r1.length : Int) ≤ at1))) || (decide (to1 < (1 : Int))))), (54, tD rB (((((decide (table < (0 : Int))) || (decide ((c.Tables.length : Int) ≤ table))) || (decide (at1 < (0 : Int)))) || (decide ((r1.length : Int) ≤ at1))) || (decide (to1 < (1 : Int))))), (55, tOpt (!(((((decide (table < (0 : Int))) || (decide ((c.Tables.length : Int) ≤ table))) || (decide (at1 < (0 : Int)))) || (decide ((r1.length : Int) ≤ at1))) || (decide (to1 < (1 : Int))))) (tD (rI .i64) to1)), (56, tOpt (!(((((decide (table < (0 : Int))) || (decide ((c.Tables.length : Int) ≤ table))) || (decide (at1 < (0 : Int)))) || (decide ((r1.length : Int) ≤ at1))) || (decide (to1 < (1 : Int))))) (tPtr (rSl rpDBase) l.Parts)), (57, tOpt (!(((((decide (table < (0 : Int))) || (decide ((c.Tables.length : Int) ≤ table))) || (decide (at1 < (0 : Int)))) || (decide ((r1.length : Int) ≤ at1))) || (decide (to1 < (1 : Int))))) (tD (rSl rpDBase) l.Parts)), (58, tOpt (!(((((decide (table < (0 : Int))) || (decide ((c.Tables.length : Int) ≤ table))) || (decide (at1 < (0 : Int)))) || (decide ((r1.length : Int) ≤ at1))) || (decide (to1 < (1 : Int))))) (tD (rI .i64) (l.Parts.length : Int))), (59, tOpt (!(((((decide (table < (0 : Int))) || (decide ((c.Tables.length : Int) ≤ table))) || (decide (at1 < (0 : Int)))) || (decide ((r1.length : Int) ≤ at1))) || (decide (to1 < (1 : Int))))) (tD rB (decide ((l.Parts.length : Int) < to1)))), (60, tD rB ((((((decide (table < (0 : Int))) || (decide ((c.Tables.length : Int) ≤ table))) || (decide (at1 < (0 : Int)))) || (decide ((r1.length : Int) ≤ at1))) || (decide (to1 < (1 : Int)))) || (decide ((l.Parts.length : Int) < to1)))), (62, tD rB ((decide ((0 : Int) < (e.Keys.length : Int))) && (to1 != from1))), (63, tPtr (rSl rpDTable) c.Tables), (64, tD (rSl rpDTable) c.Tables), (65, tD (rI .i64) table), (66, tPtr rpDTable e), (67, tPtr (rSl (rI .i64)) e.Keys), (68, tD (rSl (rI .i64)) e.Keys), (69, tD (rI .i64) (e.Keys.length : Int)), (70, tD rB (decide ((0 : Int) < (e.Keys.length : Int)))), (71, tD rB (decide ((0 : Int) < (e.Keys.length : Int)))), (72, tOpt (decide ((0 : Int) < (e.Keys.length : Int))) (tD (rI .i64) to1)), (73, tOpt (decide ((0 : Int) < (e.Keys.length : Int))) (tD (rI .i64) from1)), (74, tOpt (decide ((0 : Int) < (e.Keys.length : Int))) (tD rB (to1 != from1))), (75, tD rB ((decide ((0 : Int) < (e.Keys.length : Int))) && (to1 != from1))), (77, tD rpDCatalog c), (78, tPtr (rSl rpDBase) l.Parts), (79, tD (rSl rpDBase) l.Parts), (80, tD (rI .i64) (l.Parts.length : Int)), (81, tV (.agg #[oslV (i.h 0).1 (i.h 0).2 r2.Parts.length])), (82, tD rpDLayout l), (84, tD rpDcell x.1), (85, tD (rSl rpDValue) x.2)]) ?_ ⟨rfl, rfl, rfl, rfl, rfl, rfl, rfl, rfl, rfl, rfl, rfl, rfl, rfl, rfl, rfl, rfl, rfl, rfl, rfl, rfl, rfl, rfl, rfl, rfl, rfl, rfl, rfl, rfl, rfl, rfl, rfl, rfl, rfl, rfl, rfl, rfl, rfl, rfl, rfl, rfl, rfl, rfl, rfl, rfl, rfl, rfl, rfl, rfl, rfl, rfl, rfl, rfl, rfl, rfl, rfl, rfl, rfl, rfl, rfl, rfl, rfl, rfl, rfl, rfl, rfl, rfl, rfl, rfl, rfl, rfl, rfl, rfl, rfl, rfl, rfl, rfl, rfl, rfl, trivial⟩
          refine CG.seq ?_
          refine CG.region ?_
          refine RG.alloc (r := rpDcell) (x := (⟨(0 : Int), (0 : Int), (0 : Int)⟩ : Dcell)) ti97 (fun _ => zrDcell _) rfl (fun b2 => ?_)
          refine RG.storeB ti97 rfl sfld_whole rfl (ht rfl) (ht rfl) ?_
          refine RG.settleB 17 rfl ?_
          refine RG.nil ?_
          refine AT.next ?_
          refine CG.region ?_
          refine RG.op (ok_assign (ht rfl)) rfl ?_
          refine RG.nil ?_
          refine AT.beginP ?_
          refine CG.block ?_
          refine CG.seq ?_
          refine CG.region ?_
          refine RG.op (ok_load ti97 rfl rfl (ht rfl)) rfl ?_
          refine RG.op (ok_load ti3 rfl rfl (ht rfl)) rfl ?_
          refine RG.op (ok_load ti3 rfl rfl (ht rfl)) rfl ?_
          refine RG.op (ok_load ti3 rfl rfl (ht rfl)) rfl ?_
          refine RG.op (ok_build (y := (⟨from1, table, at1⟩ : Dcell)) ti97 fs97 zrDcell (⟨_, _, _, _, _, rfl, sfDcell_0, rfl, (ht rfl), ⟨_, _, _, _, _, rfl, sfDcell_1, rfl, (ht rfl), ⟨_, _, _, _, _, rfl, sfDcell_2, rfl, (ht rfl), rfl⟩⟩⟩)) rfl ?_
          refine RG.op (ok_neqD eq97 (ht rfl) (ht rfl)) rfl ?_
          refine RG.nil ?_
          refine AT.next ?_
          refine CG.cond (ht rfl) (fun hc => ?_) (fun hc => ?_)
          · have h := ct h hc
            refine CG.region ?_
            refine RG.op (ok_loadH (r := rpOLayout_0) (y := mkOLayout_0 (⟨[]⟩ : DLayout) (oslV (i.h 0).1 (i.h 0).2 r2.Parts.length)) (v := oslV (i.h 0).1 (i.h 0).2 r2.Parts.length) ti36 rfl rfl (fun _ _ h => h.1) (.tail _ (.head _)) (ht rfl)) rfl ?_
            refine RG.op (ok_fieldAddr fd97_0 rfl flDcell_0 rfl (ht rfl)) rfl ?_
            refine RG.op (ok_load ti3 rfl rfl (ht rfl)) rfl ?_
            refine RG.op (ok_fieldAddr fd97_1 rfl flDcell_1 rfl (ht rfl)) rfl ?_
            refine RG.op (ok_load ti3 rfl rfl (ht rfl)) rfl ?_
            refine RG.op (ok_move (ht rfl)) rfl ?_
            refine RG.front2 ?_
            obtain ⟨x2, q_x2, h⟩ := bs h
            refine RG.callM [_] _ rfl cb44 (f44_n _ _ _ _ _ _ _ _ q_x2) ⟨(ht rfl), (ht rfl), (ht rfl), (ht rfl), trivial⟩ rfl (fun i2 => ?_)
            refine (show RG _ _ _ _ [nst (fun y : DBase => y.Tables) (rSl rpDValue) 27 54 45 (i.h 0).1 (i.h 0).2 r2.Parts.length i2.ng x2 none, recP lp rec1 .busy none, bx rpOLayout_0 36 b1 (mkOLayout_0 (⟨[]⟩ : DLayout) (oslV (i.h 0).1 (i.h 0).2 r2.Parts.length)), bx rpDLayout 36 b (⟨[]⟩ : DLayout)] ((98, tT []) :: _) from ?_)
            refine RG.nil ?_
            refine AT.in_normal ?_
            refine AT.front3 ?_
            refine AT.front1 ?_
            refine AT.front3 ?_
            refine AT.front3 ?_
            cases so h
            exact AT.endRoundP (i2.ng, x2) rfl rfl
          · have h := cf h hc
            refine CG.skip ?_
            refine AT.in_normal ?_
            cases so h
            exact AT.endRoundP (g, x1) rfl rfl
        · skip
          obtain ⟨g1, x3⟩ := i1
          obtain rfl : x3 = r3.1.2 := congrArg (fun q : List DBase => q) hi
          have h := ct h (by rw [hj]; rfl)
          refine (show AT _ _ _ [dfb bd, bx rpOLayout_0 36 b1 (mkOLayout_0 (⟨[]⟩ : DLayout) (oslV (i.h 0).1 (i.h 0).2 r2.Parts.length)), nst (fun y : DBase => y.Tables) (rSl rpDValue) 27 54 45 (i.h 0).1 (i.h 0).2 r2.Parts.length g1 r3.1.2 none, bx rpDLayout 36 b (⟨[]⟩ : DLayout)] _ from ?_)
          refine AT.sub (G' := [(0, tD rpDCatalog c), (1, tD rpDLayout l), (2, tD (rI .i64) table), (3, tD (rI .i64) from1), (4, tD (rI .i64) at1), (5, tD (rI .i64) to1), (6, tPtr rpDCatalog c), (7, tPtr rpDLayout l), (8, tPtr (rI .i64) table), (9, tPtr (rI .i64) from1), (10, tPtr (rI .i64) at1), (12, tV (bptr b 0)), (13, tD (rI .i64) (0 : Int)), (14, tD (rI .i64) r), (15, tD (rSl (rSl rpDValue)) r1), (16, tV (bptr b1 0)), (19, tD rpDCatalog c), (20, tD rpDLayout l), (21, tD (rI .i64) r), (22, tD (rI .i64) r), (23, tD rB (r != (0 : Int))), (26, tD rpDLayout l), (27, tD (rI .i64) from1), (28, tD (rI .i64) table), (29, tD (rSl (rSl rpDValue)) r1), (30, tD rB ((((((decide (table < (0 : Int))) || (decide ((c.Tables.length : Int) ≤ table))) || (decide (at1 < (0 : Int)))) || (decide ((r1.length : Int) ≤ at1))) || (decide (to1 < (1 : Int)))) || (decide ((l.Parts.length : Int) < to1)))), (31, tD (rI .i64) table), (32, tD rB (decide (table < (0 : Int)))), (33, tD rB (decide (table < (0 : Int)))), (34, tOpt (!(decide (table < (0 : Int)))) (tD (rI .i64) table)), (35, tOpt (!(decide (table < (0 : Int)))) (tPtr (rSl rpDTable) c.Tables)), (36, tOpt (!(decide (table < (0 : Int)))) (tD (rSl rpDTable) c.Tables)), (37, tOpt (!(decide (table < (0 : Int)))) (tD (rI .i64) (c.Tables.length : Int))), (38, tOpt (!(decide (table < (0 : Int)))) (tD rB (decide ((c.Tables.length : Int) ≤ table)))), (39, tD rB ((decide (table < (0 : Int))) || (decide ((c.Tables.length : Int) ≤ table)))), (40, tD rB ((decide (table < (0 : Int))) || (decide ((c.Tables.length : Int) ≤ table)))), (41, tOpt (!((decide (table < (0 : Int))) || (decide ((c.Tables.length : Int) ≤ table)))) (tD (rI .i64) at1)), (42, tOpt (!((decide (table < (0 : Int))) || (decide ((c.Tables.length : Int) ≤ table)))) (tD rB (decide (at1 < (0 : Int))))), (43, tD rB (((decide (table < (0 : Int))) || (decide ((c.Tables.length : Int) ≤ table))) || (decide (at1 < (0 : Int))))), (44, tD rB (((decide (table < (0 : Int))) || (decide ((c.Tables.length : Int) ≤ table))) || (decide (at1 < (0 : Int))))), (45, tOpt (!(((decide (table < (0 : Int))) || (decide ((c.Tables.length : Int) ≤ table))) || (decide (at1 < (0 : Int))))) (tD (rI .i64) at1)), (46, tOpt (!(((decide (table < (0 : Int))) || (decide ((c.Tables.length : Int) ≤ table))) || (decide (at1 < (0 : Int))))) (tD (rSl (rSl rpDValue)) r1)), (47, tOpt (!(((decide (table < (0 : Int))) || (decide ((c.Tables.length : Int) ≤ table))) || (decide (at1 < (0 : Int))))) (tD (rI .i64) (r1.length : Int))), (48, tOpt (!(((decide (table < (0 : Int))) || (decide ((c.Tables.length : Int) ≤ table))) || (decide (at1 < (0 : Int))))) (tD rB (decide ((r1.length : Int) ≤ at1)))), (49, tD rB ((((decide (table < (0 : Int))) || (decide ((c.Tables.length : Int) ≤ table))) || (decide (at1 < (0 : Int)))) || (decide ((r1.length : Int) ≤ at1)))), (50, tD rB ((((decide (table < (0 : Int))) || (decide ((c.Tables.length : Int) ≤ table))) || (decide (at1 < (0 : Int)))) || (decide ((r1.length : Int) ≤ at1)))), (51, tOpt (!((((decide (table < (0 : Int))) || (decide ((c.Tables.length : Int) ≤ table))) || (decide (at1 < (0 : Int)))) || (decide ((r1.length : Int) ≤ at1)))) (tD (rI .i64) to1)), (52, tOpt (!((((decide (table < (0 : Int))) || (decide ((c.Tables.length : Int) ≤ table))) || (decide (at1 < (0 : Int)))) || (decide ((r1.length : Int) ≤ at1)))) (tD rB (decide (to1 < (1 : Int))))), (53, tD rB (((((decide (table < (0 : Int))) || (decide ((c.Tables.length : Int) ≤ table))) || (decide (at1 < (0 : Int)))) || (decide ((r1.length : Int) ≤ at1))) || (decide (to1 < (1 : Int))))), (54, tD rB (((((decide (table < (0 : Int))) || (decide ((c.Tables.length : Int) ≤ table))) || (decide (at1 < (0 : Int)))) || (decide ((r1.length : Int) ≤ at1))) || (decide (to1 < (1 : Int))))), (55, tOpt (!(((((decide (table < (0 : Int))) || (decide ((c.Tables.length : Int) ≤ table))) || (decide (at1 < (0 : Int)))) || (decide ((r1.length : Int) ≤ at1))) || (decide (to1 < (1 : Int))))) (tD (rI .i64) to1)), (56, tOpt (!(((((decide (table < (0 : Int))) || (decide ((c.Tables.length : Int) ≤ table))) || (decide (at1 < (0 : Int)))) || (decide ((r1.length : Int) ≤ at1))) || (decide (to1 < (1 : Int))))) (tPtr (rSl rpDBase) l.Parts)), (57, tOpt (!(((((decide (table < (0 : Int))) || (decide ((c.Tables.length : Int) ≤ table))) || (decide (at1 < (0 : Int)))) || (decide ((r1.length : Int) ≤ at1))) || (decide (to1 < (1 : Int))))) (tD (rSl rpDBase) l.Parts)), (58, tOpt (!(((((decide (table < (0 : Int))) || (decide ((c.Tables.length : Int) ≤ table))) || (decide (at1 < (0 : Int)))) || (decide ((r1.length : Int) ≤ at1))) || (decide (to1 < (1 : Int))))) (tD (rI .i64) (l.Parts.length : Int))), (59, tOpt (!(((((decide (table < (0 : Int))) || (decide ((c.Tables.length : Int) ≤ table))) || (decide (at1 < (0 : Int)))) || (decide ((r1.length : Int) ≤ at1))) || (decide (to1 < (1 : Int))))) (tD rB (decide ((l.Parts.length : Int) < to1)))), (60, tD rB ((((((decide (table < (0 : Int))) || (decide ((c.Tables.length : Int) ≤ table))) || (decide (at1 < (0 : Int)))) || (decide ((r1.length : Int) ≤ at1))) || (decide (to1 < (1 : Int)))) || (decide ((l.Parts.length : Int) < to1)))), (62, tD rB ((decide ((0 : Int) < (e.Keys.length : Int))) && (to1 != from1))), (63, tPtr (rSl rpDTable) c.Tables), (64, tD (rSl rpDTable) c.Tables), (65, tD (rI .i64) table), (66, tPtr rpDTable e), (67, tPtr (rSl (rI .i64)) e.Keys), (68, tD (rSl (rI .i64)) e.Keys), (69, tD (rI .i64) (e.Keys.length : Int)), (70, tD rB (decide ((0 : Int) < (e.Keys.length : Int)))), (71, tD rB (decide ((0 : Int) < (e.Keys.length : Int)))), (72, tOpt (decide ((0 : Int) < (e.Keys.length : Int))) (tD (rI .i64) to1)), (73, tOpt (decide ((0 : Int) < (e.Keys.length : Int))) (tD (rI .i64) from1)), (74, tOpt (decide ((0 : Int) < (e.Keys.length : Int))) (tD rB (to1 != from1))), (75, tD rB ((decide ((0 : Int) < (e.Keys.length : Int))) && (to1 != from1))), (77, tD rpDCatalog c), (78, tPtr (rSl rpDBase) l.Parts), (79, tD (rSl rpDBase) l.Parts), (80, tD (rI .i64) (l.Parts.length : Int)), (81, tV (.agg #[oslV (i.h 0).1 (i.h 0).2 r2.Parts.length])), (82, tD rpDLayout l)]) ?_ ⟨rfl, rfl, rfl, rfl, rfl, rfl, rfl, rfl, rfl, rfl, rfl, rfl, rfl, rfl, rfl, rfl, rfl, rfl, rfl, rfl, rfl, rfl, rfl, rfl, rfl, rfl, rfl, rfl, rfl, rfl, rfl, rfl, rfl, rfl, rfl, rfl, rfl, rfl, rfl, rfl, rfl, rfl, rfl, rfl, rfl, rfl, rfl, rfl, rfl, rfl, rfl, rfl, rfl, rfl, rfl, rfl, rfl, rfl, rfl, rfl, rfl, rfl, rfl, rfl, rfl, rfl, rfl, rfl, rfl, rfl, rfl, rfl, rfl, rfl, rfl, rfl, trivial⟩
          refine AT.in_normal ?_
          refine AT.next ?_
          refine CG.seq ?_
          obtain ⟨e1, q_e1, h⟩ := bs h
          refine CG.drawM 7 (ts := [tV (.agg #[oslV (i.h 0).1 (i.h 0).2 r2.Parts.length]), tD (rI .i64) to1, tD (rI .i64) table, tD (rSl (rSl rpDValue)) r1, tD (rI .i64) at1, tPtr (rSl rpDValue) e1, tD (rSl rpDValue) e1]) mixed rfl rfl rfl
            ⟨⟨[⟨16, _, none⟩], _, rfl, ⟨rfl, trivial⟩, rfl, rfl, OpG.plain rfl (ok_loadH (r := rpOLayout_0) (y := mkOLayout_0 (⟨[]⟩ : DLayout) (oslV (i.h 0).1 (i.h 0).2 r2.Parts.length)) (v := oslV (i.h 0).1 (i.h 0).2 r2.Parts.length) ti36 rfl rfl (fun _ _ h => h.1) (.tail _ (.head _)) (ht rfl))⟩,
            ⟨⟨[⟨5, _, none⟩], _, rfl, ⟨rfl, trivial⟩, rfl, rfl, OpG.plain rfl (ok_move (ht rfl))⟩,
            ⟨⟨[⟨8, _, none⟩], _, rfl, ⟨rfl, trivial⟩, rfl, rfl, OpG.plain rfl (ok_load ti3 rfl rfl (ht rfl))⟩,
            ⟨⟨[⟨15, _, none⟩], _, rfl, ⟨rfl, trivial⟩, rfl, rfl, OpG.plain rfl (ok_move (ht rfl))⟩,
            ⟨⟨[⟨10, _, none⟩], _, rfl, ⟨rfl, trivial⟩, rfl, rfl, OpG.plain rfl (ok_load ti3 rfl rfl (ht rfl))⟩,
            ⟨⟨[⟨102, _, some 3⟩, ⟨103, _, some 4⟩], _, rfl, ⟨rfl, rfl, trivial⟩, rfl, rfl, OpG.plain rfl (ok_indexAddr Tryz.underlying54 ti45 rfl (ht rfl) (ht rfl) q_e1)⟩,
            ⟨⟨[⟨104, _, some 5⟩], _, rfl, ⟨rfl, trivial⟩, rfl, rfl, OpG.plain rfl (ok_load ti45 rfl rfl (ht rfl))⟩,
            trivial⟩⟩⟩⟩⟩⟩⟩ ?_
          refine RG.front2 ?_
          obtain ⟨x4, q_x4, h⟩ := bs h
          refine RG.callM [_] _ rfl cb44 (f44_n _ _ _ _ _ _ _ _ q_x4) ⟨(ht rfl), (ht rfl), (ht rfl), (ht rfl), trivial⟩ rfl (fun i3 => ?_)
          refine (show RG _ _ _ _ [nst (fun y : DBase => y.Tables) (rSl rpDValue) 27 54 45 (i.h 0).1 (i.h 0).2 r2.Parts.length i3.ng x4 none, dfb bd, bx rpOLayout_0 36 b1 (mkOLayout_0 (⟨[]⟩ : DLayout) (oslV (i.h 0).1 (i.h 0).2 r2.Parts.length)), bx rpDLayout 36 b (⟨[]⟩ : DLayout)] ((106, tT []) :: _) from ?_)
          refine RG.nil ?_
          refine AT.next ?_
          refine CG.seq ?_
          refine CG.region ?_
          refine RG.op (ok_loadH (r := rpOLayout_0) (y := mkOLayout_0 (⟨[]⟩ : DLayout) (oslV (i.h 0).1 (i.h 0).2 r2.Parts.length)) (v := oslV (i.h 0).1 (i.h 0).2 r2.Parts.length) ti36 rfl rfl (fun _ _ h => h.1) (.tail _ (.tail _ (.head _))) (ht rfl)) rfl ?_
          refine RG.settleN (q := rpDBase) (rl := rpDLayout) (y := (⟨x4⟩ : DLayout)) rfl (fun _ _ _ h => h) 107 rfl (fun _ h => ⟨_, rfl, h⟩) ?_
          refine RG.front2 ?_
          refine RG.storeB ti36 rfl sfld_whole rfl (ht rfl) (ht rfl) ?_
          refine RG.op (ok_assign hI) rfl ?_
          refine RG.nil ?_
          refine AT.next ?_
          refine CG.ret ?_
          refine AT.settleB 12 rfl ?_
          refine AT.front1 ?_
          refine AT.drop ?_
          refine AT.shut ?_
          refine AT.shut0 ?_
          cases so h
          exact AT.retL (ts := [tD rpDLayout (⟨x4⟩ : DLayout), tD (rI .i64) (0 : Int)]) (rvs := [.cell 12 36, .tmp 13]) rfl rfl ⟨res_cell ti36 rfl rfl rfl, res_tmp rfl, trivial⟩
        · skip
          obtain ⟨g2, x5⟩ := i1
          obtain rfl : x5 = r3.1.2 := congrArg (fun q : List DBase => q) hi
          have h := cf h (by rw [hj]; rfl)
          exact (nn h).elim

end Go.Proofs.YtegigakgcnhiaaaGreatDoor

