/- Facts of this claim: P7. -/
import Derived.Test.YtdhledkpgaeoaaaGreatDoorKeT
import Derived.Test.YtdhledkpgaeoaaaGreatDoorKeP6
namespace Go.Proofs.YtdhledkpgaeoaaaGreatDoor
open Go

set_option maxRecDepth 100000 in
theorem f136_ok (a1 : DValue) (b : DValue) {R : DValue × Int} (h : ref02_Equal a1 b = some R) : Spec Tryz.prog 136 [tD rpDValue a1, tD rpDValue b] (tT [tD rpDValue R.1, tD (rI .i64) R.2]) := by
  refine Spec.of Tryz.func136 rfl rfl rfl fun w0 S0 => ?_
  refine CG.seq ?_
  refine CG.region ?_
  refine RG.op (ok_box (ht rfl)) rfl ?_
  refine RG.op (ok_box (ht rfl)) rfl ?_
  refine RG.alloc (r := rpDValue) (x := (⟨(0 : Int), (0 : Int), (0 : Int), []⟩ : DValue)) ti33 (fun _ => zrDValue _) rfl (fun b1 => ?_)
  refine RG.op (ok_assign hI) rfl ?_
  refine RG.nil ?_
  refine AT.next ?_
  refine CG.seq ?_
  refine CG.region ?_
  refine RG.op (ok_load ti33 rfl rfl (ht rfl)) rfl ?_
  refine RG.op (ok_load ti33 rfl rfl (ht rfl)) rfl ?_
  obtain ⟨r, q_r, h⟩ := bs h
  refine RG.op (ok_call cb155 (f155_ok _ _ q_r) ⟨(ht rfl), (ht rfl), trivial⟩) rfl ?_
  refine RG.op (ok_assign (ht rfl)) rfl ?_
  refine RG.nil ?_
  refine AT.next ?_
  refine CG.seq ?_
  refine CG.seq ?_
  refine CG.region ?_
  refine RG.op (ok_move (ht rfl)) rfl ?_
  refine RG.op (ok_neqI (ht rfl) hI) rfl ?_
  refine RG.op (ok_move (ht rfl)) rfl ?_
  refine RG.opGf rfl rfl rfl rfl (fun hg => ok_fieldAddr fd33_0 rfl flDValue_0 rfl (ht rfl)) ?_
  refine RG.opGf rfl rfl rfl rfl (fun hg => ok_load ti3 rfl rfl (htO rfl hg)) ?_
  refine RG.opGf rfl rfl rfl rfl (fun hg => ok_eqlI (htO rfl hg) hI) ?_
  refine RG.op (ok_pickOr (ht rfl) (fun hb => (htO rfl (noti hb)))) rfl ?_
  refine RG.op (ok_move (ht rfl)) rfl ?_
  refine RG.opGf rfl rfl rfl rfl (fun hg => ok_fieldAddr fd33_0 rfl flDValue_0 rfl (ht rfl)) ?_
  refine RG.opGf rfl rfl rfl rfl (fun hg => ok_load ti3 rfl rfl (htO rfl hg)) ?_
  refine RG.opGf rfl rfl rfl rfl (fun hg => ok_eqlI (htO rfl hg) hI) ?_
  refine RG.op (ok_pickOr (ht rfl) (fun hb => (htO rfl (noti hb)))) rfl ?_
  refine RG.nil ?_
  refine AT.next ?_
  refine CG.cond (ht rfl) (fun hc => ?_) (fun hc => ?_)
  · have h := ct h hc
    refine CG.seq ?_
    refine CG.region ?_
    refine RG.op (ok_build (y := (⟨(0 : Int), (0 : Int), (0 : Int), []⟩ : DValue)) ti33 fs33 zrDValue (rfl)) rfl ?_
    refine RG.op (ok_move (ht rfl)) rfl ?_
    refine RG.storeB ti33 rfl sfld_whole rfl (ht rfl) (ht rfl) ?_
    refine RG.op (ok_assign (ht rfl)) rfl ?_
    refine RG.nil ?_
    refine AT.next ?_
    refine CG.ret ?_
    refine AT.then_ret ?_
    refine AT.settleB 4 rfl ?_
    cases so h
    exact AT.retL (rvs := [.cell 4 33, .tmp 5]) rfl rfl ⟨res_cell ti33 rfl rfl rfl, res_tmp rfl, trivial⟩
  · have h := cf h hc
    refine CG.skip ?_
    refine AT.next ?_
    refine CG.seq ?_
    refine CG.region ?_
    refine RG.op (ok_load ti33 rfl rfl (ht rfl)) rfl ?_
    refine RG.op (ok_load ti33 rfl rfl (ht rfl)) rfl ?_
    obtain ⟨r1, q_r1, h⟩ := bs h
    refine RG.op (ok_call cb156 (f156_ok _ _ q_r1) ⟨(ht rfl), (ht rfl), trivial⟩) rfl ?_
    refine RG.op (ok_eqlI (ht rfl) hI) rfl ?_
    obtain ⟨r2, q_r2, h⟩ := bs h
    refine RG.op (ok_call cb94 (f94_ok _ q_r2) ⟨(ht rfl), trivial⟩) rfl ?_
    refine RG.storeB ti33 rfl sfld_whole rfl (ht rfl) (ht rfl) ?_
    refine RG.op (ok_assign hI) rfl ?_
    refine RG.nil ?_
    refine AT.next ?_
    refine CG.ret ?_
    refine AT.settleB 4 rfl ?_
    cases so h
    exact AT.retL (rvs := [.cell 4 33, .tmp 5]) rfl rfl ⟨res_cell ti33 rfl rfl rfl, res_tmp rfl, trivial⟩

set_option maxRecDepth 100000 in
theorem f137_ok (a1 : DValue) (b : DValue) {R : DValue × Int} (h : ref02_Less a1 b = some R) : Spec Tryz.prog 137 [tD rpDValue a1, tD rpDValue b] (tT [tD rpDValue R.1, tD (rI .i64) R.2]) := by
  refine Spec.of Tryz.func137 rfl rfl rfl fun w0 S0 => ?_
  refine CG.seq ?_
  refine CG.region ?_
  refine RG.op (ok_box (ht rfl)) rfl ?_
  refine RG.op (ok_box (ht rfl)) rfl ?_
  refine RG.alloc (r := rpDValue) (x := (⟨(0 : Int), (0 : Int), (0 : Int), []⟩ : DValue)) ti33 (fun _ => zrDValue _) rfl (fun b1 => ?_)
  refine RG.op (ok_assign hI) rfl ?_
  refine RG.nil ?_
  refine AT.next ?_
  refine CG.seq ?_
  refine CG.region ?_
  refine RG.op (ok_load ti33 rfl rfl (ht rfl)) rfl ?_
  refine RG.op (ok_load ti33 rfl rfl (ht rfl)) rfl ?_
  obtain ⟨r, q_r, h⟩ := bs h
  refine RG.op (ok_call cb155 (f155_ok _ _ q_r) ⟨(ht rfl), (ht rfl), trivial⟩) rfl ?_
  refine RG.op (ok_assign (ht rfl)) rfl ?_
  refine RG.nil ?_
  refine AT.next ?_
  refine CG.seq ?_
  refine CG.seq ?_
  refine CG.region ?_
  refine RG.op (ok_move (ht rfl)) rfl ?_
  refine RG.op (ok_neqI (ht rfl) hI) rfl ?_
  refine RG.op (ok_move (ht rfl)) rfl ?_
  refine RG.opGf rfl rfl rfl rfl (fun hg => ok_fieldAddr fd33_0 rfl flDValue_0 rfl (ht rfl)) ?_
  refine RG.opGf rfl rfl rfl rfl (fun hg => ok_load ti3 rfl rfl (htO rfl hg)) ?_
  refine RG.opGf rfl rfl rfl rfl (fun hg => ok_eqlI (htO rfl hg) hI) ?_
  refine RG.op (ok_pickOr (ht rfl) (fun hb => (htO rfl (noti hb)))) rfl ?_
  refine RG.op (ok_move (ht rfl)) rfl ?_
  refine RG.opGf rfl rfl rfl rfl (fun hg => ok_fieldAddr fd33_0 rfl flDValue_0 rfl (ht rfl)) ?_
  refine RG.opGf rfl rfl rfl rfl (fun hg => ok_load ti3 rfl rfl (htO rfl hg)) ?_
  refine RG.opGf rfl rfl rfl rfl (fun hg => ok_eqlI (htO rfl hg) hI) ?_
  refine RG.op (ok_pickOr (ht rfl) (fun hb => (htO rfl (noti hb)))) rfl ?_
  refine RG.nil ?_
  refine AT.next ?_
  refine CG.cond (ht rfl) (fun hc => ?_) (fun hc => ?_)
  · have h := ct h hc
    refine CG.seq ?_
    refine CG.region ?_
    refine RG.op (ok_build (y := (⟨(0 : Int), (0 : Int), (0 : Int), []⟩ : DValue)) ti33 fs33 zrDValue (rfl)) rfl ?_
    refine RG.op (ok_move (ht rfl)) rfl ?_
    refine RG.storeB ti33 rfl sfld_whole rfl (ht rfl) (ht rfl) ?_
    refine RG.op (ok_assign (ht rfl)) rfl ?_
    refine RG.nil ?_
    refine AT.next ?_
    refine CG.ret ?_
    refine AT.then_ret ?_
    refine AT.settleB 4 rfl ?_
    cases so h
    exact AT.retL (rvs := [.cell 4 33, .tmp 5]) rfl rfl ⟨res_cell ti33 rfl rfl rfl, res_tmp rfl, trivial⟩
  · have h := cf h hc
    refine CG.skip ?_
    refine AT.next ?_
    refine CG.seq ?_
    refine CG.region ?_
    refine RG.op (ok_load ti33 rfl rfl (ht rfl)) rfl ?_
    refine RG.op (ok_load ti33 rfl rfl (ht rfl)) rfl ?_
    obtain ⟨r1, q_r1, h⟩ := bs h
    refine RG.op (ok_call cb156 (f156_ok _ _ q_r1) ⟨(ht rfl), (ht rfl), trivial⟩) rfl ?_
    refine RG.op (ok_lss (ht rfl) hI) rfl ?_
    obtain ⟨r2, q_r2, h⟩ := bs h
    refine RG.op (ok_call cb94 (f94_ok _ q_r2) ⟨(ht rfl), trivial⟩) rfl ?_
    refine RG.storeB ti33 rfl sfld_whole rfl (ht rfl) (ht rfl) ?_
    refine RG.op (ok_assign hI) rfl ?_
    refine RG.nil ?_
    refine AT.next ?_
    refine CG.ret ?_
    refine AT.settleB 4 rfl ?_
    cases so h
    exact AT.retL (rvs := [.cell 4 33, .tmp 5]) rfl rfl ⟨res_cell ti33 rfl rfl rfl, res_tmp rfl, trivial⟩

set_option maxRecDepth 100000 in
theorem f95_ok (tag : Int) (a1 : DValue) (b : DValue) {R : DValue × Int} (h : ref10_compared tag a1 b = some R) : Spec Tryz.prog 95 [tD (rI .i64) tag, tD rpDValue a1, tD rpDValue b] (tT [tD rpDValue R.1, tD (rI .i64) R.2]) := by
  refine Spec.of Tryz.func95 rfl rfl rfl fun w0 S0 => ?_
  refine CG.seq ?_
  refine CG.region ?_
  refine RG.op (ok_box (ht rfl)) rfl ?_
  refine RG.op (ok_box (ht rfl)) rfl ?_
  refine RG.alloc (r := rpDValue) (x := (⟨(0 : Int), (0 : Int), (0 : Int), []⟩ : DValue)) ti33 (fun _ => zrDValue _) rfl (fun b1 => ?_)
  refine RG.op (ok_assign hI) rfl ?_
  refine RG.nil ?_
  refine AT.next ?_
  refine CG.seq ?_
  refine CG.seq ?_
  refine CG.region ?_
  refine RG.op (ok_move (ht rfl)) rfl ?_
  refine RG.nil ?_
  refine AT.next ?_
  refine CG.block ?_
  refine CG.seq ?_
  refine CG.region ?_
  refine RG.op (ok_eqlI (ht rfl) hI) rfl ?_
  refine RG.op (ok_assign (ht rfl)) rfl ?_
  refine RG.nil ?_
  refine AT.next ?_
  refine CG.cond (ht rfl) (fun hc => ?_) (fun hc => ?_)
  · have h := ct h hc
    refine CG.seq ?_
    refine CG.region ?_
    refine RG.op (ok_load ti33 rfl rfl (ht rfl)) rfl ?_
    refine RG.op (ok_load ti33 rfl rfl (ht rfl)) rfl ?_
    obtain ⟨r, q_r, h⟩ := bs h
    refine RG.op (ok_call cb136 (f136_ok _ _ q_r) ⟨(ht rfl), (ht rfl), trivial⟩) rfl ?_
    refine RG.op (ok_extract rfl (ht rfl)) rfl ?_
    refine RG.op (ok_extract rfl (ht rfl)) rfl ?_
    refine RG.storeB ti33 rfl sfld_whole rfl (ht rfl) (ht rfl) ?_
    refine RG.op (ok_assign (ht rfl)) rfl ?_
    refine RG.nil ?_
    refine AT.next ?_
    refine CG.ret ?_
    refine AT.in_ret (AT.then_ret ?_)
    refine AT.settleB 6 rfl ?_
    cases so h
    exact AT.retL (rvs := [.cell 6 33, .tmp 7]) rfl rfl ⟨res_cell ti33 rfl rfl rfl, res_tmp rfl, trivial⟩
  · have h := cf h hc
    refine CG.seq ?_
    refine CG.region ?_
    refine RG.op (ok_eqlI (ht rfl) hI) rfl ?_
    refine RG.op (ok_assign (ht rfl)) rfl ?_
    refine RG.nil ?_
    refine AT.next ?_
    refine CG.cond (ht rfl) (fun hc => ?_) (fun hc => ?_)
    · have h := ct h hc
      refine CG.seq ?_
      refine CG.region ?_
      refine RG.op (ok_load ti33 rfl rfl (ht rfl)) rfl ?_
      refine RG.op (ok_load ti33 rfl rfl (ht rfl)) rfl ?_
      obtain ⟨r1, q_r1, h⟩ := bs h
      refine RG.op (ok_call cb137 (f137_ok _ _ q_r1) ⟨(ht rfl), (ht rfl), trivial⟩) rfl ?_
      refine RG.op (ok_extract rfl (ht rfl)) rfl ?_
      refine RG.op (ok_extract rfl (ht rfl)) rfl ?_
      refine RG.storeB ti33 rfl sfld_whole rfl (ht rfl) (ht rfl) ?_
      refine RG.op (ok_assign (ht rfl)) rfl ?_
      refine RG.nil ?_
      refine AT.next ?_
      refine CG.ret ?_
      refine AT.in_ret (AT.then_ret ?_)
      refine AT.settleB 6 rfl ?_
      cases so h
      exact AT.retL (rvs := [.cell 6 33, .tmp 7]) rfl rfl ⟨res_cell ti33 rfl rfl rfl, res_tmp rfl, trivial⟩
    · have h := cf h hc
      refine CG.seq ?_
      refine CG.region ?_
      refine RG.op (ok_eqlI (ht rfl) hI) rfl ?_
      refine RG.op (ok_assign (ht rfl)) rfl ?_
      refine RG.nil ?_
      refine AT.next ?_
      refine CG.cond (ht rfl) (fun hc => ?_) (fun hc => ?_)
      · have h := ct h hc
        refine CG.seq ?_
        refine CG.region ?_
        refine RG.op (ok_load ti33 rfl rfl (ht rfl)) rfl ?_
        refine RG.op (ok_load ti33 rfl rfl (ht rfl)) rfl ?_
        obtain ⟨r2, q_r2, h⟩ := bs h
        refine RG.op (ok_call cb137 (f137_ok _ _ q_r2) ⟨(ht rfl), (ht rfl), trivial⟩) rfl ?_
        refine RG.op (ok_extract rfl (ht rfl)) rfl ?_
        refine RG.op (ok_extract rfl (ht rfl)) rfl ?_
        refine RG.storeB ti33 rfl sfld_whole rfl (ht rfl) (ht rfl) ?_
        refine RG.op (ok_assign (ht rfl)) rfl ?_
        refine RG.nil ?_
        refine AT.next ?_
        refine CG.ret ?_
        refine AT.in_ret (AT.then_ret ?_)
        refine AT.settleB 6 rfl ?_
        cases so h
        exact AT.retL (rvs := [.cell 6 33, .tmp 7]) rfl rfl ⟨res_cell ti33 rfl rfl rfl, res_tmp rfl, trivial⟩
      · have h := cf h hc
        refine CG.seq ?_
        refine CG.region ?_
        refine RG.op (ok_eqlI (ht rfl) hI) rfl ?_
        refine RG.op (ok_assign (ht rfl)) rfl ?_
        refine RG.nil ?_
        refine AT.next ?_
        refine CG.cond (ht rfl) (fun hc => ?_) (fun hc => ?_)
        · have h := ct h hc
          refine CG.seq ?_
          refine CG.region ?_
          refine RG.op (ok_load ti33 rfl rfl (ht rfl)) rfl ?_
          refine RG.op (ok_load ti33 rfl rfl (ht rfl)) rfl ?_
          obtain ⟨r3, q_r3, h⟩ := bs h
          refine RG.op (ok_call cb136 (f136_ok _ _ q_r3) ⟨(ht rfl), (ht rfl), trivial⟩) rfl ?_
          refine RG.op (ok_move (ht rfl)) rfl ?_
          refine RG.op (ok_extract rfl (ht rfl)) rfl ?_
          refine RG.op (ok_extract rfl (ht rfl)) rfl ?_
          refine RG.alloc (r := rpDValue) (x := (⟨(0 : Int), (0 : Int), (0 : Int), []⟩ : DValue)) ti33 (fun _ => zrDValue _) rfl (fun b2 => ?_)
          refine RG.storeB ti33 rfl sfld_whole rfl (ht rfl) (ht rfl) ?_
          refine RG.op (ok_assign (ht rfl)) rfl ?_
          refine RG.nil ?_
          refine AT.next ?_
          refine CG.seq ?_
          refine CG.region ?_
          refine RG.op (ok_loadB ti33 rfl rfl fld_whole (.head _) (ht rfl)) rfl ?_
          obtain ⟨r4, q_r4, h⟩ := bs h
          refine RG.op (ok_call cb91 (f91_ok _ q_r4) ⟨(ht rfl), trivial⟩) rfl ?_
          refine RG.op (ok_move (ht rfl)) rfl ?_
          refine RG.op (ok_extract rfl (ht rfl)) rfl ?_
          refine RG.op (ok_extract rfl (ht rfl)) rfl ?_
          refine RG.storeB ti33 rfl sfld_whole rfl (ht rfl) (ht rfl) ?_
          refine RG.nil ?_
          refine AT.next ?_
          refine CG.seq ?_
          refine CG.region ?_
          refine RG.op (ok_loadB ti33 rfl rfl fld_whole (.head _) (ht rfl)) rfl ?_
          refine RG.op (ok_move (ht rfl)) rfl ?_
          refine RG.front1 ?_
          refine RG.storeB ti33 rfl sfld_whole rfl (ht rfl) (ht rfl) ?_
          refine RG.op (ok_assign (ht rfl)) rfl ?_
          refine RG.nil ?_
          refine AT.next ?_
          refine CG.ret ?_
          refine AT.in_ret (AT.then_ret ?_)
          refine AT.settleB 6 rfl ?_
          refine AT.drop ?_
          cases so h
          exact AT.retL (rvs := [.cell 6 33, .tmp 7]) rfl rfl ⟨res_cell ti33 rfl rfl rfl, res_tmp rfl, trivial⟩
        · have h := cf h hc
          refine CG.seq ?_
          refine CG.region ?_
          refine RG.op (ok_eqlI (ht rfl) hI) rfl ?_
          refine RG.op (ok_assign (ht rfl)) rfl ?_
          refine RG.nil ?_
          refine AT.next ?_
          refine CG.cond (ht rfl) (fun hc => ?_) (fun hc => ?_)
          · have h := ct h hc
            refine CG.seq ?_
            refine CG.region ?_
            refine RG.op (ok_load ti33 rfl rfl (ht rfl)) rfl ?_
            refine RG.op (ok_load ti33 rfl rfl (ht rfl)) rfl ?_
            obtain ⟨r5, q_r5, h⟩ := bs h
            refine RG.op (ok_call cb137 (f137_ok _ _ q_r5) ⟨(ht rfl), (ht rfl), trivial⟩) rfl ?_
            refine RG.op (ok_move (ht rfl)) rfl ?_
            refine RG.op (ok_extract rfl (ht rfl)) rfl ?_
            refine RG.op (ok_extract rfl (ht rfl)) rfl ?_
            refine RG.alloc (r := rpDValue) (x := (⟨(0 : Int), (0 : Int), (0 : Int), []⟩ : DValue)) ti33 (fun _ => zrDValue _) rfl (fun b3 => ?_)
            refine RG.storeB ti33 rfl sfld_whole rfl (ht rfl) (ht rfl) ?_
            refine RG.op (ok_assign (ht rfl)) rfl ?_
            refine RG.nil ?_
            refine AT.next ?_
            refine CG.seq ?_
            refine CG.region ?_
            refine RG.op (ok_loadB ti33 rfl rfl fld_whole (.head _) (ht rfl)) rfl ?_
            obtain ⟨r6, q_r6, h⟩ := bs h
            refine RG.op (ok_call cb91 (f91_ok _ q_r6) ⟨(ht rfl), trivial⟩) rfl ?_
            refine RG.op (ok_move (ht rfl)) rfl ?_
            refine RG.op (ok_extract rfl (ht rfl)) rfl ?_
            refine RG.op (ok_extract rfl (ht rfl)) rfl ?_
            refine RG.storeB ti33 rfl sfld_whole rfl (ht rfl) (ht rfl) ?_
            refine RG.nil ?_
            refine AT.next ?_
            refine CG.seq ?_
            refine CG.region ?_
            refine RG.op (ok_loadB ti33 rfl rfl fld_whole (.head _) (ht rfl)) rfl ?_
            refine RG.op (ok_move (ht rfl)) rfl ?_
            refine RG.front1 ?_
            refine RG.storeB ti33 rfl sfld_whole rfl (ht rfl) (ht rfl) ?_
            refine RG.op (ok_assign (ht rfl)) rfl ?_
            refine RG.nil ?_
            refine AT.next ?_
            refine CG.ret ?_
            refine AT.in_ret (AT.then_ret ?_)
            refine AT.settleB 6 rfl ?_
            refine AT.drop ?_
            cases so h
            exact AT.retL (rvs := [.cell 6 33, .tmp 7]) rfl rfl ⟨res_cell ti33 rfl rfl rfl, res_tmp rfl, trivial⟩
          · have h := cf h hc
            refine CG.skip ?_
            refine AT.in_normal ?_
            refine AT.next ?_
            refine CG.seq ?_
            refine CG.region ?_
            refine RG.op (ok_load ti33 rfl rfl (ht rfl)) rfl ?_
            refine RG.op (ok_load ti33 rfl rfl (ht rfl)) rfl ?_
            obtain ⟨r7, q_r7, h⟩ := bs h
            refine RG.op (ok_call cb137 (f137_ok _ _ q_r7) ⟨(ht rfl), (ht rfl), trivial⟩) rfl ?_
            refine RG.op (ok_move (ht rfl)) rfl ?_
            refine RG.op (ok_extract rfl (ht rfl)) rfl ?_
            refine RG.op (ok_extract rfl (ht rfl)) rfl ?_
            refine RG.alloc (r := rpDValue) (x := (⟨(0 : Int), (0 : Int), (0 : Int), []⟩ : DValue)) ti33 (fun _ => zrDValue _) rfl (fun b4 => ?_)
            refine RG.storeB ti33 rfl sfld_whole rfl (ht rfl) (ht rfl) ?_
            refine RG.op (ok_assign (ht rfl)) rfl ?_
            refine RG.nil ?_
            refine AT.next ?_
            refine CG.seq ?_
            refine CG.region ?_
            refine RG.op (ok_loadB ti33 rfl rfl fld_whole (.head _) (ht rfl)) rfl ?_
            obtain ⟨r8, q_r8, h⟩ := bs h
            refine RG.op (ok_call cb91 (f91_ok _ q_r8) ⟨(ht rfl), trivial⟩) rfl ?_
            refine RG.op (ok_move (ht rfl)) rfl ?_
            refine RG.op (ok_extract rfl (ht rfl)) rfl ?_
            refine RG.op (ok_extract rfl (ht rfl)) rfl ?_
            refine RG.storeB ti33 rfl sfld_whole rfl (ht rfl) (ht rfl) ?_
            refine RG.nil ?_
            refine AT.next ?_
            refine CG.seq ?_
            refine CG.region ?_
            refine RG.op (ok_loadB ti33 rfl rfl fld_whole (.head _) (ht rfl)) rfl ?_
            refine RG.op (ok_move (ht rfl)) rfl ?_
            refine RG.front1 ?_
            refine RG.storeB ti33 rfl sfld_whole rfl (ht rfl) (ht rfl) ?_
            refine RG.op (ok_assign (ht rfl)) rfl ?_
            refine RG.nil ?_
            refine AT.next ?_
            refine CG.ret ?_
            refine AT.settleB 6 rfl ?_
            refine AT.drop ?_
            cases so h
            exact AT.retL (rvs := [.cell 6 33, .tmp 7]) rfl rfl ⟨res_cell ti33 rfl rfl rfl, res_tmp rfl, trivial⟩

set_option maxRecDepth 100000 in
theorem f49_ok (tag : Int) (a1 : DValue) (b : DValue) {R : DValue × Int} (h : ref10_does tag a1 b = some R) : Spec Tryz.prog 49 [tD (rI .i64) tag, tD rpDValue a1, tD rpDValue b] (tT [tD rpDValue R.1, tD (rI .i64) R.2]) := by
  refine Spec.of Tryz.func49 rfl rfl rfl fun w0 S0 => ?_
  refine CG.seq ?_
  refine CG.region ?_
  refine RG.op (ok_box (ht rfl)) rfl ?_
  refine RG.op (ok_box (ht rfl)) rfl ?_
  refine RG.alloc (r := rpDValue) (x := (⟨(0 : Int), (0 : Int), (0 : Int), []⟩ : DValue)) ti33 (fun _ => zrDValue _) rfl (fun b1 => ?_)
  refine RG.op (ok_assign hI) rfl ?_
  refine RG.nil ?_
  refine AT.next ?_
  refine CG.seq ?_
  refine CG.seq ?_
  refine CG.region ?_
  refine RG.op (ok_move (ht rfl)) rfl ?_
  refine RG.nil ?_
  refine AT.next ?_
  refine CG.block ?_
  refine CG.seq ?_
  refine CG.region ?_
  refine RG.op (ok_eqlI (ht rfl) hI) rfl ?_
  refine RG.op (ok_assign (ht rfl)) rfl ?_
  refine RG.nil ?_
  refine AT.next ?_
  refine CG.cond (ht rfl) (fun hc => ?_) (fun hc => ?_)
  · have h := ct h hc
    refine CG.seq ?_
    obtain ⟨r, q_r, h⟩ := bs h
    obtain ⟨r1, q_r1, h⟩ := bs h
    refine CG.drawM 5 (ts := [tD rpDValue r, tD rpDValue a1, tT [tD rpDValue r1.1, tD (rI .i64) r1.2], tD rpDValue r1.1, tD (rI .i64) r1.2]) mixed rfl rfl rfl
      ⟨⟨[], _, rfl, trivial, rfl, rfl, OpG.plain rfl (ok_call cb90 (f90_ok _ q_r) ⟨hI, trivial⟩)⟩,
      ⟨⟨[⟨4, _, none⟩], _, rfl, ⟨rfl, trivial⟩, rfl, rfl, OpG.plain rfl (ok_load ti33 rfl rfl (ht rfl))⟩,
      ⟨⟨[⟨11, _, some 0⟩, ⟨12, _, some 1⟩], _, rfl, ⟨rfl, rfl, trivial⟩, rfl, rfl, OpG.plain rfl (ok_call cb89 (f89_ok _ _ _ q_r1) ⟨hI, (ht rfl), (ht rfl), trivial⟩)⟩,
      ⟨⟨[⟨13, _, some 2⟩], _, rfl, ⟨rfl, trivial⟩, rfl, rfl, OpG.plain rfl (ok_extract rfl (ht rfl))⟩,
      ⟨⟨[⟨13, _, some 2⟩], _, rfl, ⟨rfl, trivial⟩, rfl, rfl, OpG.plain rfl (ok_extract rfl (ht rfl))⟩,
      trivial⟩⟩⟩⟩⟩ ?_
    refine RG.storeB ti33 rfl sfld_whole rfl (ht rfl) (ht rfl) ?_
    refine RG.op (ok_assign (ht rfl)) rfl ?_
    refine RG.nil ?_
    refine AT.next ?_
    refine CG.ret ?_
    refine AT.in_ret (AT.then_ret ?_)
    refine AT.settleB 6 rfl ?_
    cases so h
    exact AT.retL (rvs := [.cell 6 33, .tmp 7]) rfl rfl ⟨res_cell ti33 rfl rfl rfl, res_tmp rfl, trivial⟩
  · have h := cf h hc
    refine CG.seq ?_
    refine CG.region ?_
    refine RG.op (ok_eqlI (ht rfl) hI) rfl ?_
    refine RG.op (ok_assign (ht rfl)) rfl ?_
    refine RG.nil ?_
    refine AT.next ?_
    refine CG.cond (ht rfl) (fun hc => ?_) (fun hc => ?_)
    · have h := ct h hc
      refine CG.seq ?_
      refine CG.region ?_
      refine RG.op (ok_load ti33 rfl rfl (ht rfl)) rfl ?_
      refine RG.op (ok_load ti33 rfl rfl (ht rfl)) rfl ?_
      obtain ⟨r2, q_r2, h⟩ := bs h
      refine RG.op (ok_call cb89 (f89_ok _ _ _ q_r2) ⟨hI, (ht rfl), (ht rfl), trivial⟩) rfl ?_
      refine RG.op (ok_extract rfl (ht rfl)) rfl ?_
      refine RG.op (ok_extract rfl (ht rfl)) rfl ?_
      refine RG.storeB ti33 rfl sfld_whole rfl (ht rfl) (ht rfl) ?_
      refine RG.op (ok_assign (ht rfl)) rfl ?_
      refine RG.nil ?_
      refine AT.next ?_
      refine CG.ret ?_
      refine AT.in_ret (AT.then_ret ?_)
      refine AT.settleB 6 rfl ?_
      cases so h
      exact AT.retL (rvs := [.cell 6 33, .tmp 7]) rfl rfl ⟨res_cell ti33 rfl rfl rfl, res_tmp rfl, trivial⟩
    · have h := cf h hc
      refine CG.seq ?_
      refine CG.region ?_
      refine RG.op (ok_eqlI (ht rfl) hI) rfl ?_
      refine RG.op (ok_assign (ht rfl)) rfl ?_
      refine RG.nil ?_
      refine AT.next ?_
      refine CG.cond (ht rfl) (fun hc => ?_) (fun hc => ?_)
      · have h := ct h hc
        refine CG.seq ?_
        refine CG.region ?_
        refine RG.op (ok_load ti33 rfl rfl (ht rfl)) rfl ?_
        refine RG.op (ok_load ti33 rfl rfl (ht rfl)) rfl ?_
        obtain ⟨r3, q_r3, h⟩ := bs h
        refine RG.op (ok_call cb89 (f89_ok _ _ _ q_r3) ⟨hI, (ht rfl), (ht rfl), trivial⟩) rfl ?_
        refine RG.op (ok_extract rfl (ht rfl)) rfl ?_
        refine RG.op (ok_extract rfl (ht rfl)) rfl ?_
        refine RG.storeB ti33 rfl sfld_whole rfl (ht rfl) (ht rfl) ?_
        refine RG.op (ok_assign (ht rfl)) rfl ?_
        refine RG.nil ?_
        refine AT.next ?_
        refine CG.ret ?_
        refine AT.in_ret (AT.then_ret ?_)
        refine AT.settleB 6 rfl ?_
        cases so h
        exact AT.retL (rvs := [.cell 6 33, .tmp 7]) rfl rfl ⟨res_cell ti33 rfl rfl rfl, res_tmp rfl, trivial⟩
      · have h := cf h hc
        refine CG.seq ?_
        refine CG.region ?_
        refine RG.op (ok_eqlI (ht rfl) hI) rfl ?_
        refine RG.op (ok_assign (ht rfl)) rfl ?_
        refine RG.nil ?_
        refine AT.next ?_
        refine CG.cond (ht rfl) (fun hc => ?_) (fun hc => ?_)
        · have h := ct h hc
          refine CG.seq ?_
          refine CG.region ?_
          refine RG.op (ok_load ti33 rfl rfl (ht rfl)) rfl ?_
          refine RG.op (ok_load ti33 rfl rfl (ht rfl)) rfl ?_
          obtain ⟨r4, q_r4, h⟩ := bs h
          refine RG.op (ok_call cb89 (f89_ok _ _ _ q_r4) ⟨hI, (ht rfl), (ht rfl), trivial⟩) rfl ?_
          refine RG.op (ok_extract rfl (ht rfl)) rfl ?_
          refine RG.op (ok_extract rfl (ht rfl)) rfl ?_
          refine RG.storeB ti33 rfl sfld_whole rfl (ht rfl) (ht rfl) ?_
          refine RG.op (ok_assign (ht rfl)) rfl ?_
          refine RG.nil ?_
          refine AT.next ?_
          refine CG.ret ?_
          refine AT.in_ret (AT.then_ret ?_)
          refine AT.settleB 6 rfl ?_
          cases so h
          exact AT.retL (rvs := [.cell 6 33, .tmp 7]) rfl rfl ⟨res_cell ti33 rfl rfl rfl, res_tmp rfl, trivial⟩
        · have h := cf h hc
          refine CG.seq ?_
          refine CG.region ?_
          refine RG.op (ok_eqlI (ht rfl) hI) rfl ?_
          refine RG.op (ok_assign (ht rfl)) rfl ?_
          refine RG.nil ?_
          refine AT.next ?_
          refine CG.cond (ht rfl) (fun hc => ?_) (fun hc => ?_)
          · have h := ct h hc
            refine CG.seq ?_
            refine CG.region ?_
            refine RG.op (ok_load ti33 rfl rfl (ht rfl)) rfl ?_
            refine RG.op (ok_load ti33 rfl rfl (ht rfl)) rfl ?_
            obtain ⟨r5, q_r5, h⟩ := bs h
            refine RG.op (ok_call cb89 (f89_ok _ _ _ q_r5) ⟨hI, (ht rfl), (ht rfl), trivial⟩) rfl ?_
            refine RG.op (ok_extract rfl (ht rfl)) rfl ?_
            refine RG.op (ok_extract rfl (ht rfl)) rfl ?_
            refine RG.storeB ti33 rfl sfld_whole rfl (ht rfl) (ht rfl) ?_
            refine RG.op (ok_assign (ht rfl)) rfl ?_
            refine RG.nil ?_
            refine AT.next ?_
            refine CG.ret ?_
            refine AT.in_ret (AT.then_ret ?_)
            refine AT.settleB 6 rfl ?_
            cases so h
            exact AT.retL (rvs := [.cell 6 33, .tmp 7]) rfl rfl ⟨res_cell ti33 rfl rfl rfl, res_tmp rfl, trivial⟩
          · have h := cf h hc
            refine CG.seq ?_
            refine CG.region ?_
            refine RG.op (ok_eqlI (ht rfl) hI) rfl ?_
            refine RG.op (ok_assign (ht rfl)) rfl ?_
            refine RG.nil ?_
            refine AT.next ?_
            refine CG.cond (ht rfl) (fun hc => ?_) (fun hc => ?_)
            · have h := ct h hc
              refine CG.seq ?_
              refine CG.region ?_
              refine RG.op (ok_load ti33 rfl rfl (ht rfl)) rfl ?_
              obtain ⟨r6, q_r6, h⟩ := bs h
              refine RG.op (ok_call cb91 (f91_ok _ q_r6) ⟨(ht rfl), trivial⟩) rfl ?_
              refine RG.op (ok_extract rfl (ht rfl)) rfl ?_
              refine RG.op (ok_extract rfl (ht rfl)) rfl ?_
              refine RG.storeB ti33 rfl sfld_whole rfl (ht rfl) (ht rfl) ?_
              refine RG.op (ok_assign (ht rfl)) rfl ?_
              refine RG.nil ?_
              refine AT.next ?_
              refine CG.ret ?_
              refine AT.in_ret (AT.then_ret ?_)
              refine AT.settleB 6 rfl ?_
              cases so h
              exact AT.retL (rvs := [.cell 6 33, .tmp 7]) rfl rfl ⟨res_cell ti33 rfl rfl rfl, res_tmp rfl, trivial⟩
            · have h := cf h hc
              refine CG.seq ?_
              refine CG.region ?_
              refine RG.op (ok_eqlI (ht rfl) hI) rfl ?_
              refine RG.op (ok_assign (ht rfl)) rfl ?_
              refine RG.nil ?_
              refine AT.next ?_
              refine CG.cond (ht rfl) (fun hc => ?_) (fun hc => ?_)
              · have h := ct h hc
                refine CG.seq ?_
                refine CG.region ?_
                refine RG.op (ok_load ti33 rfl rfl (ht rfl)) rfl ?_
                refine RG.op (ok_load ti33 rfl rfl (ht rfl)) rfl ?_
                obtain ⟨r7, q_r7, h⟩ := bs h
                refine RG.op (ok_call cb92 (f92_ok _ _ q_r7) ⟨(ht rfl), (ht rfl), trivial⟩) rfl ?_
                refine RG.op (ok_extract rfl (ht rfl)) rfl ?_
                refine RG.op (ok_extract rfl (ht rfl)) rfl ?_
                refine RG.storeB ti33 rfl sfld_whole rfl (ht rfl) (ht rfl) ?_
                refine RG.op (ok_assign (ht rfl)) rfl ?_
                refine RG.nil ?_
                refine AT.next ?_
                refine CG.ret ?_
                refine AT.in_ret (AT.then_ret ?_)
                refine AT.settleB 6 rfl ?_
                cases so h
                exact AT.retL (rvs := [.cell 6 33, .tmp 7]) rfl rfl ⟨res_cell ti33 rfl rfl rfl, res_tmp rfl, trivial⟩
              · have h := cf h hc
                refine CG.seq ?_
                refine CG.region ?_
                refine RG.op (ok_eqlI (ht rfl) hI) rfl ?_
                refine RG.op (ok_assign (ht rfl)) rfl ?_
                refine RG.nil ?_
                refine AT.next ?_
                refine CG.cond (ht rfl) (fun hc => ?_) (fun hc => ?_)
                · have h := ct h hc
                  refine CG.seq ?_
                  refine CG.region ?_
                  refine RG.op (ok_load ti33 rfl rfl (ht rfl)) rfl ?_
                  refine RG.op (ok_load ti33 rfl rfl (ht rfl)) rfl ?_
                  obtain ⟨r8, q_r8, h⟩ := bs h
                  refine RG.op (ok_call cb93 (f93_ok _ _ q_r8) ⟨(ht rfl), (ht rfl), trivial⟩) rfl ?_
                  refine RG.op (ok_extract rfl (ht rfl)) rfl ?_
                  refine RG.op (ok_extract rfl (ht rfl)) rfl ?_
                  refine RG.storeB ti33 rfl sfld_whole rfl (ht rfl) (ht rfl) ?_
                  refine RG.op (ok_assign (ht rfl)) rfl ?_
                  refine RG.nil ?_
                  refine AT.next ?_
                  refine CG.ret ?_
                  refine AT.in_ret (AT.then_ret ?_)
                  refine AT.settleB 6 rfl ?_
                  cases so h
                  exact AT.retL (rvs := [.cell 6 33, .tmp 7]) rfl rfl ⟨res_cell ti33 rfl rfl rfl, res_tmp rfl, trivial⟩
                · have h := cf h hc
                  refine CG.seq ?_
                  refine CG.region ?_
                  refine RG.op (ok_eqlI (ht rfl) hI) rfl ?_
                  refine RG.op (ok_assign (ht rfl)) rfl ?_
                  refine RG.nil ?_
                  refine AT.next ?_
                  refine CG.cond (ht rfl) (fun hc => ?_) (fun hc => ?_)
                  · have h := ct h hc
                    refine CG.seq ?_
                    refine CG.region ?_
                    refine RG.op (ok_fieldAddr fd33_0 rfl flDValue_0 rfl (ht rfl)) rfl ?_
                    refine RG.op (ok_load ti3 rfl rfl (ht rfl)) rfl ?_
                    refine RG.op (ok_eqlI (ht rfl) hI) rfl ?_
                    obtain ⟨r9, q_r9, h⟩ := bs h
                    refine RG.op (ok_call cb94 (f94_ok _ q_r9) ⟨(ht rfl), trivial⟩) rfl ?_
                    refine RG.storeB ti33 rfl sfld_whole rfl (ht rfl) (ht rfl) ?_
                    refine RG.op (ok_assign hI) rfl ?_
                    refine RG.nil ?_
                    refine AT.next ?_
                    refine CG.ret ?_
                    refine AT.in_ret (AT.then_ret ?_)
                    refine AT.settleB 6 rfl ?_
                    cases so h
                    exact AT.retL (rvs := [.cell 6 33, .tmp 7]) rfl rfl ⟨res_cell ti33 rfl rfl rfl, res_tmp rfl, trivial⟩
                  · have h := cf h hc
                    refine CG.seq ?_
                    refine CG.region ?_
                    refine RG.op (ok_eqlI (ht rfl) hI) rfl ?_
                    refine RG.op (ok_assign (ht rfl)) rfl ?_
                    refine RG.nil ?_
                    refine AT.next ?_
                    refine CG.cond (ht rfl) (fun hc => ?_) (fun hc => ?_)
                    · have h := ct h hc
                      refine CG.seq ?_
                      refine CG.region ?_
                      refine RG.op (ok_fieldAddr fd33_0 rfl flDValue_0 rfl (ht rfl)) rfl ?_
                      refine RG.op (ok_load ti3 rfl rfl (ht rfl)) rfl ?_
                      refine RG.op (ok_neqI (ht rfl) hI) rfl ?_
                      obtain ⟨r10, q_r10, h⟩ := bs h
                      refine RG.op (ok_call cb94 (f94_ok _ q_r10) ⟨(ht rfl), trivial⟩) rfl ?_
                      refine RG.storeB ti33 rfl sfld_whole rfl (ht rfl) (ht rfl) ?_
                      refine RG.op (ok_assign hI) rfl ?_
                      refine RG.nil ?_
                      refine AT.next ?_
                      refine CG.ret ?_
                      refine AT.in_ret (AT.then_ret ?_)
                      refine AT.settleB 6 rfl ?_
                      cases so h
                      exact AT.retL (rvs := [.cell 6 33, .tmp 7]) rfl rfl ⟨res_cell ti33 rfl rfl rfl, res_tmp rfl, trivial⟩
                    · have h := cf h hc
                      refine CG.skip ?_
                      refine AT.in_normal ?_
                      refine AT.next ?_
                      refine CG.seq ?_
                      refine CG.region ?_
                      refine RG.op (ok_move (ht rfl)) rfl ?_
                      refine RG.op (ok_load ti33 rfl rfl (ht rfl)) rfl ?_
                      refine RG.op (ok_load ti33 rfl rfl (ht rfl)) rfl ?_
                      obtain ⟨r11, q_r11, h⟩ := bs h
                      refine RG.op (ok_call cb95 (f95_ok _ _ _ q_r11) ⟨(ht rfl), (ht rfl), (ht rfl), trivial⟩) rfl ?_
                      refine RG.op (ok_extract rfl (ht rfl)) rfl ?_
                      refine RG.op (ok_extract rfl (ht rfl)) rfl ?_
                      refine RG.storeB ti33 rfl sfld_whole rfl (ht rfl) (ht rfl) ?_
                      refine RG.op (ok_assign (ht rfl)) rfl ?_
                      refine RG.nil ?_
                      refine AT.next ?_
                      refine CG.ret ?_
                      refine AT.settleB 6 rfl ?_
                      cases so h
                      exact AT.retL (rvs := [.cell 6 33, .tmp 7]) rfl rfl ⟨res_cell ti33 rfl rfl rfl, res_tmp rfl, trivial⟩

set_option maxRecDepth 100000 in
theorem f14_ok (e : DExpr) (r : (List DValue)) {R : DValue × Int} (h : ref10_Eval e r = some R) : Spec Tryz.prog 14 [tD rpDExpr e, tD (rSl rpDValue) r] (tT [tD rpDValue R.1, tD (rI .i64) R.2]) := by
  refine Spec.of Tryz.func14 rfl rfl rfl fun w0 S0 => ?_
  refine CG.seq ?_
  refine CG.region ?_
  refine RG.op (ok_box (ht rfl)) rfl ?_
  refine RG.alloc (r := rpDValue) (x := (⟨(0 : Int), (0 : Int), (0 : Int), []⟩ : DValue)) ti33 (fun _ => zrDValue _) rfl (fun b => ?_)
  refine RG.op (ok_assign hI) rfl ?_
  refine RG.nil ?_
  refine AT.next ?_
  refine CG.seq ?_
  refine CG.seq ?_
  refine CG.region ?_
  refine RG.op (ok_load ti24 rfl rfl (ht rfl)) rfl ?_
  obtain ⟨r1, q_r1, h⟩ := bs h
  refine RG.op (ok_call cb13 (f13_ok _ q_r1) ⟨(ht rfl), trivial⟩) rfl ?_
  refine RG.op (ok_not (ht rfl)) rfl ?_
  refine RG.nil ?_
  refine AT.next ?_
  refine CG.cond (ht rfl) (fun hc => ?_) (fun hc => ?_)
  · have h := ct h hc
    refine CG.seq ?_
    refine CG.region ?_
    refine RG.op (ok_build (y := (⟨(0 : Int), (0 : Int), (0 : Int), []⟩ : DValue)) ti33 fs33 zrDValue (rfl)) rfl ?_
    refine RG.storeB ti33 rfl sfld_whole rfl (ht rfl) (ht rfl) ?_
    refine RG.op (ok_assign hI) rfl ?_
    refine RG.nil ?_
    refine AT.next ?_
    refine CG.ret ?_
    refine AT.then_ret ?_
    refine AT.settleB 4 rfl ?_
    cases so h
    exact AT.retL (rvs := [.cell 4 33, .tmp 5]) rfl rfl ⟨res_cell ti33 rfl rfl rfl, res_tmp rfl, trivial⟩
  · have h := cf h hc
    refine CG.skip ?_
    refine AT.next ?_
    refine CG.seq ?_
    refine CG.seq ?_
    refine CG.region ?_
    refine RG.op (ok_fieldAddr fd24_0 rfl flDExpr_0 rfl (ht rfl)) rfl ?_
    refine RG.op (ok_load ti22 rfl rfl (ht rfl)) rfl ?_
    refine RG.op (ok_lenSl Tryz.underlying22 (ht rfl)) rfl ?_
    refine RG.op (ok_move hI) rfl ?_
    refine RG.nil ?_
    refine AT.next ?_
    refine CG.block ?_
    refine CG.have_len (k := 20) rfl (fun hN => ?_)
    refine CG.loop ?_
    refine LG.sub (LG.list2 (Z := fun ls i x => (e.Nodes.drop i = ls) ∧ ref10_Eval_l1 e r ls x = some R) (Of := fun _ i x => [bx rpDValue 33 b x]) (Gf := fun _ i x => [(1, tD (rSl rpDValue) r), (2, tPtr rpDExpr e), (4, tV (bptr b 0)), (20, tD (rSl rpDENode) e.Nodes), (21, tD (rI .i64) (e.Nodes.length : Int)), (22, tD (rI .i64) (i : Int))]) (fun i x h => ?_) (fun e1 tl ih i x h => ?_) e.Nodes 0 (⟨(0 : Int), (0 : Int), (0 : Int), []⟩ : DValue) ⟨rfl, h⟩) ⟨rfl, rfl, rfl, rfl, rfl, rfl, trivial⟩
    · obtain ⟨hx, h⟩ := h
      refine LG.unfold ?_
      refine CG.seq ?_
      refine CG.region ?_
      refine RG.op (ok_lss (ht rfl) (ht rfl)) rfl ?_
      refine RG.nil ?_
      refine AT.next ?_
      refine CG.seq ?_
      refine CG.condF (ht rfl) (dropF hx) ?_
      refine CG.exit ?_
      refine AT.then_exit (AT.then_exit (AT.in_exit ?_))
      refine AT.next ?_
      refine CG.seq ?_
      refine CG.region ?_
      refine RG.fresh false rpDValue 33 ?_
      refine RG.op (ok_assign hVn) rfl ?_
      refine RG.nil ?_
      refine AT.next ?_
      refine CG.seq ?_
      refine CG.seq ?_
      refine CG.region ?_
      refine RG.op (ok_fieldAddr fd24_0 rfl flDExpr_0 rfl (ht rfl)) rfl ?_
      refine RG.op (ok_load ti22 rfl rfl (ht rfl)) rfl ?_
      refine RG.op (ok_lenSl Tryz.underlying22 (ht rfl)) rfl ?_
      refine RG.op (ok_move hI) rfl ?_
      refine RG.nil ?_
      refine AT.next ?_
      refine CG.block ?_
      refine CG.have_len (k := 48) rfl (fun hN1 => ?_)
      refine CG.loop ?_
      refine LG.sub (LG.list5 (Z := fun ls1 i1 own l c x1 => (e.Nodes.drop i1 = ls1) ∧ ref10_Eval_l2 r ls1 own x1 = some R) (Of := fun _ i1 own l c x1 => [arr rpDValue 33 l c own, bx rpDValue 33 b x1]) (Gf := fun _ i1 own l c x1 => [(1, tD (rSl rpDValue) r), (4, tV (bptr b 0)), (8, tV (oslV l c own.length)), (48, tD (rSl rpDENode) e.Nodes), (49, tD (rI .i64) (e.Nodes.length : Int)), (50, tD (rI .i64) (i1 : Int))]) (fun i1 own l c x1 h => ?_) (fun e2 tl1 ih1 i1 own l c x1 h => ?_) e.Nodes 0 ([] : List DValue) none 0 x ⟨rfl, h⟩) ⟨rfl, rfl, rfl, rfl, rfl, rfl, trivial⟩
      · obtain ⟨hx1, h⟩ := h
        refine LG.unfold ?_
        refine CG.seq ?_
        refine CG.region ?_
        refine RG.op (ok_lss (ht rfl) (ht rfl)) rfl ?_
        refine RG.nil ?_
        refine AT.next ?_
        refine CG.seq ?_
        refine CG.condF (ht rfl) (dropF hx1) ?_
        refine CG.exit ?_
        refine AT.then_exit (AT.then_exit (AT.in_exit ?_))
        refine AT.next ?_
        refine CG.seq ?_
        refine CG.region ?_
        refine RG.op (ok_move (ht rfl)) rfl ?_
        refine RG.op (ok_move (ht rfl)) rfl ?_
        refine RG.op (ok_lenO Tryz.underlying28 (.head _) (ht rfl)) rfl ?_
        refine RG.op (ok_sub (ht rfl) hI) rfl ?_
        obtain ⟨e3, q_e3, h⟩ := bs h
        refine RG.op (ok_indexAddrO Tryz.underlying28 ti33 (.head _) (ht rfl) (ht rfl) q_e3) rfl ?_
        refine RG.op (ok_loadE (r := rpDValue) (i := (IntKind.i64.wrap ((own.length : Int) - (1 : Int)))) (foff := 0) ti33 rfl rfl fld_whole rfl (.head _) q_e3 (ht rfl)) rfl ?_
        refine RG.front1 ?_
        refine RG.storeB ti33 rfl sfld_whole rfl (ht rfl) (ht rfl) ?_
        refine RG.op (ok_assign hI) rfl ?_
        refine RG.nil ?_
        refine AT.next ?_
        refine CG.ret ?_
        refine AT.settleB 4 rfl ?_
        refine AT.drop ?_
        cases so h
        exact AT.retL (rvs := [.cell 4 33, .tmp 5]) rfl rfl ⟨res_cell ti33 rfl rfl rfl, res_tmp rfl, trivial⟩
      · obtain ⟨hx1, h⟩ := h
        refine LG.unfold ?_
        refine CG.seq ?_
        refine CG.region ?_
        refine RG.op (ok_lss (ht rfl) (ht rfl)) rfl ?_
        refine RG.nil ?_
        refine AT.next ?_
        refine CG.seq ?_
        refine CG.condT (ht rfl) (dropT hx1) ?_
        refine CG.skip ?_
        refine AT.next ?_
        refine CG.seq ?_
        refine CG.block ?_
        refine CG.seq ?_
        refine CG.region ?_
        refine RG.op (ok_indexAddr Tryz.underlying22 ti42 rfl (ht rfl) (ht rfl) (dropI hx1)) rfl ?_
        refine RG.op (ok_load ti42 rfl rfl (ht rfl)) rfl ?_
        refine RG.alloc (r := rpDENode) (x := (⟨(0 : Int), (0 : Int), (0 : Int), (0 : Int), (⟨(0 : Int), (0 : Int), (0 : Int), []⟩ : DValue)⟩ : DENode)) ti42 (fun _ => zrDENode _) rfl (fun b1 => ?_)
        refine RG.storeB ti42 rfl sfld_whole rfl (ht rfl) (ht rfl) ?_
        refine RG.settleB 10 rfl ?_
        refine RG.nil ?_
        refine AT.next ?_
        refine CG.seq ?_
        refine CG.region ?_
        refine RG.op (ok_fieldAddr fd42_0 rfl flDENode_0 rfl (ht rfl)) rfl ?_
        refine RG.op (ok_load ti3 rfl rfl (ht rfl)) rfl ?_
        refine RG.nil ?_
        refine AT.next ?_
        refine CG.block ?_
        refine CG.seq ?_
        refine CG.region ?_
        refine RG.op (ok_eqlI (ht rfl) hI) rfl ?_
        refine RG.op (ok_assign (ht rfl)) rfl ?_
        refine RG.nil ?_
        refine AT.next ?_
        refine CG.cond (ht rfl) (fun hc => ?_) (fun hc => ?_)
        · have h := ct h hc
          refine CG.region ?_
          refine RG.op (ok_move (ht rfl)) rfl ?_
          refine RG.op (ok_fieldAddr fd42_4 rfl flDENode_4 rfl (ht rfl)) rfl ?_
          refine RG.op (ok_load ti33 rfl rfl (ht rfl)) rfl ?_
          refine RG.op (ok_buildSlice (r := rpDValue) (ys := [e2.Value]) (xs := [.tmp 93]) Tryz.underlying28 ti33 rfl rfl rfl rfl rfl ⟨(ht rfl), trivial⟩) rfl ?_
          obtain ⟨own1, q_own1, h⟩ := bs h
          refine RG.append ti33 rfl rfl rfl rfl Tryz.underlying28 rfl rfl (ht rfl) (ht rfl) q_own1 (fun l1 c1 => ?_)
          refine RG.op (ok_assign (ht rfl)) rfl ?_
          refine RG.nil ?_
          refine AT.in_normal ?_
          refine AT.in_normal ?_
          refine AT.next ?_
          refine CG.region ?_
          refine RG.op (ok_incN (dropL hx1 hN1) (ht rfl) hI) rfl ?_
          refine RG.op (ok_move (ht rfl)) rfl ?_
          refine RG.nil ?_
          exact AT.round (LG.sub (ih1 (i1 + 1) own1 l1 c1 x1 ⟨dropS hx1, h⟩) ⟨rfl, rfl, rfl, rfl, rfl, rfl, trivial⟩)
        · have h := cf h hc
          refine CG.seq ?_
          refine CG.region ?_
          refine RG.op (ok_eqlI (ht rfl) hI) rfl ?_
          refine RG.op (ok_assign (ht rfl)) rfl ?_
          refine RG.nil ?_
          refine AT.next ?_
          refine CG.cond (ht rfl) (fun hc => ?_) (fun hc => ?_)
          · have h := ct h hc
            refine CG.region ?_
            refine RG.op (ok_move (ht rfl)) rfl ?_
            refine RG.op (ok_move (ht rfl)) rfl ?_
            refine RG.op (ok_fieldAddr fd42_3 rfl flDENode_3 rfl (ht rfl)) rfl ?_
            refine RG.op (ok_load ti3 rfl rfl (ht rfl)) rfl ?_
            obtain ⟨e4, q_e4, h⟩ := bs h
            refine RG.op (ok_indexAddr Tryz.underlying29 ti33 rfl (ht rfl) (ht rfl) q_e4) rfl ?_
            refine RG.op (ok_load ti33 rfl rfl (ht rfl)) rfl ?_
            refine RG.op (ok_buildSlice (r := rpDValue) (ys := [e4]) (xs := [.tmp 103]) Tryz.underlying28 ti33 rfl rfl rfl rfl rfl ⟨(ht rfl), trivial⟩) rfl ?_
            obtain ⟨own2, q_own2, h⟩ := bs h
            refine RG.append ti33 rfl rfl rfl rfl Tryz.underlying28 rfl rfl (ht rfl) (ht rfl) q_own2 (fun l2 c2 => ?_)
            refine RG.op (ok_assign (ht rfl)) rfl ?_
            refine RG.nil ?_
            refine AT.in_normal ?_
            refine AT.in_normal ?_
            refine AT.next ?_
            refine CG.region ?_
            refine RG.op (ok_incN (dropL hx1 hN1) (ht rfl) hI) rfl ?_
            refine RG.op (ok_move (ht rfl)) rfl ?_
            refine RG.nil ?_
            exact AT.round (LG.sub (ih1 (i1 + 1) own2 l2 c2 x1 ⟨dropS hx1, h⟩) ⟨rfl, rfl, rfl, rfl, rfl, rfl, trivial⟩)
          · have h := cf h hc
            refine CG.seq ?_
            refine CG.region ?_
            refine RG.op (ok_move (ht rfl)) rfl ?_
            refine RG.op (ok_fieldAddr fd42_1 rfl flDENode_1 rfl (ht rfl)) rfl ?_
            refine RG.op (ok_load ti3 rfl rfl (ht rfl)) rfl ?_
            obtain ⟨e5, q_e5, h⟩ := bs h
            refine RG.op (ok_indexAddrO Tryz.underlying28 ti33 (.head _) (ht rfl) (ht rfl) q_e5) rfl ?_
            refine RG.op (ok_loadE (r := rpDValue) (i := e2.L) (foff := 0) ti33 rfl rfl fld_whole rfl (.head _) q_e5 (ht rfl)) rfl ?_
            refine RG.op (ok_build (y := (⟨(0 : Int), (0 : Int), (0 : Int), []⟩ : DValue)) ti33 fs33 zrDValue (rfl)) rfl ?_
            refine RG.alloc (r := rpDValue) (x := (⟨(0 : Int), (0 : Int), (0 : Int), []⟩ : DValue)) ti33 (fun _ => zrDValue _) rfl (fun b2 => ?_)
            refine RG.alloc (r := rpDValue) (x := (⟨(0 : Int), (0 : Int), (0 : Int), []⟩ : DValue)) ti33 (fun _ => zrDValue _) rfl (fun b3 => ?_)
            refine RG.front1 ?_
            refine RG.storeB ti33 rfl sfld_whole rfl (ht rfl) (ht rfl) ?_
            refine RG.settleB 11 rfl ?_
            refine RG.storeB ti33 rfl sfld_whole rfl (ht rfl) (ht rfl) ?_
            refine RG.nil ?_
            refine AT.next ?_
            refine CG.sjoin1 (Z := fun b4 => ref10_Eval_k1 (ref10_Eval_l2 r tl1) e2 own x1 e5 b4 = some R) (Of := fun b4 => [arr rpDValue 33 l c own, bx rpDValue 33 b x1, bx rpDValue 33 b3 b4]) (Gf := fun b4 => [(1, tD (rSl rpDValue) r), (4, tV (bptr b 0)), (8, tV (oslV l c own.length)), (10, tPtr rpDENode e2), (11, tPtr rpDValue e5), (12, tV (bptr b3 0)), (48, tD (rSl rpDENode) e.Nodes), (49, tD (rI .i64) (e.Nodes.length : Int)), (50, tD (rI .i64) (i1 : Int))]) (fun b4 h => ?_) (fun K => ?_)
            · skip
              refine CG.seq ?_
              refine CG.region ?_
              refine RG.op (ok_fieldAddr fd42_0 rfl flDENode_0 rfl (ht rfl)) rfl ?_
              refine RG.op (ok_load ti3 rfl rfl (ht rfl)) rfl ?_
              refine RG.op (ok_load ti33 rfl rfl (ht rfl)) rfl ?_
              refine RG.op (ok_loadB ti33 rfl rfl fld_whole (.tail _ (.tail _ (.head _))) (ht rfl)) rfl ?_
              obtain ⟨r2, q_r2, h⟩ := bs h
              refine RG.op (ok_call cb49 (f49_ok _ _ _ q_r2) ⟨(ht rfl), (ht rfl), (ht rfl), trivial⟩) rfl ?_
              refine RG.op (ok_move (ht rfl)) rfl ?_
              refine RG.op (ok_extract rfl (ht rfl)) rfl ?_
              refine RG.op (ok_extract rfl (ht rfl)) rfl ?_
              refine RG.alloc (r := rpDValue) (x := (⟨(0 : Int), (0 : Int), (0 : Int), []⟩ : DValue)) ti33 (fun _ => zrDValue _) rfl (fun b5 => ?_)
              refine RG.storeB ti33 rfl sfld_whole rfl (ht rfl) (ht rfl) ?_
              refine RG.settleB 13 rfl ?_
              refine RG.op (ok_assign (ht rfl)) rfl ?_
              refine RG.nil ?_
              refine AT.next ?_
              refine CG.seq ?_
              refine CG.seq ?_
              refine CG.region ?_
              refine RG.op (ok_move (ht rfl)) rfl ?_
              refine RG.op (ok_eqlI (ht rfl) hI) rfl ?_
              refine RG.nil ?_
              refine AT.next ?_
              refine CG.cond (ht rfl) (fun hc => ?_) (fun hc => ?_)
              · have h := ct h hc
                refine CG.seq ?_
                refine CG.region ?_
                refine RG.op (ok_build (y := (⟨(0 : Int), (0 : Int), (0 : Int), []⟩ : DValue)) ti33 fs33 zrDValue (rfl)) rfl ?_
                refine RG.op (ok_move (ht rfl)) rfl ?_
                refine RG.front1 ?_
                refine RG.storeB ti33 rfl sfld_whole rfl (ht rfl) (ht rfl) ?_
                refine RG.op (ok_assign (ht rfl)) rfl ?_
                refine RG.nil ?_
                refine AT.next ?_
                refine CG.ret ?_
                refine AT.then_ret (AT.in_ret (AT.in_ret (AT.then_ret (AT.then_ret (AT.in_ret (AT.then_ret ?_))))))
                refine AT.settleB 4 rfl ?_
                refine AT.drop ?_
                refine AT.drop ?_
                cases so h
                exact AT.retL (rvs := [.cell 4 33, .tmp 5]) rfl rfl ⟨res_cell ti33 rfl rfl rfl, res_tmp rfl, trivial⟩
              · have h := cf h hc
                refine CG.skip ?_
                refine AT.next ?_
                refine CG.seq ?_
                refine CG.seq ?_
                refine CG.region ?_
                refine RG.op (ok_move (ht rfl)) rfl ?_
                refine RG.op (ok_neqI (ht rfl) hI) rfl ?_
                refine RG.nil ?_
                refine AT.next ?_
                refine CG.cond (ht rfl) (fun hc => ?_) (fun hc => ?_)
                · have h := ct h hc
                  refine CG.seq ?_
                  refine CG.region ?_
                  refine RG.op (ok_build (y := (⟨(0 : Int), (0 : Int), (0 : Int), []⟩ : DValue)) ti33 fs33 zrDValue (rfl)) rfl ?_
                  refine RG.front1 ?_
                  refine RG.storeB ti33 rfl sfld_whole rfl (ht rfl) (ht rfl) ?_
                  refine RG.op (ok_assign hI) rfl ?_
                  refine RG.nil ?_
                  refine AT.next ?_
                  refine CG.ret ?_
                  refine AT.then_ret (AT.in_ret (AT.in_ret (AT.then_ret (AT.then_ret (AT.in_ret (AT.then_ret ?_))))))
                  refine AT.settleB 4 rfl ?_
                  refine AT.drop ?_
                  refine AT.drop ?_
                  cases so h
                  exact AT.retL (rvs := [.cell 4 33, .tmp 5]) rfl rfl ⟨res_cell ti33 rfl rfl rfl, res_tmp rfl, trivial⟩
                · have h := cf h hc
                  refine CG.skip ?_
                  refine AT.next ?_
                  refine CG.region ?_
                  refine RG.op (ok_move (ht rfl)) rfl ?_
                  refine RG.op (ok_load ti33 rfl rfl (ht rfl)) rfl ?_
                  refine RG.op (ok_buildSlice (r := rpDValue) (ys := [r2.1]) (xs := [.tmp 86]) Tryz.underlying28 ti33 rfl rfl rfl rfl rfl ⟨(ht rfl), trivial⟩) rfl ?_
                  obtain ⟨own3, q_own3, h⟩ := bs h
                  refine RG.append ti33 rfl rfl rfl rfl Tryz.underlying28 rfl rfl (ht rfl) (ht rfl) q_own3 (fun l3 c3 => ?_)
                  refine RG.op (ok_assign (ht rfl)) rfl ?_
                  refine RG.nil ?_
                  refine AT.in_normal ?_
                  refine AT.in_normal ?_
                  refine AT.next ?_
                  refine CG.region ?_
                  refine RG.op (ok_incN (dropL hx1 hN1) (ht rfl) hI) rfl ?_
                  refine RG.op (ok_move (ht rfl)) rfl ?_
                  refine RG.nil ?_
                  refine AT.front2 ?_
                  refine AT.drop ?_
                  exact AT.round (LG.sub (ih1 (i1 + 1) own3 l3 c3 x1 ⟨dropS hx1, h⟩) ⟨rfl, rfl, rfl, rfl, rfl, rfl, trivial⟩)
            · skip
              refine CG.seq ?_
              refine CG.region ?_
              refine RG.op (ok_fieldAddr fd42_2 rfl flDENode_2 rfl (ht rfl)) rfl ?_
              refine RG.op (ok_load ti3 rfl rfl (ht rfl)) rfl ?_
              refine RG.op (ok_geq (ht rfl) hI) rfl ?_
              refine RG.nil ?_
              refine AT.next ?_
              refine CG.cond (ht rfl) (fun hc => ?_) (fun hc => ?_)
              · have h := ct h hc
                refine CG.region ?_
                refine RG.op (ok_move (ht rfl)) rfl ?_
                refine RG.op (ok_fieldAddr fd42_2 rfl flDENode_2 rfl (ht rfl)) rfl ?_
                refine RG.op (ok_load ti3 rfl rfl (ht rfl)) rfl ?_
                obtain ⟨e6, q_e6, h⟩ := bs h
                refine RG.op (ok_indexAddrO Tryz.underlying28 ti33 (.tail _ (.head _)) (ht rfl) (ht rfl) q_e6) rfl ?_
                refine RG.op (ok_loadE (r := rpDValue) (i := e2.R) (foff := 0) ti33 rfl rfl fld_whole rfl (.tail _ (.head _)) q_e6 (ht rfl)) rfl ?_
                refine RG.storeB ti33 rfl sfld_whole rfl (ht rfl) (ht rfl) ?_
                refine RG.nil ?_
                refine AT.front2 ?_
                refine AT.front2 ?_
                exact AT.sub (K e6 h) ⟨rfl, rfl, rfl, rfl, rfl, rfl, rfl, rfl, rfl, trivial⟩
              · have h := cf h hc
                refine CG.skip ?_
                refine AT.front2 ?_
                refine AT.front2 ?_
                exact AT.sub (K (⟨(0 : Int), (0 : Int), (0 : Int), []⟩ : DValue) h) ⟨rfl, rfl, rfl, rfl, rfl, rfl, rfl, rfl, rfl, trivial⟩
    · obtain ⟨hx, h⟩ := h
      refine LG.unfold ?_
      refine CG.seq ?_
      refine CG.region ?_
      refine RG.op (ok_lss (ht rfl) (ht rfl)) rfl ?_
      refine RG.nil ?_
      refine AT.next ?_
      refine CG.seq ?_
      refine CG.condT (ht rfl) (dropT hx) ?_
      refine CG.skip ?_
      refine AT.next ?_
      refine CG.seq ?_
      refine CG.block ?_
      refine CG.seq ?_
      refine CG.region ?_
      refine RG.op (ok_indexAddr Tryz.underlying22 ti42 rfl (ht rfl) (ht rfl) (dropI hx)) rfl ?_
      refine RG.op (ok_load ti42 rfl rfl (ht rfl)) rfl ?_
      refine RG.alloc (r := rpDENode) (x := (⟨(0 : Int), (0 : Int), (0 : Int), (0 : Int), (⟨(0 : Int), (0 : Int), (0 : Int), []⟩ : DValue)⟩ : DENode)) ti42 (fun _ => zrDENode _) rfl (fun b6 => ?_)
      refine RG.storeB ti42 rfl sfld_whole rfl (ht rfl) (ht rfl) ?_
      refine RG.settleB 7 rfl ?_
      refine RG.nil ?_
      refine AT.next ?_
      refine CG.seq ?_
      refine CG.region ?_
      refine RG.op (ok_fieldAddr fd42_0 rfl flDENode_0 rfl (ht rfl)) rfl ?_
      refine RG.op (ok_load ti3 rfl rfl (ht rfl)) rfl ?_
      refine RG.op (ok_eqlI (ht rfl) hI) rfl ?_
      refine RG.op (ok_move (ht rfl)) rfl ?_
      obtain ⟨t, q_t, h⟩ := bs h
      refine RG.opGt rfl rfl rfl rfl (fun hg => ok_fieldAddr fd42_3 rfl flDENode_3 rfl (ht rfl)) ?_
      refine RG.opGt rfl rfl rfl rfl (fun hg => ok_load ti3 rfl rfl (htO rfl hg)) ?_
      refine RG.opGt rfl rfl rfl rfl (fun hg => ok_move (ht rfl)) ?_
      refine RG.opGt rfl rfl rfl rfl (fun hg => ok_lenSl Tryz.underlying29 (htO rfl hg)) ?_
      refine RG.opGt rfl rfl rfl rfl (fun hg => ok_geq (htO rfl hg) (htO rfl hg)) ?_
      refine RG.opGt rfl rfl rfl rfl (fun hg => ok_move (htO rfl hg)) ?_
      obtain ⟨t1, h1t, h0t⟩ := og q_t
      have q_t1g := fun hb => (h1t hb).1
      refine RG.opGof rfl rfl rfl rfl (fun hg => ok_move (ht rfl)) ?_
      refine RG.opGof rfl rfl rfl rfl (fun hg => ok_fieldAddr fd42_3 rfl flDENode_3 rfl (ht rfl)) ?_
      refine RG.opGof rfl rfl rfl rfl (fun hg => ok_load ti3 rfl rfl (htO rfl hg)) ?_
      obtain ⟨e7, h1t1, h0t1⟩ := og3 q_t1g
      have q_e7g := fun hb => (h1t1 hb).1
      refine RG.opGof rfl rfl rfl rfl (fun hg => ok_indexAddr Tryz.underlying29 ti33 rfl (htO rfl hg) (htO rfl hg) (q_e7g hg)) ?_
      refine RG.opGof rfl rfl rfl rfl (fun hg => ok_load ti33 rfl rfl (htO rfl hg)) ?_
      obtain ⟨r3, h1t1⟩ := og2 (fun hb => (h1t1 hb).2)
      have q_r3g := fun hb => (h1t1 hb).1
      refine RG.opGof rfl rfl rfl rfl (fun hg => ok_call cb48 (f48_ok _ (q_r3g hg)) ⟨(htO rfl hg), trivial⟩) ?_
      refine RG.opGof rfl rfl rfl rfl (fun hg => ok_not (htO rfl hg)) ?_
      refine RG.opGt rfl rfl rfl rfl (fun hg => ok_pickOrM (htO rfl hg) (fun hb => (htO rfl (andi hg (noti hb)))) (fun hb => (h1t1 (andi hg hb)).2) (fun hb => h0t1 hg hb)) ?_
      refine RG.op (ok_pickAndM (ht rfl) (fun hb => (htO rfl hb)) (fun hb => (h1t hb).2) h0t) rfl ?_
      refine RG.nil ?_
      refine AT.next ?_
      refine CG.cond (ht rfl) (fun hc => ?_) (fun hc => ?_)
      · have h := ct h hc
        refine CG.seq ?_
        refine CG.region ?_
        refine RG.op (ok_build (y := (⟨(0 : Int), (0 : Int), (0 : Int), []⟩ : DValue)) ti33 fs33 zrDValue (rfl)) rfl ?_
        refine RG.storeB ti33 rfl sfld_whole rfl (ht rfl) (ht rfl) ?_
        refine RG.op (ok_assign hI) rfl ?_
        refine RG.nil ?_
        refine AT.next ?_
        refine CG.ret ?_
        refine AT.in_ret (AT.then_ret (AT.then_ret (AT.in_ret (AT.then_ret ?_))))
        refine AT.settleB 4 rfl ?_
        cases so h
        exact AT.retL (rvs := [.cell 4 33, .tmp 5]) rfl rfl ⟨res_cell ti33 rfl rfl rfl, res_tmp rfl, trivial⟩
      · have h := cf h hc
        refine CG.skip ?_
        refine AT.in_normal ?_
        refine AT.next ?_
        refine CG.region ?_
        refine RG.op (ok_incN (dropL hx hN) (ht rfl) hI) rfl ?_
        refine RG.op (ok_move (ht rfl)) rfl ?_
        refine RG.nil ?_
        exact AT.round (LG.sub (ih (i + 1) x ⟨dropS hx, h⟩) ⟨rfl, rfl, rfl, rfl, rfl, rfl, trivial⟩)

set_option maxRecDepth 100000 in
theorem f15_ok (a1 : DExpr) (b : DExpr) {R : Bool} (h : ref10_Same a1 b = some R) : Spec Tryz.prog 15 [tD rpDExpr a1, tD rpDExpr b] (tD rB R) := by
  refine Spec.of Tryz.func15 rfl rfl rfl fun w0 S0 => ?_
  refine CG.seq ?_
  refine CG.region ?_
  refine RG.op (ok_box (ht rfl)) rfl ?_
  refine RG.op (ok_box (ht rfl)) rfl ?_
  refine RG.op (ok_assign hB) rfl ?_
  refine RG.nil ?_
  refine AT.next ?_
  refine CG.seq ?_
  refine CG.seq ?_
  refine CG.region ?_
  refine RG.op (ok_fieldAddr fd24_0 rfl flDExpr_0 rfl (ht rfl)) rfl ?_
  refine RG.op (ok_load ti22 rfl rfl (ht rfl)) rfl ?_
  refine RG.op (ok_lenSl Tryz.underlying22 (ht rfl)) rfl ?_
  refine RG.op (ok_fieldAddr fd24_0 rfl flDExpr_0 rfl (ht rfl)) rfl ?_
  refine RG.op (ok_load ti22 rfl rfl (ht rfl)) rfl ?_
  refine RG.op (ok_lenSl Tryz.underlying22 (ht rfl)) rfl ?_
  refine RG.op (ok_neqI (ht rfl) (ht rfl)) rfl ?_
  refine RG.nil ?_
  refine AT.next ?_
  refine CG.cond (ht rfl) (fun hc => ?_) (fun hc => ?_)
  · have h := ct h hc
    refine CG.seq ?_
    refine CG.region ?_
    refine RG.op (ok_assign hB) rfl ?_
    refine RG.nil ?_
    refine AT.next ?_
    refine CG.ret ?_
    refine AT.then_ret ?_
    cases so h
    exact AT.ret1 rfl rfl
  · have h := cf h hc
    refine CG.skip ?_
    refine AT.next ?_
    refine CG.seq ?_
    refine CG.seq ?_
    refine CG.region ?_
    refine RG.op (ok_fieldAddr fd24_0 rfl flDExpr_0 rfl (ht rfl)) rfl ?_
    refine RG.op (ok_load ti22 rfl rfl (ht rfl)) rfl ?_
    refine RG.op (ok_lenSl Tryz.underlying22 (ht rfl)) rfl ?_
    refine RG.op (ok_move hI) rfl ?_
    refine RG.nil ?_
    refine AT.next ?_
    refine CG.block ?_
    refine CG.have_len (k := 14) rfl (fun hN => ?_)
    refine CG.loop ?_
    refine LG.sub (LG.list1 (Z := fun ls i  => (a1.Nodes.drop i = ls) ∧ ref10_Same_l1 b ls i  = some R) (Of := fun _ i  => []) (Gf := fun _ i  => [(2, tPtr rpDExpr a1), (3, tPtr rpDExpr b), (15, tD (rI .i64) (a1.Nodes.length : Int)), (16, tD (rI .i64) (i : Int))]) (fun i  h => ?_) (fun e tl ih i  h => ?_) a1.Nodes 0  ⟨rfl, h⟩) ⟨rfl, rfl, rfl, rfl, trivial⟩
    · obtain ⟨hx, h⟩ := h
      refine LG.unfold ?_
      refine CG.seq ?_
      refine CG.region ?_
      refine RG.op (ok_lss (ht rfl) (ht rfl)) rfl ?_
      refine RG.nil ?_
      refine AT.next ?_
      refine CG.seq ?_
      refine CG.condF (ht rfl) (dropF hx) ?_
      refine CG.exit ?_
      refine AT.then_exit (AT.then_exit (AT.in_exit ?_))
      refine AT.next ?_
      refine CG.seq ?_
      refine CG.region ?_
      refine RG.op (ok_assign hB) rfl ?_
      refine RG.nil ?_
      refine AT.next ?_
      refine CG.ret ?_
      cases so h
      exact AT.ret1 rfl rfl
    · obtain ⟨hx, h⟩ := h
      refine LG.unfold ?_
      refine CG.seq ?_
      refine CG.region ?_
      refine RG.op (ok_lss (ht rfl) (ht rfl)) rfl ?_
      refine RG.nil ?_
      refine AT.next ?_
      refine CG.seq ?_
      refine CG.condT (ht rfl) (dropT hx) ?_
      refine CG.skip ?_
      refine AT.next ?_
      refine CG.seq ?_
      refine CG.block ?_
      refine CG.seq ?_
      refine CG.region ?_
      refine RG.op (ok_move (ht rfl)) rfl ?_
      refine RG.op (ok_assign (ht rfl)) rfl ?_
      refine RG.nil ?_
      refine AT.next ?_
      refine CG.seq ?_
      obtain ⟨e1, q_e1, h⟩ := bs h
      refine CG.draw (ts := [tPtr (rSl rpDENode) a1.Nodes, tD (rSl rpDENode) a1.Nodes, tD (rI .i64) (i : Int), tPtr rpDENode e, tD rpDENode e, tPtr (rSl rpDENode) b.Nodes, tD (rSl rpDENode) b.Nodes, tD (rI .i64) (i : Int), tPtr rpDENode e1, tD rpDENode e1, tD rB (!decide (e = e1))]) mixed rfl rfl
        ⟨⟨[⟨2, _, none⟩], _, rfl, ⟨rfl, trivial⟩, rfl, rfl, OpG.plain rfl (ok_fieldAddr fd24_0 rfl flDExpr_0 rfl (ht rfl))⟩,
        ⟨⟨[⟨19, _, some 0⟩], _, rfl, ⟨rfl, trivial⟩, rfl, rfl, OpG.plain rfl (ok_load ti22 rfl rfl (ht rfl))⟩,
        ⟨⟨[⟨5, _, none⟩], _, rfl, ⟨rfl, trivial⟩, rfl, rfl, OpG.plain rfl (ok_move (ht rfl))⟩,
        ⟨⟨[⟨20, _, some 1⟩, ⟨21, _, some 2⟩], _, rfl, ⟨rfl, rfl, trivial⟩, rfl, rfl, OpG.plain rfl (ok_indexAddr Tryz.underlying22 ti42 rfl (ht rfl) (ht rfl) (dropI hx))⟩,
        ⟨⟨[⟨22, _, some 3⟩], _, rfl, ⟨rfl, trivial⟩, rfl, rfl, OpG.plain rfl (ok_load ti42 rfl rfl (ht rfl))⟩,
        ⟨⟨[⟨3, _, none⟩], _, rfl, ⟨rfl, trivial⟩, rfl, rfl, OpG.plain rfl (ok_fieldAddr fd24_0 rfl flDExpr_0 rfl (ht rfl))⟩,
        ⟨⟨[⟨24, _, some 5⟩], _, rfl, ⟨rfl, trivial⟩, rfl, rfl, OpG.plain rfl (ok_load ti22 rfl rfl (ht rfl))⟩,
        ⟨⟨[⟨5, _, none⟩], _, rfl, ⟨rfl, trivial⟩, rfl, rfl, OpG.plain rfl (ok_move (ht rfl))⟩,
        ⟨⟨[⟨25, _, some 6⟩, ⟨26, _, some 7⟩], _, rfl, ⟨rfl, rfl, trivial⟩, rfl, rfl, OpG.plain rfl (ok_indexAddr Tryz.underlying22 ti42 rfl (ht rfl) (ht rfl) q_e1)⟩,
        ⟨⟨[⟨27, _, some 8⟩], _, rfl, ⟨rfl, trivial⟩, rfl, rfl, OpG.plain rfl (ok_load ti42 rfl rfl (ht rfl))⟩,
        ⟨⟨[⟨23, _, some 4⟩, ⟨28, _, some 9⟩], _, rfl, ⟨rfl, rfl, trivial⟩, rfl, rfl, OpG.plain rfl (ok_neqD eq42 (ht rfl) (ht rfl))⟩,
        trivial⟩⟩⟩⟩⟩⟩⟩⟩⟩⟩⟩ ?_
      refine AT.next ?_
      refine CG.cond (ht rfl) (fun hc => ?_) (fun hc => ?_)
      · have h := ct h hc
        refine CG.seq ?_
        refine CG.region ?_
        refine RG.op (ok_assign hB) rfl ?_
        refine RG.nil ?_
        refine AT.next ?_
        refine CG.ret ?_
        refine AT.in_ret (AT.then_ret (AT.then_ret (AT.in_ret (AT.then_ret ?_))))
        cases so h
        exact AT.ret1 rfl rfl
      · have h := cf h hc
        refine CG.skip ?_
        refine AT.in_normal ?_
        refine AT.next ?_
        refine CG.region ?_
        refine RG.op (ok_incN (dropL hx hN) (ht rfl) hI) rfl ?_
        refine RG.op (ok_move (ht rfl)) rfl ?_
        refine RG.nil ?_
        exact AT.round (LG.sub (ih (i + 1)  ⟨dropS hx, h⟩) ⟨rfl, rfl, rfl, rfl, trivial⟩)

set_option maxRecDepth 100000 in
theorem f3_ok (p : DExpr) (rows : (List (List DValue))) {R : Bool} (h : law10_ExprEvals p rows = some R) : Spec Tryz.prog 3 [tD rpDExpr p, tD (rSl (rSl rpDValue)) rows] (tD rB R) := by
  refine Spec.of Tryz.func3 rfl rfl rfl fun w0 S0 => ?_
  refine CG.seq ?_
  refine CG.region ?_
  refine RG.op (ok_box (ht rfl)) rfl ?_
  refine RG.op (ok_assign hB) rfl ?_
  refine RG.nil ?_
  refine AT.next ?_
  refine CG.seq ?_
  refine CG.seq ?_
  refine CG.region ?_
  obtain ⟨r, q_r, h⟩ := bs h
  refine RG.op (ok_call cb9 (f9_ok  q_r) trivial) rfl ?_
  refine RG.op (ok_not (ht rfl)) rfl ?_
  refine RG.nil ?_
  refine AT.next ?_
  refine CG.cond (ht rfl) (fun hc => ?_) (fun hc => ?_)
  · have h := ct h hc
    refine CG.seq ?_
    refine CG.region ?_
    refine RG.op (ok_assign hB) rfl ?_
    refine RG.nil ?_
    refine AT.next ?_
    refine CG.ret ?_
    refine AT.then_ret ?_
    cases so h
    exact AT.ret1 rfl rfl
  · have h := cf h hc
    refine CG.skip ?_
    refine AT.next ?_
    refine CG.seq ?_
    refine CG.region ?_
    refine RG.op (ok_load ti24 rfl rfl (ht rfl)) rfl ?_
    obtain ⟨r1, q_r1, h⟩ := bs h
    refine RG.op (ok_call cb10 (f10_ok _ _ q_r1) ⟨(ht rfl), hI, trivial⟩) rfl ?_
    refine RG.alloc (r := rpDExpr) (x := (⟨[]⟩ : DExpr)) ti24 (fun _ => zrDExpr _) rfl (fun b => ?_)
    refine RG.storeB ti24 rfl sfld_whole rfl (ht rfl) (ht rfl) ?_
    refine RG.settleB 5 rfl ?_
    refine RG.nil ?_
    refine AT.next ?_
    refine CG.seq ?_
    refine CG.seq ?_
    refine CG.region ?_
    refine RG.op (ok_move (ht rfl)) rfl ?_
    refine RG.op (ok_lenSl Tryz.underlying25 (ht rfl)) rfl ?_
    refine RG.op (ok_move hI) rfl ?_
    refine RG.nil ?_
    refine AT.next ?_
    refine CG.bjoin0 (Z := law10_ExprEvals_k1 p r1 = some R) (Of := []) (Gf := [(2, tPtr rpDExpr p), (5, tPtr rpDExpr r1)]) (fun h => ?_) (fun K => ?_)
    · skip
      refine AT.next ?_
      refine CG.seq ?_
      obtain ⟨r2, q_r2, h⟩ := bs h
      obtain ⟨r3, q_r3, h⟩ := bs h
      refine CG.draw (ts := [tD rpDExpr r1, tD rpDExpr p, tD rpDExpr r2, tD rB r3, tD rB r3]) mixed rfl rfl
        ⟨⟨[⟨5, _, none⟩], _, rfl, ⟨rfl, trivial⟩, rfl, rfl, OpG.plain rfl (ok_load ti24 rfl rfl (ht rfl))⟩,
        ⟨⟨[⟨2, _, none⟩], _, rfl, ⟨rfl, trivial⟩, rfl, rfl, OpG.plain rfl (ok_load ti24 rfl rfl (ht rfl))⟩,
        ⟨⟨[⟨54, _, some 1⟩], _, rfl, ⟨rfl, trivial⟩, rfl, rfl, OpG.plain rfl (ok_call cb10 (f10_ok _ _ q_r2) ⟨(ht rfl), hI, trivial⟩)⟩,
        ⟨⟨[⟨53, _, some 0⟩, ⟨55, _, some 2⟩], _, rfl, ⟨rfl, rfl, trivial⟩, rfl, rfl, OpG.plain rfl (ok_call cb15 (f15_ok _ _ q_r3) ⟨(ht rfl), (ht rfl), trivial⟩)⟩,
        ⟨⟨[⟨56, _, some 3⟩], _, rfl, ⟨rfl, trivial⟩, rfl, rfl, OpG.plain rfl (ok_assign (ht rfl))⟩,
        trivial⟩⟩⟩⟩⟩ ?_
      refine AT.next ?_
      refine CG.ret ?_
      cases so h
      exact AT.ret1 rfl rfl
    · skip
      refine CG.have_len (k := 17) rfl (fun hN => ?_)
      refine CG.loop ?_
      refine LG.sub (LG.list1 (Z := fun ls i  => (rows.drop i = ls) ∧ law10_ExprEvals_l1 p r1 ls i  = some R) (Of := fun _ i  => []) (Gf := fun _ i  => [(2, tPtr rpDExpr p), (5, tPtr rpDExpr r1), (17, tD (rSl (rSl rpDValue)) rows), (18, tD (rI .i64) (rows.length : Int)), (19, tD (rI .i64) (i : Int))]) (fun i  h => ?_) (fun e tl ih i  h => ?_) rows 0  ⟨rfl, h⟩) ⟨rfl, rfl, rfl, rfl, rfl, trivial⟩
      · obtain ⟨hx, h⟩ := h
        refine LG.unfold ?_
        refine CG.seq ?_
        refine CG.region ?_
        refine RG.op (ok_lss (ht rfl) (ht rfl)) rfl ?_
        refine RG.nil ?_
        refine AT.next ?_
        refine CG.seq ?_
        refine CG.condF (ht rfl) (dropF hx) ?_
        refine CG.exit ?_
        refine AT.then_exit (AT.then_exit (AT.in_exit ?_))
        exact AT.sub (K h) ⟨rfl, rfl, trivial⟩
      · obtain ⟨hx, h⟩ := h
        refine LG.unfold ?_
        refine CG.seq ?_
        refine CG.region ?_
        refine RG.op (ok_lss (ht rfl) (ht rfl)) rfl ?_
        refine RG.nil ?_
        refine AT.next ?_
        refine CG.seq ?_
        refine CG.condT (ht rfl) (dropT hx) ?_
        refine CG.skip ?_
        refine AT.next ?_
        refine CG.seq ?_
        refine CG.block ?_
        refine CG.seq ?_
        refine CG.region ?_
        refine RG.op (ok_move (ht rfl)) rfl ?_
        refine RG.op (ok_indexAddr Tryz.underlying25 ti29 rfl (ht rfl) (ht rfl) (dropI hx)) rfl ?_
        refine RG.op (ok_load ti29 rfl rfl (ht rfl)) rfl ?_
        refine RG.op (ok_assign (ht rfl)) rfl ?_
        refine RG.op (ok_assign (ht rfl)) rfl ?_
        refine RG.nil ?_
        refine AT.next ?_
        refine CG.seq ?_
        refine CG.seq ?_
        refine CG.region ?_
        refine RG.op (ok_move (ht rfl)) rfl ?_
        refine RG.op (ok_eqlI (ht rfl) hI) rfl ?_
        refine RG.nil ?_
        refine AT.next ?_
        refine CG.cond (ht rfl) (fun hc => ?_) (fun hc => ?_)
        · have h := ct h hc
          refine CG.exit ?_
          refine AT.then_exit (AT.in_exit_ne rfl (AT.then_exit (AT.then_exit (AT.in_exit ?_))))
          exact AT.sub (K h) ⟨rfl, rfl, trivial⟩
        · have h := cf h hc
          refine CG.skip ?_
          refine AT.next ?_
          refine CG.seq ?_
          refine CG.region ?_
          refine RG.op (ok_move (ht rfl)) rfl ?_
          obtain ⟨r4, q_r4, h⟩ := bs h
          refine RG.callO cb11 (f11_own _ q_r4) ⟨(ht rfl), trivial⟩ rfl (fun l c => ?_)
          refine RG.op (ok_assign (ht rfl)) rfl ?_
          refine RG.nil ?_
          refine AT.next ?_
          refine CG.seq ?_
          refine CG.region ?_
          refine RG.op (ok_load ti24 rfl rfl (ht rfl)) rfl ?_
          refine RG.op (ok_move (ht rfl)) rfl ?_
          refine RG.freeze ?_
          refine RG.tipAt 27 rfl ?_
          refine RG.tipAt 8 rfl ?_
          refine RG.tipAt 30 rfl ?_
          obtain ⟨r5, q_r5, h⟩ := bs h
          refine RG.op (ok_call cb12 (f12_ok _ _ q_r5) ⟨(ht rfl), (tO_d (ht rfl)), trivial⟩) rfl ?_
          refine RG.op (ok_move (ht rfl)) rfl ?_
          refine RG.op (ok_extract rfl (ht rfl)) rfl ?_
          refine RG.op (ok_extract rfl (ht rfl)) rfl ?_
          refine RG.alloc (r := rpDValue) (x := (⟨(0 : Int), (0 : Int), (0 : Int), []⟩ : DValue)) ti33 (fun _ => zrDValue _) rfl (fun b1 => ?_)
          refine RG.storeB ti33 rfl sfld_whole rfl (ht rfl) (ht rfl) ?_
          refine RG.settleB 9 rfl ?_
          refine RG.op (ok_assign (ht rfl)) rfl ?_
          refine RG.nil ?_
          refine AT.next ?_
          refine CG.seq ?_
          refine CG.region ?_
          refine RG.op (ok_build (y := (⟨(0 : Int), (0 : Int), (0 : Int), []⟩ : DValue)) ti33 fs33 zrDValue (rfl)) rfl ?_
          refine RG.alloc (r := rpDValue) (x := (⟨(0 : Int), (0 : Int), (0 : Int), []⟩ : DValue)) ti33 (fun _ => zrDValue _) rfl (fun b2 => ?_)
          refine RG.storeB ti33 rfl sfld_whole rfl (ht rfl) (ht rfl) ?_
          refine RG.op (ok_assign hI) rfl ?_
          refine RG.nil ?_
          refine AT.next ?_
          refine CG.sjoin2 (Z := fun bad want => law10_ExprEvals_k2 (law10_ExprEvals_l1 p r1 tl) i r5 bad want = some R) (Of := fun bad want => [bx rpDValue 33 b2 want]) (Gf := fun bad want => [(2, tPtr rpDExpr p), (5, tPtr rpDExpr r1), (9, tPtr rpDValue r5.1), (10, tD (rI .i64) r5.2), (11, tV (bptr b2 0)), (12, tD (rI .i64) bad), (17, tD (rSl (rSl rpDValue)) rows), (18, tD (rI .i64) (rows.length : Int)), (19, tD (rI .i64) (i : Int))]) (fun bad want h => ?_) (fun K1 => ?_)
          · skip
            refine CG.seq ?_
            refine CG.region ?_
            refine RG.op (ok_load ti33 rfl rfl (ht rfl)) rfl ?_
            refine RG.op (ok_loadB ti33 rfl rfl fld_whole (.head _) (ht rfl)) rfl ?_
            refine RG.op (ok_neqD eq33 (ht rfl) (ht rfl)) rfl ?_
            refine RG.op (ok_move (ht rfl)) rfl ?_
            refine RG.opGf rfl rfl rfl rfl (fun hg => ok_move (ht rfl)) ?_
            refine RG.opGf rfl rfl rfl rfl (fun hg => ok_move (ht rfl)) ?_
            refine RG.opGf rfl rfl rfl rfl (fun hg => ok_neqI (htO rfl hg) (htO rfl hg)) ?_
            refine RG.op (ok_pickOr (ht rfl) (fun hb => (htO rfl (noti hb)))) rfl ?_
            refine RG.nil ?_
            refine AT.next ?_
            refine CG.cond (ht rfl) (fun hc => ?_) (fun hc => ?_)
            · have h := ct h hc
              refine CG.seq ?_
              refine CG.region ?_
              refine RG.op (ok_assign hB) rfl ?_
              refine RG.nil ?_
              refine AT.next ?_
              refine CG.ret ?_
              refine AT.in_ret (AT.then_ret (AT.then_ret (AT.in_ret (AT.then_ret ?_))))
              refine AT.drop ?_
              cases so h
              exact AT.ret1 rfl rfl
            · have h := cf h hc
              refine CG.skip ?_
              refine AT.in_normal ?_
              refine AT.next ?_
              refine CG.region ?_
              refine RG.op (ok_incN (dropL hx hN) (ht rfl) hI) rfl ?_
              refine RG.op (ok_move (ht rfl)) rfl ?_
              refine RG.nil ?_
              refine AT.drop ?_
              exact AT.round (LG.sub (ih (i + 1)  ⟨dropS hx, h⟩) ⟨rfl, rfl, rfl, rfl, rfl, trivial⟩)
          · skip
            refine CG.seq ?_
            refine CG.region ?_
            refine RG.op (ok_load ti24 rfl rfl (ht rfl)) rfl ?_
            obtain ⟨r6, q_r6, h⟩ := bs h
            refine RG.op (ok_call cb13 (f13_ok _ q_r6) ⟨(ht rfl), trivial⟩) rfl ?_
            refine RG.nil ?_
            refine AT.next ?_
            refine CG.cond (ht rfl) (fun hc => ?_) (fun hc => ?_)
            · have h := ct h hc
              obtain ⟨r7, q_r7, h⟩ := bs h
              obtain ⟨r8, q_r8, h⟩ := bs h
              refine CG.drawS 8 [tc (tD rpDExpr r1), tc (tD (rSl rpDValue) e), tc (tD (rSl rpDValue) r7), tc (tT [tD rpDValue r8.1, tD (rI .i64) r8.2]), tc (tT [tD rpDValue r8.1, tD (rI .i64) r8.2]), tc (tD rpDValue r8.1), tc (tD (rI .i64) r8.2), tc (tAny)] [false, false, false, false, false, false, false, true] [fun _ => [bx rpDValue 33 b2 (⟨(0 : Int), (0 : Int), (0 : Int), []⟩ : DValue), tip rpDValue 33 l c r4], fun sg => [bx rpDValue 33 b2 r8.1, tip rpDValue 33 l c r4]] rfl mixed rfl rfl rfl rfl rfl
                ⟨⟨[⟨5, fun _ => tPtr rpDExpr r1, none⟩], _, 0, 0, rfl, ⟨(fun _ => rfl), trivial⟩, rfl, rfl, rfl, rfl, rfl, fun _ sg _ _ => OpG.plain rfl (ok_load ti24 rfl rfl (ht rfl))⟩,
                ⟨⟨[⟨7, fun _ => tD (rSl rpDValue) e, none⟩], _, 0, 0, rfl, ⟨(fun _ => rfl), trivial⟩, rfl, rfl, rfl, rfl, rfl, fun _ sg _ _ => OpG.plain rfl (ok_move (ht rfl))⟩,
                ⟨⟨[⟨39, fun _ => tD (rSl rpDValue) e, some 1⟩], _, 0, 0, rfl, ⟨(fun _ => rfl), trivial⟩, rfl, rfl, rfl, rfl, rfl, fun _ sg _ _ => OpG.plain rfl (ok_call cb11 (f11_ok _ q_r7) ⟨(ht rfl), trivial⟩)⟩,
                ⟨⟨[⟨38, fun _ => tD rpDExpr r1, some 0⟩, ⟨40, fun _ => tD (rSl rpDValue) r7, some 2⟩], _, 0, 0, rfl, ⟨(fun _ => rfl), (fun _ => rfl), trivial⟩, rfl, rfl, rfl, rfl, rfl, fun _ sg _ _ => OpG.plain rfl (ok_call cb14 (f14_ok _ _ q_r8) ⟨(ht rfl), (ht rfl), trivial⟩)⟩,
                ⟨⟨[⟨41, fun _ => tT [tD rpDValue r8.1, tD (rI .i64) r8.2], some 3⟩], _, 0, 0, rfl, ⟨(fun _ => rfl), trivial⟩, rfl, rfl, rfl, rfl, rfl, fun _ sg _ _ => OpG.plain rfl (ok_move (ht rfl))⟩,
                ⟨⟨[⟨37, fun _ => tT [tD rpDValue r8.1, tD (rI .i64) r8.2], some 4⟩], _, 0, 0, rfl, ⟨(fun _ => rfl), trivial⟩, rfl, rfl, rfl, rfl, rfl, fun _ sg _ _ => OpG.plain rfl (ok_extract rfl (ht rfl))⟩,
                ⟨⟨[⟨37, fun _ => tT [tD rpDValue r8.1, tD (rI .i64) r8.2], some 4⟩], _, 0, 1, rfl, ⟨(fun _ => rfl), trivial⟩, rfl, rfl, rfl, rfl, rfl, fun _ sg _ _ => OpG.plain rfl (ok_extract rfl (ht rfl))⟩,
                ⟨⟨[⟨11, fun _ => tV (bptr b2 0), none⟩, ⟨42, fun _ => tD rpDValue r8.1, some 5⟩], _, rfl, ⟨(fun _ => rfl), (fun _ => rfl), trivial⟩, rfl, rfl, rfl, fun sg => EffG.plain rfl (eff_storeX ti33 rfl (sfx_of sfld_whole) rfl (ht rfl) (ht rfl))⟩,
                trivial⟩⟩⟩⟩⟩⟩⟩⟩ (fun sg => ?_)
              refine (show RG _ _ _ _ [bx rpDValue 33 b2 r8.1, tip rpDValue 33 l c r4] _ from ?_)
              refine RG.op (ok_assign (ht rfl)) rfl ?_
              refine RG.nil ?_
              refine AT.front1 ?_
              refine AT.drop ?_
              exact AT.sub (K1 r8.2 r8.1 h) ⟨rfl, rfl, rfl, rfl, rfl, rfl, rfl, rfl, rfl, trivial⟩
            · have h := cf h hc
              refine CG.skip ?_
              refine AT.front1 ?_
              refine AT.drop ?_
              exact AT.sub (K1 (200 : Int) (⟨(0 : Int), (0 : Int), (0 : Int), []⟩ : DValue) h) ⟨rfl, rfl, rfl, rfl, rfl, rfl, rfl, rfl, rfl, trivial⟩

end Go.Proofs.YtdhledkpgaeoaaaGreatDoor

