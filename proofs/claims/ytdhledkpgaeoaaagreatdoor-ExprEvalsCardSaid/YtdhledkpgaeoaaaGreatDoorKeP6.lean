/- Facts of this claim: P6. -/
import Derived.Test.YtdhledkpgaeoaaaGreatDoorKeT
import Derived.Test.YtdhledkpgaeoaaaGreatDoorKeP5
namespace Go.Proofs.YtdhledkpgaeoaaaGreatDoor
open Go

set_option maxRecDepth 100000 in
theorem f134_ok (a1 : DBig) {R : Int × Bool} (h : ref04_Small a1 = some R) : Spec Tryz.prog 134 [tD rpDBig a1] (tT [tD (rI .i64) R.1, tD rB R.2]) := by
  refine Spec.of Tryz.func134 rfl rfl rfl fun w0 S0 => ?_
  refine CG.seq ?_
  refine CG.region ?_
  refine RG.op (ok_box (ht rfl)) rfl ?_
  refine RG.op (ok_assign hI) rfl ?_
  refine RG.op (ok_assign hB) rfl ?_
  refine RG.nil ?_
  refine AT.next ?_
  refine CG.seq ?_
  refine CG.region ?_
  refine RG.op (ok_load ti136 rfl rfl (ht rfl)) rfl ?_
  obtain ⟨r, q_r, h⟩ := bs h
  refine RG.op (ok_call cb154 (f154_ok _ q_r) ⟨(ht rfl), trivial⟩) rfl ?_
  refine RG.op (ok_move (ht rfl)) rfl ?_
  refine RG.op (ok_extract rfl (ht rfl)) rfl ?_
  refine RG.op (ok_extract rfl (ht rfl)) rfl ?_
  refine RG.op (ok_extract rfl (ht rfl)) rfl ?_
  refine RG.op (ok_assign (ht rfl)) rfl ?_
  refine RG.op (ok_assign (ht rfl)) rfl ?_
  refine RG.op (ok_assign (ht rfl)) rfl ?_
  refine RG.nil ?_
  refine AT.next ?_
  refine CG.seq ?_
  refine CG.region ?_
  refine RG.op (ok_move (ht rfl)) rfl ?_
  refine RG.op (ok_conv Tryz.underlying31 Tryz.underlying2 (ht rfl)) rfl ?_
  refine RG.op (ok_assign (ht rfl)) rfl ?_
  refine RG.nil ?_
  refine AT.next ?_
  refine CG.seq ?_
  refine CG.region ?_
  refine RG.op (ok_move (ht rfl)) rfl ?_
  refine RG.op (ok_move (ht rfl)) rfl ?_
  refine RG.op (ok_move (ht rfl)) rfl ?_
  refine RG.opGt rfl rfl rfl rfl (fun hg => ok_move (ht rfl)) ?_
  refine RG.opGt rfl rfl rfl rfl (fun hg => ok_eqlI (htO rfl hg) hI) ?_
  refine RG.opGt rfl rfl rfl rfl (fun hg => ok_move (htO rfl hg)) ?_
  refine RG.opGot rfl rfl rfl rfl (fun hg => ok_move (ht rfl)) ?_
  refine RG.opGot rfl rfl rfl rfl (fun hg => ok_geq (htO rfl hg) hI) ?_
  refine RG.opGt rfl rfl rfl rfl (fun hg => ok_pickAnd (htO rfl hg) (fun hb => (htO rfl (andi hg hb)))) ?_
  refine RG.opGt rfl rfl rfl rfl (fun hg => ok_move (htO rfl hg)) ?_
  refine RG.opGof rfl rfl rfl rfl (fun hg => ok_move (ht rfl)) ?_
  refine RG.opGof rfl rfl rfl rfl (fun hg => ok_eqlI (htO rfl hg) hI) ?_
  refine RG.opGof rfl rfl rfl rfl (fun hg => ok_move (htO rfl hg)) ?_
  refine RG.opGot rfl rfl rfl rfl (fun hg => ok_move (ht rfl)) ?_
  refine RG.opGot rfl rfl rfl rfl (fun hg => ok_lss (htO rfl hg) hI) ?_
  refine RG.opGof rfl rfl rfl rfl (fun hg => ok_pickAnd (htO rfl hg) (fun hb => (htO rfl (andi hg hb)))) ?_
  refine RG.opGt rfl rfl rfl rfl (fun hg => ok_pickOr (htO rfl hg) (fun hb => (htO rfl (andi hg (noti hb))))) ?_
  refine RG.op (ok_pickAnd (ht rfl) (fun hb => (htO rfl hb))) rfl ?_
  refine RG.op (ok_assign (ht rfl)) rfl ?_
  refine RG.op (ok_assign (ht rfl)) rfl ?_
  refine RG.nil ?_
  refine AT.next ?_
  refine CG.ret ?_
  cases so h
  exact AT.ret2 rfl rfl rfl

set_option maxRecDepth 100000 in
theorem f89_ok (op : Int) (a1 : DValue) (b : DValue) {R : DValue × Int} (h : ref04_Do op a1 b = some R) : Spec Tryz.prog 89 [tD (rI .u8) op, tD rpDValue a1, tD rpDValue b] (tT [tD rpDValue R.1, tD (rI .i64) R.2]) := by
  refine Spec.of Tryz.func89 rfl rfl rfl fun w0 S0 => ?_
  refine CG.seq ?_
  refine CG.region ?_
  refine RG.op (ok_box (ht rfl)) rfl ?_
  refine RG.op (ok_box (ht rfl)) rfl ?_
  refine RG.alloc (r := rpDValue) (x := (⟨(0 : Int), (0 : Int), (0 : Int), []⟩ : DValue)) ti33 (fun _ => zrDValue _) rfl (fun b1 => ?_)
  refine RG.op (ok_assign hI) rfl ?_
  refine RG.nil ?_
  refine AT.next ?_
  refine CG.seq ?_
  refine CG.block ?_
  refine CG.seq ?_
  refine CG.region ?_
  refine RG.op (ok_load ti33 rfl rfl (ht rfl)) rfl ?_
  obtain ⟨r, q_r, h⟩ := bs h
  refine RG.op (ok_call cb88 (f88_ok _ q_r) ⟨(ht rfl), trivial⟩) rfl ?_
  refine RG.op (ok_not (ht rfl)) rfl ?_
  refine RG.op (ok_move (ht rfl)) rfl ?_
  obtain ⟨t, q_t, h⟩ := bs h
  refine RG.opGf rfl rfl rfl rfl (fun hg => ok_load ti33 rfl rfl (ht rfl)) ?_
  obtain ⟨r1, h1t, h0t⟩ := og q_t
  have q_r1g := fun hb => (h1t hb).1
  refine RG.opGf rfl rfl rfl rfl (fun hg => ok_call cb88 (f88_ok _ (q_r1g hg)) ⟨(htO rfl hg), trivial⟩) ?_
  refine RG.opGf rfl rfl rfl rfl (fun hg => ok_not (htO rfl hg)) ?_
  refine RG.op (ok_pickOrM (ht rfl) (fun hb => (htO rfl (noti hb))) (fun hb => (h1t hb).2) h0t) rfl ?_
  refine RG.op (ok_assign (ht rfl)) rfl ?_
  refine RG.nil ?_
  refine AT.next ?_
  refine CG.cond (ht rfl) (fun hc => ?_) (fun hc => ?_)
  · have h := ct h hc
    refine CG.seq ?_
    refine CG.region ?_
    refine RG.op (ok_build (y := (⟨(0 : Int), (0 : Int), (0 : Int), []⟩ : DValue)) ti33 fs33 zrDValue (rfl)) rfl ?_
    refine RG.storeB ti33 rfl sfld_whole rfl (ht rfl) (ht rfl) ?_
    refine RG.op (ok_assign hI) rfl ?_
    refine RG.nil ?_
    refine AT.next ?_
    refine CG.ret ?_
    refine AT.in_ret (AT.then_ret ?_)
    refine AT.settleB 6 rfl ?_
    cases so h
    exact AT.retL (rvs := [.cell 6 33, .tmp 7]) rfl rfl ⟨res_cell ti33 rfl rfl rfl, res_tmp rfl, trivial⟩
  · have h := cf h hc
    refine CG.seq ?_
    refine CG.region ?_
    refine RG.op (ok_load ti33 rfl rfl (ht rfl)) rfl ?_
    obtain ⟨r2, q_r2, h⟩ := bs h
    refine RG.op (ok_call cb128 (f128_ok _ q_r2) ⟨(ht rfl), trivial⟩) rfl ?_
    refine RG.op (ok_not (ht rfl)) rfl ?_
    refine RG.op (ok_move (ht rfl)) rfl ?_
    obtain ⟨t1, q_t1, h⟩ := bs h
    refine RG.opGf rfl rfl rfl rfl (fun hg => ok_load ti33 rfl rfl (ht rfl)) ?_
    obtain ⟨r3, h1t1, h0t1⟩ := og q_t1
    have q_r3g := fun hb => (h1t1 hb).1
    refine RG.opGf rfl rfl rfl rfl (fun hg => ok_call cb128 (f128_ok _ (q_r3g hg)) ⟨(htO rfl hg), trivial⟩) ?_
    refine RG.opGf rfl rfl rfl rfl (fun hg => ok_not (htO rfl hg)) ?_
    refine RG.op (ok_pickOrM (ht rfl) (fun hb => (htO rfl (noti hb))) (fun hb => (h1t1 hb).2) h0t1) rfl ?_
    refine RG.op (ok_assign (ht rfl)) rfl ?_
    refine RG.nil ?_
    refine AT.next ?_
    refine CG.cond (ht rfl) (fun hc => ?_) (fun hc => ?_)
    · have h := ct h hc
      refine CG.seq ?_
      refine CG.region ?_
      refine RG.op (ok_build (y := (⟨(0 : Int), (0 : Int), (0 : Int), []⟩ : DValue)) ti33 fs33 zrDValue (rfl)) rfl ?_
      refine RG.storeB ti33 rfl sfld_whole rfl (ht rfl) (ht rfl) ?_
      refine RG.op (ok_assign hI) rfl ?_
      refine RG.nil ?_
      refine AT.next ?_
      refine CG.ret ?_
      refine AT.in_ret (AT.then_ret ?_)
      refine AT.settleB 6 rfl ?_
      cases so h
      exact AT.retL (rvs := [.cell 6 33, .tmp 7]) rfl rfl ⟨res_cell ti33 rfl rfl rfl, res_tmp rfl, trivial⟩
    · have h := cf h hc
      refine CG.seq ?_
      refine CG.region ?_
      refine RG.op (ok_fieldAddr fd33_0 rfl flDValue_0 rfl (ht rfl)) rfl ?_
      refine RG.op (ok_load ti3 rfl rfl (ht rfl)) rfl ?_
      refine RG.op (ok_eqlI (ht rfl) hI) rfl ?_
      refine RG.op (ok_move (ht rfl)) rfl ?_
      refine RG.opGf rfl rfl rfl rfl (fun hg => ok_fieldAddr fd33_0 rfl flDValue_0 rfl (ht rfl)) ?_
      refine RG.opGf rfl rfl rfl rfl (fun hg => ok_load ti3 rfl rfl (htO rfl hg)) ?_
      refine RG.opGf rfl rfl rfl rfl (fun hg => ok_eqlI (htO rfl hg) hI) ?_
      refine RG.op (ok_pickOr (ht rfl) (fun hb => (htO rfl (noti hb)))) rfl ?_
      refine RG.op (ok_assign (ht rfl)) rfl ?_
      refine RG.nil ?_
      refine AT.next ?_
      refine CG.cond (ht rfl) (fun hc => ?_) (fun hc => ?_)
      · have h := ct h hc
        refine CG.seq ?_
        refine CG.region ?_
        refine RG.op (ok_build (y := (⟨(0 : Int), (0 : Int), (0 : Int), []⟩ : DValue)) ti33 fs33 zrDValue (rfl)) rfl ?_
        refine RG.storeB ti33 rfl sfld_whole rfl (ht rfl) (ht rfl) ?_
        refine RG.op (ok_assign hI) rfl ?_
        refine RG.nil ?_
        refine AT.next ?_
        refine CG.ret ?_
        refine AT.in_ret (AT.then_ret ?_)
        refine AT.settleB 6 rfl ?_
        cases so h
        exact AT.retL (rvs := [.cell 6 33, .tmp 7]) rfl rfl ⟨res_cell ti33 rfl rfl rfl, res_tmp rfl, trivial⟩
      · have h := cf h hc
        refine CG.skip ?_
        refine AT.in_normal ?_
        refine AT.next ?_
        refine CG.seq ?_
        refine CG.region ?_
        refine RG.alloc (r := rpDBig) (x := (⟨(List.replicate 8 (0 : Int)), false⟩ : DBig)) ti136 (fun _ => zrDBig _) rfl (fun b2 => ?_)
        refine RG.nil ?_
        refine AT.next ?_
        refine CG.seq ?_
        refine CG.seq ?_
        refine CG.region ?_
        refine RG.op (ok_move (ht rfl)) rfl ?_
        refine RG.nil ?_
        refine AT.next ?_
        refine CG.block ?_
        refine CG.seq ?_
        refine CG.region ?_
        refine RG.op (ok_eqlI (ht rfl) hI) rfl ?_
        refine RG.op (ok_assign (ht rfl)) rfl ?_
        refine RG.nil ?_
        refine AT.next ?_
        refine CG.cond (ht rfl) (fun hc => ?_) (fun hc => ?_)
        · have h := ct h hc
          obtain ⟨r4, q_r4, h⟩ := bs h
          obtain ⟨r5, q_r5, h⟩ := bs h
          obtain ⟨r6, q_r6, h⟩ := bs h
          refine CG.drawM 7 (ts := [tPtr (rI .i64) a1.N, tD (rI .i64) a1.N, tD rpDBig r4, tPtr (rI .i64) b.N, tD (rI .i64) b.N, tD rpDBig r5, tD rpDBig r6]) mixed rfl rfl rfl
            ⟨⟨[⟨4, _, none⟩], _, rfl, ⟨rfl, trivial⟩, rfl, rfl, OpG.plain rfl (ok_fieldAddr fd33_1 rfl flDValue_1 rfl (ht rfl))⟩,
            ⟨⟨[⟨55, _, some 0⟩], _, rfl, ⟨rfl, trivial⟩, rfl, rfl, OpG.plain rfl (ok_load ti2 rfl rfl (ht rfl))⟩,
            ⟨⟨[⟨56, _, some 1⟩], _, rfl, ⟨rfl, trivial⟩, rfl, rfl, OpG.plain rfl (ok_call cb130 (f130_ok _ q_r4) ⟨(ht rfl), trivial⟩)⟩,
            ⟨⟨[⟨5, _, none⟩], _, rfl, ⟨rfl, trivial⟩, rfl, rfl, OpG.plain rfl (ok_fieldAddr fd33_1 rfl flDValue_1 rfl (ht rfl))⟩,
            ⟨⟨[⟨58, _, some 3⟩], _, rfl, ⟨rfl, trivial⟩, rfl, rfl, OpG.plain rfl (ok_load ti2 rfl rfl (ht rfl))⟩,
            ⟨⟨[⟨59, _, some 4⟩], _, rfl, ⟨rfl, trivial⟩, rfl, rfl, OpG.plain rfl (ok_call cb130 (f130_ok _ q_r5) ⟨(ht rfl), trivial⟩)⟩,
            ⟨⟨[⟨57, _, some 2⟩, ⟨60, _, some 5⟩], _, rfl, ⟨rfl, rfl, trivial⟩, rfl, rfl, OpG.plain rfl (ok_call cb129 (f129_ok _ _ q_r6) ⟨(ht rfl), (ht rfl), trivial⟩)⟩,
            trivial⟩⟩⟩⟩⟩⟩⟩ ?_
          refine RG.storeB ti136 rfl sfld_whole rfl (ht rfl) (ht rfl) ?_
          refine RG.nil ?_
          refine AT.in_normal ?_
          refine AT.next ?_
          refine CG.seq ?_
          refine CG.region ?_
          refine RG.op (ok_loadB ti136 rfl rfl fld_whole (.head _) (ht rfl)) rfl ?_
          obtain ⟨r7, q_r7, h⟩ := bs h
          refine RG.op (ok_call cb134 (f134_ok _ q_r7) ⟨(ht rfl), trivial⟩) rfl ?_
          refine RG.op (ok_move (ht rfl)) rfl ?_
          refine RG.op (ok_extract rfl (ht rfl)) rfl ?_
          refine RG.op (ok_extract rfl (ht rfl)) rfl ?_
          refine RG.op (ok_assign (ht rfl)) rfl ?_
          refine RG.op (ok_assign (ht rfl)) rfl ?_
          refine RG.nil ?_
          refine AT.next ?_
          refine CG.seq ?_
          refine CG.seq ?_
          refine CG.region ?_
          refine RG.op (ok_move (ht rfl)) rfl ?_
          refine RG.op (ok_not (ht rfl)) rfl ?_
          refine RG.nil ?_
          refine AT.next ?_
          refine CG.cond (ht rfl) (fun hc => ?_) (fun hc => ?_)
          · have h := ct h hc
            refine CG.seq ?_
            refine CG.region ?_
            refine RG.op (ok_build (y := (⟨(0 : Int), (0 : Int), (0 : Int), []⟩ : DValue)) ti33 fs33 zrDValue (rfl)) rfl ?_
            refine RG.front1 ?_
            refine RG.storeB ti33 rfl sfld_whole rfl (ht rfl) (ht rfl) ?_
            refine RG.op (ok_assign hI) rfl ?_
            refine RG.nil ?_
            refine AT.next ?_
            refine CG.ret ?_
            refine AT.then_ret ?_
            refine AT.settleB 6 rfl ?_
            refine AT.drop ?_
            cases so h
            exact AT.retL (rvs := [.cell 6 33, .tmp 7]) rfl rfl ⟨res_cell ti33 rfl rfl rfl, res_tmp rfl, trivial⟩
          · have h := cf h hc
            refine CG.skip ?_
            refine AT.next ?_
            refine CG.seq ?_
            refine CG.region ?_
            refine RG.op (ok_move (ht rfl)) rfl ?_
            obtain ⟨r8, q_r8, h⟩ := bs h
            refine RG.op (ok_call cb90 (f90_ok _ q_r8) ⟨(ht rfl), trivial⟩) rfl ?_
            refine RG.front1 ?_
            refine RG.storeB ti33 rfl sfld_whole rfl (ht rfl) (ht rfl) ?_
            refine RG.op (ok_assign hI) rfl ?_
            refine RG.nil ?_
            refine AT.next ?_
            refine CG.ret ?_
            refine AT.settleB 6 rfl ?_
            refine AT.drop ?_
            cases so h
            exact AT.retL (rvs := [.cell 6 33, .tmp 7]) rfl rfl ⟨res_cell ti33 rfl rfl rfl, res_tmp rfl, trivial⟩
        · have h := cf h hc
          refine CG.seq ?_
          refine CG.region ?_
          refine RG.op (ok_eqlI (ht rfl) hI) rfl ?_
          refine RG.op (ok_assign (ht rfl)) rfl ?_
          refine RG.nil ?_
          refine AT.next ?_
          refine CG.cond (ht rfl) (fun hc => ?_) (fun hc => ?_)
          · have h := ct h hc
            obtain ⟨r9, q_r9, h⟩ := bs h
            obtain ⟨r10, q_r10, h⟩ := bs h
            obtain ⟨r11, q_r11, h⟩ := bs h
            obtain ⟨r12, q_r12, h⟩ := bs h
            refine CG.drawM 8 (ts := [tPtr (rI .i64) a1.N, tD (rI .i64) a1.N, tD rpDBig r9, tPtr (rI .i64) b.N, tD (rI .i64) b.N, tD rpDBig r10, tD rpDBig r11, tD rpDBig r12]) mixed rfl rfl rfl
              ⟨⟨[⟨4, _, none⟩], _, rfl, ⟨rfl, trivial⟩, rfl, rfl, OpG.plain rfl (ok_fieldAddr fd33_1 rfl flDValue_1 rfl (ht rfl))⟩,
              ⟨⟨[⟨64, _, some 0⟩], _, rfl, ⟨rfl, trivial⟩, rfl, rfl, OpG.plain rfl (ok_load ti2 rfl rfl (ht rfl))⟩,
              ⟨⟨[⟨65, _, some 1⟩], _, rfl, ⟨rfl, trivial⟩, rfl, rfl, OpG.plain rfl (ok_call cb130 (f130_ok _ q_r9) ⟨(ht rfl), trivial⟩)⟩,
              ⟨⟨[⟨5, _, none⟩], _, rfl, ⟨rfl, trivial⟩, rfl, rfl, OpG.plain rfl (ok_fieldAddr fd33_1 rfl flDValue_1 rfl (ht rfl))⟩,
              ⟨⟨[⟨67, _, some 3⟩], _, rfl, ⟨rfl, trivial⟩, rfl, rfl, OpG.plain rfl (ok_load ti2 rfl rfl (ht rfl))⟩,
              ⟨⟨[⟨68, _, some 4⟩], _, rfl, ⟨rfl, trivial⟩, rfl, rfl, OpG.plain rfl (ok_call cb130 (f130_ok _ q_r10) ⟨(ht rfl), trivial⟩)⟩,
              ⟨⟨[⟨69, _, some 5⟩], _, rfl, ⟨rfl, trivial⟩, rfl, rfl, OpG.plain rfl (ok_call cb131 (f131_ok _ q_r11) ⟨(ht rfl), trivial⟩)⟩,
              ⟨⟨[⟨66, _, some 2⟩, ⟨70, _, some 6⟩], _, rfl, ⟨rfl, rfl, trivial⟩, rfl, rfl, OpG.plain rfl (ok_call cb129 (f129_ok _ _ q_r12) ⟨(ht rfl), (ht rfl), trivial⟩)⟩,
              trivial⟩⟩⟩⟩⟩⟩⟩⟩ ?_
            refine RG.storeB ti136 rfl sfld_whole rfl (ht rfl) (ht rfl) ?_
            refine RG.nil ?_
            refine AT.in_normal ?_
            refine AT.next ?_
            refine CG.seq ?_
            refine CG.region ?_
            refine RG.op (ok_loadB ti136 rfl rfl fld_whole (.head _) (ht rfl)) rfl ?_
            obtain ⟨r13, q_r13, h⟩ := bs h
            refine RG.op (ok_call cb134 (f134_ok _ q_r13) ⟨(ht rfl), trivial⟩) rfl ?_
            refine RG.op (ok_move (ht rfl)) rfl ?_
            refine RG.op (ok_extract rfl (ht rfl)) rfl ?_
            refine RG.op (ok_extract rfl (ht rfl)) rfl ?_
            refine RG.op (ok_assign (ht rfl)) rfl ?_
            refine RG.op (ok_assign (ht rfl)) rfl ?_
            refine RG.nil ?_
            refine AT.next ?_
            refine CG.seq ?_
            refine CG.seq ?_
            refine CG.region ?_
            refine RG.op (ok_move (ht rfl)) rfl ?_
            refine RG.op (ok_not (ht rfl)) rfl ?_
            refine RG.nil ?_
            refine AT.next ?_
            refine CG.cond (ht rfl) (fun hc => ?_) (fun hc => ?_)
            · have h := ct h hc
              refine CG.seq ?_
              refine CG.region ?_
              refine RG.op (ok_build (y := (⟨(0 : Int), (0 : Int), (0 : Int), []⟩ : DValue)) ti33 fs33 zrDValue (rfl)) rfl ?_
              refine RG.front1 ?_
              refine RG.storeB ti33 rfl sfld_whole rfl (ht rfl) (ht rfl) ?_
              refine RG.op (ok_assign hI) rfl ?_
              refine RG.nil ?_
              refine AT.next ?_
              refine CG.ret ?_
              refine AT.then_ret ?_
              refine AT.settleB 6 rfl ?_
              refine AT.drop ?_
              cases so h
              exact AT.retL (rvs := [.cell 6 33, .tmp 7]) rfl rfl ⟨res_cell ti33 rfl rfl rfl, res_tmp rfl, trivial⟩
            · have h := cf h hc
              refine CG.skip ?_
              refine AT.next ?_
              refine CG.seq ?_
              refine CG.region ?_
              refine RG.op (ok_move (ht rfl)) rfl ?_
              obtain ⟨r14, q_r14, h⟩ := bs h
              refine RG.op (ok_call cb90 (f90_ok _ q_r14) ⟨(ht rfl), trivial⟩) rfl ?_
              refine RG.front1 ?_
              refine RG.storeB ti33 rfl sfld_whole rfl (ht rfl) (ht rfl) ?_
              refine RG.op (ok_assign hI) rfl ?_
              refine RG.nil ?_
              refine AT.next ?_
              refine CG.ret ?_
              refine AT.settleB 6 rfl ?_
              refine AT.drop ?_
              cases so h
              exact AT.retL (rvs := [.cell 6 33, .tmp 7]) rfl rfl ⟨res_cell ti33 rfl rfl rfl, res_tmp rfl, trivial⟩
          · have h := cf h hc
            refine CG.seq ?_
            refine CG.region ?_
            refine RG.op (ok_eqlI (ht rfl) hI) rfl ?_
            refine RG.op (ok_assign (ht rfl)) rfl ?_
            refine RG.nil ?_
            refine AT.next ?_
            refine CG.cond (ht rfl) (fun hc => ?_) (fun hc => ?_)
            · have h := ct h hc
              obtain ⟨r15, q_r15, h⟩ := bs h
              obtain ⟨r16, q_r16, h⟩ := bs h
              obtain ⟨r17, q_r17, h⟩ := bs h
              refine CG.drawM 7 (ts := [tPtr (rI .i64) a1.N, tD (rI .i64) a1.N, tD rpDBig r15, tPtr (rI .i64) b.N, tD (rI .i64) b.N, tD rpDBig r16, tD rpDBig r17]) mixed rfl rfl rfl
                ⟨⟨[⟨4, _, none⟩], _, rfl, ⟨rfl, trivial⟩, rfl, rfl, OpG.plain rfl (ok_fieldAddr fd33_1 rfl flDValue_1 rfl (ht rfl))⟩,
                ⟨⟨[⟨74, _, some 0⟩], _, rfl, ⟨rfl, trivial⟩, rfl, rfl, OpG.plain rfl (ok_load ti2 rfl rfl (ht rfl))⟩,
                ⟨⟨[⟨75, _, some 1⟩], _, rfl, ⟨rfl, trivial⟩, rfl, rfl, OpG.plain rfl (ok_call cb130 (f130_ok _ q_r15) ⟨(ht rfl), trivial⟩)⟩,
                ⟨⟨[⟨5, _, none⟩], _, rfl, ⟨rfl, trivial⟩, rfl, rfl, OpG.plain rfl (ok_fieldAddr fd33_1 rfl flDValue_1 rfl (ht rfl))⟩,
                ⟨⟨[⟨77, _, some 3⟩], _, rfl, ⟨rfl, trivial⟩, rfl, rfl, OpG.plain rfl (ok_load ti2 rfl rfl (ht rfl))⟩,
                ⟨⟨[⟨78, _, some 4⟩], _, rfl, ⟨rfl, trivial⟩, rfl, rfl, OpG.plain rfl (ok_call cb130 (f130_ok _ q_r16) ⟨(ht rfl), trivial⟩)⟩,
                ⟨⟨[⟨76, _, some 2⟩, ⟨79, _, some 5⟩], _, rfl, ⟨rfl, rfl, trivial⟩, rfl, rfl, OpG.plain rfl (ok_call cb132 (f132_ok _ _ q_r17) ⟨(ht rfl), (ht rfl), trivial⟩)⟩,
                trivial⟩⟩⟩⟩⟩⟩⟩ ?_
              refine RG.storeB ti136 rfl sfld_whole rfl (ht rfl) (ht rfl) ?_
              refine RG.nil ?_
              refine AT.in_normal ?_
              refine AT.next ?_
              refine CG.seq ?_
              refine CG.region ?_
              refine RG.op (ok_loadB ti136 rfl rfl fld_whole (.head _) (ht rfl)) rfl ?_
              obtain ⟨r18, q_r18, h⟩ := bs h
              refine RG.op (ok_call cb134 (f134_ok _ q_r18) ⟨(ht rfl), trivial⟩) rfl ?_
              refine RG.op (ok_move (ht rfl)) rfl ?_
              refine RG.op (ok_extract rfl (ht rfl)) rfl ?_
              refine RG.op (ok_extract rfl (ht rfl)) rfl ?_
              refine RG.op (ok_assign (ht rfl)) rfl ?_
              refine RG.op (ok_assign (ht rfl)) rfl ?_
              refine RG.nil ?_
              refine AT.next ?_
              refine CG.seq ?_
              refine CG.seq ?_
              refine CG.region ?_
              refine RG.op (ok_move (ht rfl)) rfl ?_
              refine RG.op (ok_not (ht rfl)) rfl ?_
              refine RG.nil ?_
              refine AT.next ?_
              refine CG.cond (ht rfl) (fun hc => ?_) (fun hc => ?_)
              · have h := ct h hc
                refine CG.seq ?_
                refine CG.region ?_
                refine RG.op (ok_build (y := (⟨(0 : Int), (0 : Int), (0 : Int), []⟩ : DValue)) ti33 fs33 zrDValue (rfl)) rfl ?_
                refine RG.front1 ?_
                refine RG.storeB ti33 rfl sfld_whole rfl (ht rfl) (ht rfl) ?_
                refine RG.op (ok_assign hI) rfl ?_
                refine RG.nil ?_
                refine AT.next ?_
                refine CG.ret ?_
                refine AT.then_ret ?_
                refine AT.settleB 6 rfl ?_
                refine AT.drop ?_
                cases so h
                exact AT.retL (rvs := [.cell 6 33, .tmp 7]) rfl rfl ⟨res_cell ti33 rfl rfl rfl, res_tmp rfl, trivial⟩
              · have h := cf h hc
                refine CG.skip ?_
                refine AT.next ?_
                refine CG.seq ?_
                refine CG.region ?_
                refine RG.op (ok_move (ht rfl)) rfl ?_
                obtain ⟨r19, q_r19, h⟩ := bs h
                refine RG.op (ok_call cb90 (f90_ok _ q_r19) ⟨(ht rfl), trivial⟩) rfl ?_
                refine RG.front1 ?_
                refine RG.storeB ti33 rfl sfld_whole rfl (ht rfl) (ht rfl) ?_
                refine RG.op (ok_assign hI) rfl ?_
                refine RG.nil ?_
                refine AT.next ?_
                refine CG.ret ?_
                refine AT.settleB 6 rfl ?_
                refine AT.drop ?_
                cases so h
                exact AT.retL (rvs := [.cell 6 33, .tmp 7]) rfl rfl ⟨res_cell ti33 rfl rfl rfl, res_tmp rfl, trivial⟩
            · have h := cf h hc
              refine CG.seq ?_
              refine CG.seq ?_
              refine CG.region ?_
              refine RG.op (ok_fieldAddr fd33_1 rfl flDValue_1 rfl (ht rfl)) rfl ?_
              refine RG.op (ok_load ti2 rfl rfl (ht rfl)) rfl ?_
              refine RG.op (ok_eqlI (ht rfl) hI) rfl ?_
              refine RG.nil ?_
              refine AT.next ?_
              refine CG.cond (ht rfl) (fun hc => ?_) (fun hc => ?_)
              · have h := ct h hc
                refine CG.seq ?_
                refine CG.region ?_
                refine RG.op (ok_build (y := (⟨(0 : Int), (0 : Int), (0 : Int), []⟩ : DValue)) ti33 fs33 zrDValue (rfl)) rfl ?_
                refine RG.front1 ?_
                refine RG.storeB ti33 rfl sfld_whole rfl (ht rfl) (ht rfl) ?_
                refine RG.op (ok_assign hI) rfl ?_
                refine RG.nil ?_
                refine AT.next ?_
                refine CG.ret ?_
                refine AT.then_ret (AT.in_ret (AT.then_ret ?_))
                refine AT.settleB 6 rfl ?_
                refine AT.drop ?_
                cases so h
                exact AT.retL (rvs := [.cell 6 33, .tmp 7]) rfl rfl ⟨res_cell ti33 rfl rfl rfl, res_tmp rfl, trivial⟩
              · have h := cf h hc
                refine CG.skip ?_
                refine AT.next ?_
                obtain ⟨r20, q_r20, h⟩ := bs h
                obtain ⟨r21, q_r21, h⟩ := bs h
                obtain ⟨r22, q_r22, h⟩ := bs h
                refine CG.drawM 7 (ts := [tPtr (rI .i64) a1.N, tD (rI .i64) a1.N, tD rpDBig r20, tPtr (rI .i64) b.N, tD (rI .i64) b.N, tD rpDBig r21, tD rpDBig r22]) mixed rfl rfl rfl
                  ⟨⟨[⟨4, _, none⟩], _, rfl, ⟨rfl, trivial⟩, rfl, rfl, OpG.plain rfl (ok_fieldAddr fd33_1 rfl flDValue_1 rfl (ht rfl))⟩,
                  ⟨⟨[⟨46, _, some 0⟩], _, rfl, ⟨rfl, trivial⟩, rfl, rfl, OpG.plain rfl (ok_load ti2 rfl rfl (ht rfl))⟩,
                  ⟨⟨[⟨47, _, some 1⟩], _, rfl, ⟨rfl, trivial⟩, rfl, rfl, OpG.plain rfl (ok_call cb130 (f130_ok _ q_r20) ⟨(ht rfl), trivial⟩)⟩,
                  ⟨⟨[⟨5, _, none⟩], _, rfl, ⟨rfl, trivial⟩, rfl, rfl, OpG.plain rfl (ok_fieldAddr fd33_1 rfl flDValue_1 rfl (ht rfl))⟩,
                  ⟨⟨[⟨49, _, some 3⟩], _, rfl, ⟨rfl, trivial⟩, rfl, rfl, OpG.plain rfl (ok_load ti2 rfl rfl (ht rfl))⟩,
                  ⟨⟨[⟨50, _, some 4⟩], _, rfl, ⟨rfl, trivial⟩, rfl, rfl, OpG.plain rfl (ok_call cb130 (f130_ok _ q_r21) ⟨(ht rfl), trivial⟩)⟩,
                  ⟨⟨[⟨48, _, some 2⟩, ⟨51, _, some 5⟩], _, rfl, ⟨rfl, rfl, trivial⟩, rfl, rfl, OpG.plain rfl (ok_call cb133 (f133_ok _ _ q_r22) ⟨(ht rfl), (ht rfl), trivial⟩)⟩,
                  trivial⟩⟩⟩⟩⟩⟩⟩ ?_
                refine RG.storeB ti136 rfl sfld_whole rfl (ht rfl) (ht rfl) ?_
                refine RG.nil ?_
                refine AT.in_normal ?_
                refine AT.next ?_
                refine CG.seq ?_
                refine CG.region ?_
                refine RG.op (ok_loadB ti136 rfl rfl fld_whole (.head _) (ht rfl)) rfl ?_
                obtain ⟨r23, q_r23, h⟩ := bs h
                refine RG.op (ok_call cb134 (f134_ok _ q_r23) ⟨(ht rfl), trivial⟩) rfl ?_
                refine RG.op (ok_move (ht rfl)) rfl ?_
                refine RG.op (ok_extract rfl (ht rfl)) rfl ?_
                refine RG.op (ok_extract rfl (ht rfl)) rfl ?_
                refine RG.op (ok_assign (ht rfl)) rfl ?_
                refine RG.op (ok_assign (ht rfl)) rfl ?_
                refine RG.nil ?_
                refine AT.next ?_
                refine CG.seq ?_
                refine CG.seq ?_
                refine CG.region ?_
                refine RG.op (ok_move (ht rfl)) rfl ?_
                refine RG.op (ok_not (ht rfl)) rfl ?_
                refine RG.nil ?_
                refine AT.next ?_
                refine CG.cond (ht rfl) (fun hc => ?_) (fun hc => ?_)
                · have h := ct h hc
                  refine CG.seq ?_
                  refine CG.region ?_
                  refine RG.op (ok_build (y := (⟨(0 : Int), (0 : Int), (0 : Int), []⟩ : DValue)) ti33 fs33 zrDValue (rfl)) rfl ?_
                  refine RG.front1 ?_
                  refine RG.storeB ti33 rfl sfld_whole rfl (ht rfl) (ht rfl) ?_
                  refine RG.op (ok_assign hI) rfl ?_
                  refine RG.nil ?_
                  refine AT.next ?_
                  refine CG.ret ?_
                  refine AT.then_ret ?_
                  refine AT.settleB 6 rfl ?_
                  refine AT.drop ?_
                  cases so h
                  exact AT.retL (rvs := [.cell 6 33, .tmp 7]) rfl rfl ⟨res_cell ti33 rfl rfl rfl, res_tmp rfl, trivial⟩
                · have h := cf h hc
                  refine CG.skip ?_
                  refine AT.next ?_
                  refine CG.seq ?_
                  refine CG.region ?_
                  refine RG.op (ok_move (ht rfl)) rfl ?_
                  obtain ⟨r24, q_r24, h⟩ := bs h
                  refine RG.op (ok_call cb90 (f90_ok _ q_r24) ⟨(ht rfl), trivial⟩) rfl ?_
                  refine RG.front1 ?_
                  refine RG.storeB ti33 rfl sfld_whole rfl (ht rfl) (ht rfl) ?_
                  refine RG.op (ok_assign hI) rfl ?_
                  refine RG.nil ?_
                  refine AT.next ?_
                  refine CG.ret ?_
                  refine AT.settleB 6 rfl ?_
                  refine AT.drop ?_
                  cases so h
                  exact AT.retL (rvs := [.cell 6 33, .tmp 7]) rfl rfl ⟨res_cell ti33 rfl rfl rfl, res_tmp rfl, trivial⟩

set_option maxRecDepth 100000 in
theorem f94_ok (b : Bool) {R : DValue} (h : ref02_Bool b = some R) : Spec Tryz.prog 94 [tD rB b] (tD rpDValue R) := by
  refine Spec.of Tryz.func94 rfl rfl rfl fun w0 S0 => ?_
  refine CG.seq ?_
  refine CG.region ?_
  refine RG.alloc (r := rpDValue) (x := (⟨(0 : Int), (0 : Int), (0 : Int), []⟩ : DValue)) ti33 (fun _ => zrDValue _) rfl (fun b1 => ?_)
  refine RG.nil ?_
  refine AT.next ?_
  refine CG.seq ?_
  refine CG.seq ?_
  refine CG.region ?_
  refine RG.op (ok_move (ht rfl)) rfl ?_
  refine RG.nil ?_
  refine AT.next ?_
  refine CG.cond (ht rfl) (fun hc => ?_) (fun hc => ?_)
  · have h := ct h hc
    refine CG.seq ?_
    refine CG.region ?_
    refine RG.op (ok_build (y := (⟨(1 : Int), (1 : Int), (0 : Int), []⟩ : DValue)) ti33 fs33 zrDValue (⟨_, _, _, _, _, rfl, sfDValue_0, rfl, hI, ⟨_, _, _, _, _, rfl, sfDValue_1, rfl, hI, rfl⟩⟩)) rfl ?_
    refine RG.storeB ti33 rfl sfld_whole rfl (ht rfl) (ht rfl) ?_
    refine RG.nil ?_
    refine AT.next ?_
    refine CG.ret ?_
    refine AT.then_ret ?_
    refine AT.settleB 2 rfl ?_
    cases so h
    exact AT.ret1c rfl ti33 rfl rfl rfl
  · have h := cf h hc
    refine CG.skip ?_
    refine AT.next ?_
    refine CG.seq ?_
    refine CG.region ?_
    refine RG.op (ok_build (y := (⟨(1 : Int), (0 : Int), (0 : Int), []⟩ : DValue)) ti33 fs33 zrDValue (⟨_, _, _, _, _, rfl, sfDValue_0, rfl, hI, rfl⟩)) rfl ?_
    refine RG.storeB ti33 rfl sfld_whole rfl (ht rfl) (ht rfl) ?_
    refine RG.nil ?_
    refine AT.next ?_
    refine CG.ret ?_
    refine AT.settleB 2 rfl ?_
    cases so h
    exact AT.ret1c rfl ti33 rfl rfl rfl

set_option maxRecDepth 100000 in
theorem f135_ok (a1 : DValue) (b : DValue) {R : Int} (h : ref02_truths a1 b = some R) : Spec Tryz.prog 135 [tD rpDValue a1, tD rpDValue b] (tD (rI .i64) R) := by
  refine Spec.of Tryz.func135 rfl rfl rfl fun w0 S0 => ?_
  refine CG.seq ?_
  refine CG.region ?_
  refine RG.op (ok_box (ht rfl)) rfl ?_
  refine RG.op (ok_box (ht rfl)) rfl ?_
  refine RG.op (ok_assign hI) rfl ?_
  refine RG.nil ?_
  refine AT.next ?_
  refine CG.seq ?_
  refine CG.block ?_
  refine CG.seq ?_
  refine CG.region ?_
  refine RG.op (ok_load ti33 rfl rfl (ht rfl)) rfl ?_
  obtain ⟨r, q_r, h⟩ := bs h
  refine RG.op (ok_call cb88 (f88_ok _ q_r) ⟨(ht rfl), trivial⟩) rfl ?_
  refine RG.op (ok_not (ht rfl)) rfl ?_
  refine RG.op (ok_move (ht rfl)) rfl ?_
  obtain ⟨t, q_t, h⟩ := bs h
  refine RG.opGf rfl rfl rfl rfl (fun hg => ok_load ti33 rfl rfl (ht rfl)) ?_
  obtain ⟨r1, h1t, h0t⟩ := og q_t
  have q_r1g := fun hb => (h1t hb).1
  refine RG.opGf rfl rfl rfl rfl (fun hg => ok_call cb88 (f88_ok _ (q_r1g hg)) ⟨(htO rfl hg), trivial⟩) ?_
  refine RG.opGf rfl rfl rfl rfl (fun hg => ok_not (htO rfl hg)) ?_
  refine RG.op (ok_pickOrM (ht rfl) (fun hb => (htO rfl (noti hb))) (fun hb => (h1t hb).2) h0t) rfl ?_
  refine RG.op (ok_assign (ht rfl)) rfl ?_
  refine RG.nil ?_
  refine AT.next ?_
  refine CG.cond (ht rfl) (fun hc => ?_) (fun hc => ?_)
  · have h := ct h hc
    refine CG.seq ?_
    refine CG.region ?_
    refine RG.op (ok_assign hI) rfl ?_
    refine RG.nil ?_
    refine AT.next ?_
    refine CG.ret ?_
    refine AT.in_ret (AT.then_ret ?_)
    cases so h
    exact AT.ret1 rfl rfl
  · have h := cf h hc
    refine CG.seq ?_
    refine CG.region ?_
    refine RG.op (ok_fieldAddr fd33_0 rfl flDValue_0 rfl (ht rfl)) rfl ?_
    refine RG.op (ok_load ti3 rfl rfl (ht rfl)) rfl ?_
    refine RG.op (ok_gtr (ht rfl) hI) rfl ?_
    refine RG.op (ok_move (ht rfl)) rfl ?_
    refine RG.opGf rfl rfl rfl rfl (fun hg => ok_fieldAddr fd33_0 rfl flDValue_0 rfl (ht rfl)) ?_
    refine RG.opGf rfl rfl rfl rfl (fun hg => ok_load ti3 rfl rfl (htO rfl hg)) ?_
    refine RG.opGf rfl rfl rfl rfl (fun hg => ok_gtr (htO rfl hg) hI) ?_
    refine RG.op (ok_pickOr (ht rfl) (fun hb => (htO rfl (noti hb)))) rfl ?_
    refine RG.op (ok_assign (ht rfl)) rfl ?_
    refine RG.nil ?_
    refine AT.next ?_
    refine CG.cond (ht rfl) (fun hc => ?_) (fun hc => ?_)
    · have h := ct h hc
      refine CG.seq ?_
      refine CG.region ?_
      refine RG.op (ok_assign hI) rfl ?_
      refine RG.nil ?_
      refine AT.next ?_
      refine CG.ret ?_
      refine AT.in_ret (AT.then_ret ?_)
      cases so h
      exact AT.ret1 rfl rfl
    · have h := cf h hc
      refine CG.skip ?_
      refine AT.in_normal ?_
      refine AT.next ?_
      refine CG.seq ?_
      refine CG.region ?_
      refine RG.op (ok_assign hI) rfl ?_
      refine RG.nil ?_
      refine AT.next ?_
      refine CG.ret ?_
      cases so h
      exact AT.ret1 rfl rfl

set_option maxRecDepth 100000 in
theorem f91_ok (a1 : DValue) {R : DValue × Int} (h : ref02_Not a1 = some R) : Spec Tryz.prog 91 [tD rpDValue a1] (tT [tD rpDValue R.1, tD (rI .i64) R.2]) := by
  refine Spec.of Tryz.func91 rfl rfl rfl fun w0 S0 => ?_
  refine CG.seq ?_
  refine CG.region ?_
  refine RG.op (ok_box (ht rfl)) rfl ?_
  refine RG.alloc (r := rpDValue) (x := (⟨(0 : Int), (0 : Int), (0 : Int), []⟩ : DValue)) ti33 (fun _ => zrDValue _) rfl (fun b => ?_)
  refine RG.op (ok_assign hI) rfl ?_
  refine RG.nil ?_
  refine AT.next ?_
  refine CG.seq ?_
  refine CG.region ?_
  refine RG.op (ok_load ti33 rfl rfl (ht rfl)) rfl ?_
  refine RG.op (ok_load ti33 rfl rfl (ht rfl)) rfl ?_
  obtain ⟨r, q_r, h⟩ := bs h
  refine RG.op (ok_call cb135 (f135_ok _ _ q_r) ⟨(ht rfl), (ht rfl), trivial⟩) rfl ?_
  refine RG.op (ok_assign (ht rfl)) rfl ?_
  refine RG.nil ?_
  refine AT.next ?_
  refine CG.seq ?_
  refine CG.seq ?_
  refine CG.region ?_
  refine RG.op (ok_move (ht rfl)) rfl ?_
  refine RG.op (ok_neqI (ht rfl) hI) rfl ?_
  refine RG.op (ok_move (ht rfl)) rfl ?_
  refine RG.opGf rfl rfl rfl rfl (fun hg => ok_fieldAddr fd33_0 rfl flDValue_0 rfl (ht rfl)) ?_
  refine RG.opGf rfl rfl rfl rfl (fun hg => ok_load ti3 rfl rfl (htO rfl hg)) ?_
  refine RG.opGf rfl rfl rfl rfl (fun hg => ok_eqlI (htO rfl hg) hI) ?_
  refine RG.op (ok_pickOr (ht rfl) (fun hb => (htO rfl (noti hb)))) rfl ?_
  refine RG.nil ?_
  refine AT.next ?_
  refine CG.cond (ht rfl) (fun hc => ?_) (fun hc => ?_)
  · have h := ct h hc
    refine CG.seq ?_
    refine CG.region ?_
    refine RG.op (ok_build (y := (⟨(0 : Int), (0 : Int), (0 : Int), []⟩ : DValue)) ti33 fs33 zrDValue (rfl)) rfl ?_
    refine RG.op (ok_move (ht rfl)) rfl ?_
    refine RG.storeB ti33 rfl sfld_whole rfl (ht rfl) (ht rfl) ?_
    refine RG.op (ok_assign (ht rfl)) rfl ?_
    refine RG.nil ?_
    refine AT.next ?_
    refine CG.ret ?_
    refine AT.then_ret ?_
    refine AT.settleB 2 rfl ?_
    cases so h
    exact AT.retL (rvs := [.cell 2 33, .tmp 3]) rfl rfl ⟨res_cell ti33 rfl rfl rfl, res_tmp rfl, trivial⟩
  · have h := cf h hc
    refine CG.skip ?_
    refine AT.next ?_
    refine CG.seq ?_
    refine CG.region ?_
    refine RG.op (ok_fieldAddr fd33_1 rfl flDValue_1 rfl (ht rfl)) rfl ?_
    refine RG.op (ok_load ti2 rfl rfl (ht rfl)) rfl ?_
    refine RG.op (ok_eqlI (ht rfl) hI) rfl ?_
    obtain ⟨r1, q_r1, h⟩ := bs h
    refine RG.op (ok_call cb94 (f94_ok _ q_r1) ⟨(ht rfl), trivial⟩) rfl ?_
    refine RG.storeB ti33 rfl sfld_whole rfl (ht rfl) (ht rfl) ?_
    refine RG.op (ok_assign hI) rfl ?_
    refine RG.nil ?_
    refine AT.next ?_
    refine CG.ret ?_
    refine AT.settleB 2 rfl ?_
    cases so h
    exact AT.retL (rvs := [.cell 2 33, .tmp 3]) rfl rfl ⟨res_cell ti33 rfl rfl rfl, res_tmp rfl, trivial⟩

set_option maxRecDepth 100000 in
theorem f92_ok (a1 : DValue) (b : DValue) {R : DValue × Int} (h : ref02_And a1 b = some R) : Spec Tryz.prog 92 [tD rpDValue a1, tD rpDValue b] (tT [tD rpDValue R.1, tD (rI .i64) R.2]) := by
  refine Spec.of Tryz.func92 rfl rfl rfl fun w0 S0 => ?_
  refine CG.seq ?_
  refine CG.region ?_
  refine RG.op (ok_box (ht rfl)) rfl ?_
  refine RG.op (ok_box (ht rfl)) rfl ?_
  refine RG.alloc (r := rpDValue) (x := (⟨(0 : Int), (0 : Int), (0 : Int), []⟩ : DValue)) ti33 (fun _ => zrDValue _) rfl (fun b1 => ?_)
  refine RG.op (ok_assign hI) rfl ?_
  refine RG.nil ?_
  refine AT.next ?_
  refine CG.seq ?_
  refine CG.region ?_
  refine RG.op (ok_load ti33 rfl rfl (ht rfl)) rfl ?_
  refine RG.op (ok_load ti33 rfl rfl (ht rfl)) rfl ?_
  obtain ⟨r, q_r, h⟩ := bs h
  refine RG.op (ok_call cb135 (f135_ok _ _ q_r) ⟨(ht rfl), (ht rfl), trivial⟩) rfl ?_
  refine RG.op (ok_assign (ht rfl)) rfl ?_
  refine RG.nil ?_
  refine AT.next ?_
  refine CG.seq ?_
  refine CG.region ?_
  obtain ⟨r1, q_r1, h⟩ := bs h
  refine RG.op (ok_call cb94 (f94_ok _ q_r1) ⟨hB, trivial⟩) rfl ?_
  refine RG.alloc (r := rpDValue) (x := (⟨(0 : Int), (0 : Int), (0 : Int), []⟩ : DValue)) ti33 (fun _ => zrDValue _) rfl (fun b2 => ?_)
  refine RG.storeB ti33 rfl sfld_whole rfl (ht rfl) (ht rfl) ?_
  refine RG.settleB 7 rfl ?_
  refine RG.nil ?_
  refine AT.next ?_
  refine CG.seq ?_
  refine CG.block ?_
  refine CG.seq ?_
  refine CG.region ?_
  refine RG.op (ok_move (ht rfl)) rfl ?_
  refine RG.op (ok_neqI (ht rfl) hI) rfl ?_
  refine RG.op (ok_assign (ht rfl)) rfl ?_
  refine RG.nil ?_
  refine AT.next ?_
  refine CG.cond (ht rfl) (fun hc => ?_) (fun hc => ?_)
  · have h := ct h hc
    refine CG.seq ?_
    refine CG.region ?_
    refine RG.op (ok_build (y := (⟨(0 : Int), (0 : Int), (0 : Int), []⟩ : DValue)) ti33 fs33 zrDValue (rfl)) rfl ?_
    refine RG.op (ok_move (ht rfl)) rfl ?_
    refine RG.storeB ti33 rfl sfld_whole rfl (ht rfl) (ht rfl) ?_
    refine RG.op (ok_assign (ht rfl)) rfl ?_
    refine RG.nil ?_
    refine AT.next ?_
    refine CG.ret ?_
    refine AT.in_ret (AT.then_ret ?_)
    refine AT.settleB 4 rfl ?_
    cases so h
    exact AT.retL (rvs := [.cell 4 33, .tmp 5]) rfl rfl ⟨res_cell ti33 rfl rfl rfl, res_tmp rfl, trivial⟩
  · have h := cf h hc
    refine CG.seq ?_
    refine CG.region ?_
    refine RG.op (ok_load ti33 rfl rfl (ht rfl)) rfl ?_
    refine RG.op (ok_load ti33 rfl rfl (ht rfl)) rfl ?_
    refine RG.op (ok_eqlD eq33 (ht rfl) (ht rfl)) rfl ?_
    refine RG.op (ok_move (ht rfl)) rfl ?_
    refine RG.opGf rfl rfl rfl rfl (fun hg => ok_load ti33 rfl rfl (ht rfl)) ?_
    refine RG.opGf rfl rfl rfl rfl (fun hg => ok_load ti33 rfl rfl (ht rfl)) ?_
    refine RG.opGf rfl rfl rfl rfl (fun hg => ok_eqlD eq33 (htO rfl hg) (htO rfl hg)) ?_
    refine RG.op (ok_pickOr (ht rfl) (fun hb => (htO rfl (noti hb)))) rfl ?_
    refine RG.op (ok_assign (ht rfl)) rfl ?_
    refine RG.nil ?_
    refine AT.next ?_
    refine CG.cond (ht rfl) (fun hc => ?_) (fun hc => ?_)
    · have h := ct h hc
      refine CG.seq ?_
      refine CG.region ?_
      refine RG.op (ok_load ti33 rfl rfl (ht rfl)) rfl ?_
      refine RG.storeB ti33 rfl sfld_whole rfl (ht rfl) (ht rfl) ?_
      refine RG.op (ok_assign hI) rfl ?_
      refine RG.nil ?_
      refine AT.next ?_
      refine CG.ret ?_
      refine AT.in_ret (AT.then_ret ?_)
      refine AT.settleB 4 rfl ?_
      cases so h
      exact AT.retL (rvs := [.cell 4 33, .tmp 5]) rfl rfl ⟨res_cell ti33 rfl rfl rfl, res_tmp rfl, trivial⟩
    · have h := cf h hc
      refine CG.seq ?_
      refine CG.region ?_
      refine RG.op (ok_fieldAddr fd33_0 rfl flDValue_0 rfl (ht rfl)) rfl ?_
      refine RG.op (ok_load ti3 rfl rfl (ht rfl)) rfl ?_
      refine RG.op (ok_eqlI (ht rfl) hI) rfl ?_
      refine RG.op (ok_move (ht rfl)) rfl ?_
      refine RG.opGf rfl rfl rfl rfl (fun hg => ok_fieldAddr fd33_0 rfl flDValue_0 rfl (ht rfl)) ?_
      refine RG.opGf rfl rfl rfl rfl (fun hg => ok_load ti3 rfl rfl (htO rfl hg)) ?_
      refine RG.opGf rfl rfl rfl rfl (fun hg => ok_eqlI (htO rfl hg) hI) ?_
      refine RG.op (ok_pickOr (ht rfl) (fun hb => (htO rfl (noti hb)))) rfl ?_
      refine RG.op (ok_assign (ht rfl)) rfl ?_
      refine RG.nil ?_
      refine AT.next ?_
      refine CG.cond (ht rfl) (fun hc => ?_) (fun hc => ?_)
      · have h := ct h hc
        refine CG.seq ?_
        refine CG.region ?_
        refine RG.op (ok_build (y := (⟨(0 : Int), (0 : Int), (0 : Int), []⟩ : DValue)) ti33 fs33 zrDValue (rfl)) rfl ?_
        refine RG.storeB ti33 rfl sfld_whole rfl (ht rfl) (ht rfl) ?_
        refine RG.op (ok_assign hI) rfl ?_
        refine RG.nil ?_
        refine AT.next ?_
        refine CG.ret ?_
        refine AT.in_ret (AT.then_ret ?_)
        refine AT.settleB 4 rfl ?_
        cases so h
        exact AT.retL (rvs := [.cell 4 33, .tmp 5]) rfl rfl ⟨res_cell ti33 rfl rfl rfl, res_tmp rfl, trivial⟩
      · have h := cf h hc
        refine CG.skip ?_
        refine AT.in_normal ?_
        refine AT.next ?_
        refine CG.seq ?_
        refine CG.region ?_
        obtain ⟨r2, q_r2, h⟩ := bs h
        refine RG.op (ok_call cb94 (f94_ok _ q_r2) ⟨hB, trivial⟩) rfl ?_
        refine RG.storeB ti33 rfl sfld_whole rfl (ht rfl) (ht rfl) ?_
        refine RG.op (ok_assign hI) rfl ?_
        refine RG.nil ?_
        refine AT.next ?_
        refine CG.ret ?_
        refine AT.settleB 4 rfl ?_
        cases so h
        exact AT.retL (rvs := [.cell 4 33, .tmp 5]) rfl rfl ⟨res_cell ti33 rfl rfl rfl, res_tmp rfl, trivial⟩

set_option maxRecDepth 100000 in
theorem f93_ok (a1 : DValue) (b : DValue) {R : DValue × Int} (h : ref02_Or a1 b = some R) : Spec Tryz.prog 93 [tD rpDValue a1, tD rpDValue b] (tT [tD rpDValue R.1, tD (rI .i64) R.2]) := by
  refine Spec.of Tryz.func93 rfl rfl rfl fun w0 S0 => ?_
  refine CG.seq ?_
  refine CG.region ?_
  refine RG.op (ok_box (ht rfl)) rfl ?_
  refine RG.op (ok_box (ht rfl)) rfl ?_
  refine RG.alloc (r := rpDValue) (x := (⟨(0 : Int), (0 : Int), (0 : Int), []⟩ : DValue)) ti33 (fun _ => zrDValue _) rfl (fun b1 => ?_)
  refine RG.op (ok_assign hI) rfl ?_
  refine RG.nil ?_
  refine AT.next ?_
  refine CG.seq ?_
  refine CG.seq ?_
  refine CG.region ?_
  refine RG.op (ok_load ti33 rfl rfl (ht rfl)) rfl ?_
  refine RG.op (ok_load ti33 rfl rfl (ht rfl)) rfl ?_
  obtain ⟨r, q_r, h⟩ := bs h
  refine RG.op (ok_call cb135 (f135_ok _ _ q_r) ⟨(ht rfl), (ht rfl), trivial⟩) rfl ?_
  refine RG.op (ok_assign (ht rfl)) rfl ?_
  refine RG.nil ?_
  refine AT.next ?_
  refine CG.seq ?_
  refine CG.region ?_
  refine RG.op (ok_move (ht rfl)) rfl ?_
  refine RG.op (ok_neqI (ht rfl) hI) rfl ?_
  refine RG.nil ?_
  refine AT.next ?_
  refine CG.cond (ht rfl) (fun hc => ?_) (fun hc => ?_)
  · have h := ct h hc
    refine CG.seq ?_
    refine CG.region ?_
    refine RG.op (ok_build (y := (⟨(0 : Int), (0 : Int), (0 : Int), []⟩ : DValue)) ti33 fs33 zrDValue (rfl)) rfl ?_
    refine RG.op (ok_move (ht rfl)) rfl ?_
    refine RG.storeB ti33 rfl sfld_whole rfl (ht rfl) (ht rfl) ?_
    refine RG.op (ok_assign (ht rfl)) rfl ?_
    refine RG.nil ?_
    refine AT.next ?_
    refine CG.ret ?_
    refine AT.then_ret ?_
    refine AT.settleB 4 rfl ?_
    cases so h
    exact AT.retL (rvs := [.cell 4 33, .tmp 5]) rfl rfl ⟨res_cell ti33 rfl rfl rfl, res_tmp rfl, trivial⟩
  · have h := cf h hc
    refine CG.skip ?_
    refine AT.next ?_
    refine CG.seq ?_
    refine CG.region ?_
    refine RG.op (ok_load ti33 rfl rfl (ht rfl)) rfl ?_
    obtain ⟨r1, q_r1, h⟩ := bs h
    refine RG.op (ok_call cb91 (f91_ok _ q_r1) ⟨(ht rfl), trivial⟩) rfl ?_
    refine RG.op (ok_move (ht rfl)) rfl ?_
    refine RG.op (ok_extract rfl (ht rfl)) rfl ?_
    refine RG.op (ok_extract rfl (ht rfl)) rfl ?_
    refine RG.alloc (r := rpDValue) (x := (⟨(0 : Int), (0 : Int), (0 : Int), []⟩ : DValue)) ti33 (fun _ => zrDValue _) rfl (fun b2 => ?_)
    refine RG.storeB ti33 rfl sfld_whole rfl (ht rfl) (ht rfl) ?_
    refine RG.settleB 7 rfl ?_
    refine RG.op (ok_assign (ht rfl)) rfl ?_
    refine RG.nil ?_
    refine AT.next ?_
    refine CG.seq ?_
    refine CG.region ?_
    refine RG.op (ok_load ti33 rfl rfl (ht rfl)) rfl ?_
    obtain ⟨r2, q_r2, h⟩ := bs h
    refine RG.op (ok_call cb91 (f91_ok _ q_r2) ⟨(ht rfl), trivial⟩) rfl ?_
    refine RG.op (ok_move (ht rfl)) rfl ?_
    refine RG.op (ok_extract rfl (ht rfl)) rfl ?_
    refine RG.op (ok_extract rfl (ht rfl)) rfl ?_
    refine RG.alloc (r := rpDValue) (x := (⟨(0 : Int), (0 : Int), (0 : Int), []⟩ : DValue)) ti33 (fun _ => zrDValue _) rfl (fun b3 => ?_)
    refine RG.storeB ti33 rfl sfld_whole rfl (ht rfl) (ht rfl) ?_
    refine RG.settleB 9 rfl ?_
    refine RG.op (ok_assign (ht rfl)) rfl ?_
    refine RG.nil ?_
    refine AT.next ?_
    refine CG.seq ?_
    refine CG.region ?_
    refine RG.op (ok_load ti33 rfl rfl (ht rfl)) rfl ?_
    refine RG.op (ok_load ti33 rfl rfl (ht rfl)) rfl ?_
    obtain ⟨r3, q_r3, h⟩ := bs h
    refine RG.op (ok_call cb92 (f92_ok _ _ q_r3) ⟨(ht rfl), (ht rfl), trivial⟩) rfl ?_
    refine RG.op (ok_move (ht rfl)) rfl ?_
    refine RG.op (ok_extract rfl (ht rfl)) rfl ?_
    refine RG.op (ok_extract rfl (ht rfl)) rfl ?_
    refine RG.alloc (r := rpDValue) (x := (⟨(0 : Int), (0 : Int), (0 : Int), []⟩ : DValue)) ti33 (fun _ => zrDValue _) rfl (fun b4 => ?_)
    refine RG.storeB ti33 rfl sfld_whole rfl (ht rfl) (ht rfl) ?_
    refine RG.settleB 11 rfl ?_
    refine RG.op (ok_assign (ht rfl)) rfl ?_
    refine RG.nil ?_
    refine AT.next ?_
    refine CG.seq ?_
    refine CG.region ?_
    refine RG.op (ok_load ti33 rfl rfl (ht rfl)) rfl ?_
    obtain ⟨r4, q_r4, h⟩ := bs h
    refine RG.op (ok_call cb91 (f91_ok _ q_r4) ⟨(ht rfl), trivial⟩) rfl ?_
    refine RG.op (ok_extract rfl (ht rfl)) rfl ?_
    refine RG.op (ok_extract rfl (ht rfl)) rfl ?_
    refine RG.storeB ti33 rfl sfld_whole rfl (ht rfl) (ht rfl) ?_
    refine RG.op (ok_assign (ht rfl)) rfl ?_
    refine RG.nil ?_
    refine AT.next ?_
    refine CG.ret ?_
    refine AT.settleB 4 rfl ?_
    cases so h
    exact AT.retL (rvs := [.cell 4 33, .tmp 5]) rfl rfl ⟨res_cell ti33 rfl rfl rfl, res_tmp rfl, trivial⟩

set_option maxRecDepth 100000 in
theorem f155_ok (a1 : DValue) (b : DValue) {R : Int} (h : ref02_both a1 b = some R) : Spec Tryz.prog 155 [tD rpDValue a1, tD rpDValue b] (tD (rI .i64) R) := by
  refine Spec.of Tryz.func155 rfl rfl rfl fun w0 S0 => ?_
  refine CG.seq ?_
  refine CG.region ?_
  refine RG.op (ok_box (ht rfl)) rfl ?_
  refine RG.op (ok_box (ht rfl)) rfl ?_
  refine RG.op (ok_assign hI) rfl ?_
  refine RG.nil ?_
  refine AT.next ?_
  refine CG.seq ?_
  refine CG.block ?_
  refine CG.seq ?_
  refine CG.region ?_
  refine RG.op (ok_load ti33 rfl rfl (ht rfl)) rfl ?_
  obtain ⟨r, q_r, h⟩ := bs h
  refine RG.op (ok_call cb88 (f88_ok _ q_r) ⟨(ht rfl), trivial⟩) rfl ?_
  refine RG.op (ok_not (ht rfl)) rfl ?_
  refine RG.op (ok_move (ht rfl)) rfl ?_
  obtain ⟨t, q_t, h⟩ := bs h
  refine RG.opGf rfl rfl rfl rfl (fun hg => ok_load ti33 rfl rfl (ht rfl)) ?_
  obtain ⟨r1, h1t, h0t⟩ := og q_t
  have q_r1g := fun hb => (h1t hb).1
  refine RG.opGf rfl rfl rfl rfl (fun hg => ok_call cb88 (f88_ok _ (q_r1g hg)) ⟨(htO rfl hg), trivial⟩) ?_
  refine RG.opGf rfl rfl rfl rfl (fun hg => ok_not (htO rfl hg)) ?_
  refine RG.op (ok_pickOrM (ht rfl) (fun hb => (htO rfl (noti hb))) (fun hb => (h1t hb).2) h0t) rfl ?_
  refine RG.op (ok_assign (ht rfl)) rfl ?_
  refine RG.nil ?_
  refine AT.next ?_
  refine CG.cond (ht rfl) (fun hc => ?_) (fun hc => ?_)
  · have h := ct h hc
    refine CG.seq ?_
    refine CG.region ?_
    refine RG.op (ok_assign hI) rfl ?_
    refine RG.nil ?_
    refine AT.next ?_
    refine CG.ret ?_
    refine AT.in_ret (AT.then_ret ?_)
    cases so h
    exact AT.ret1 rfl rfl
  · have h := cf h hc
    refine CG.seq ?_
    refine CG.region ?_
    refine RG.op (ok_load ti33 rfl rfl (ht rfl)) rfl ?_
    obtain ⟨r2, q_r2, h⟩ := bs h
    refine RG.op (ok_call cb48 (f48_ok _ q_r2) ⟨(ht rfl), trivial⟩) rfl ?_
    refine RG.op (ok_not (ht rfl)) rfl ?_
    refine RG.op (ok_move (ht rfl)) rfl ?_
    obtain ⟨t1, q_t1, h⟩ := bs h
    refine RG.opGf rfl rfl rfl rfl (fun hg => ok_load ti33 rfl rfl (ht rfl)) ?_
    obtain ⟨r3, h1t1, h0t1⟩ := og q_t1
    have q_r3g := fun hb => (h1t1 hb).1
    refine RG.opGf rfl rfl rfl rfl (fun hg => ok_call cb48 (f48_ok _ (q_r3g hg)) ⟨(htO rfl hg), trivial⟩) ?_
    refine RG.opGf rfl rfl rfl rfl (fun hg => ok_not (htO rfl hg)) ?_
    refine RG.op (ok_pickOrM (ht rfl) (fun hb => (htO rfl (noti hb))) (fun hb => (h1t1 hb).2) h0t1) rfl ?_
    refine RG.op (ok_move (ht rfl)) rfl ?_
    refine RG.opGf rfl rfl rfl rfl (fun hg => ok_fieldAddr fd33_0 rfl flDValue_0 rfl (ht rfl)) ?_
    refine RG.opGf rfl rfl rfl rfl (fun hg => ok_load ti3 rfl rfl (htO rfl hg)) ?_
    refine RG.opGf rfl rfl rfl rfl (fun hg => ok_neqI (htO rfl hg) hI) ?_
    refine RG.opGf rfl rfl rfl rfl (fun hg => ok_move (htO rfl hg)) ?_
    refine RG.opGot rfl rfl rfl rfl (fun hg => ok_fieldAddr fd33_0 rfl flDValue_0 rfl (ht rfl)) ?_
    refine RG.opGot rfl rfl rfl rfl (fun hg => ok_load ti3 rfl rfl (htO rfl hg)) ?_
    refine RG.opGot rfl rfl rfl rfl (fun hg => ok_neqI (htO rfl hg) hI) ?_
    refine RG.opGf rfl rfl rfl rfl (fun hg => ok_pickAnd (htO rfl hg) (fun hb => (htO rfl (andi hg hb)))) ?_
    refine RG.opGf rfl rfl rfl rfl (fun hg => ok_move (htO rfl hg)) ?_
    refine RG.opGot rfl rfl rfl rfl (fun hg => ok_fieldAddr fd33_0 rfl flDValue_0 rfl (ht rfl)) ?_
    refine RG.opGot rfl rfl rfl rfl (fun hg => ok_load ti3 rfl rfl (htO rfl hg)) ?_
    refine RG.opGot rfl rfl rfl rfl (fun hg => ok_fieldAddr fd33_0 rfl flDValue_0 rfl (ht rfl)) ?_
    refine RG.opGot rfl rfl rfl rfl (fun hg => ok_load ti3 rfl rfl (htO rfl hg)) ?_
    refine RG.opGot rfl rfl rfl rfl (fun hg => ok_neqI (htO rfl hg) (htO rfl hg)) ?_
    refine RG.opGf rfl rfl rfl rfl (fun hg => ok_pickAnd (htO rfl hg) (fun hb => (htO rfl (andi hg hb)))) ?_
    refine RG.op (ok_pickOr (ht rfl) (fun hb => (htO rfl (noti hb)))) rfl ?_
    refine RG.op (ok_assign (ht rfl)) rfl ?_
    refine RG.nil ?_
    refine AT.next ?_
    refine CG.cond (ht rfl) (fun hc => ?_) (fun hc => ?_)
    · have h := ct h hc
      refine CG.seq ?_
      refine CG.region ?_
      refine RG.op (ok_assign hI) rfl ?_
      refine RG.nil ?_
      refine AT.next ?_
      refine CG.ret ?_
      refine AT.in_ret (AT.then_ret ?_)
      cases so h
      exact AT.ret1 rfl rfl
    · have h := cf h hc
      refine CG.skip ?_
      refine AT.in_normal ?_
      refine AT.next ?_
      refine CG.seq ?_
      refine CG.region ?_
      refine RG.op (ok_assign hI) rfl ?_
      refine RG.nil ?_
      refine AT.next ?_
      refine CG.ret ?_
      cases so h
      exact AT.ret1 rfl rfl

set_option maxRecDepth 100000 in
theorem f156_ok (a1 : DValue) (b : DValue) {R : Int} (h : ref02_Compare a1 b = some R) : Spec Tryz.prog 156 [tD rpDValue a1, tD rpDValue b] (tD (rI .i64) R) := by
  refine Spec.of Tryz.func156 rfl rfl rfl fun w0 S0 => ?_
  refine CG.seq ?_
  refine CG.region ?_
  refine RG.op (ok_box (ht rfl)) rfl ?_
  refine RG.op (ok_box (ht rfl)) rfl ?_
  refine RG.op (ok_assign hI) rfl ?_
  refine RG.nil ?_
  refine AT.next ?_
  refine CG.seq ?_
  refine CG.seq ?_
  refine CG.region ?_
  refine RG.op (ok_load ti33 rfl rfl (ht rfl)) rfl ?_
  obtain ⟨r, q_r, h⟩ := bs h
  refine RG.op (ok_call cb48 (f48_ok _ q_r) ⟨(ht rfl), trivial⟩) rfl ?_
  refine RG.op (ok_not (ht rfl)) rfl ?_
  refine RG.op (ok_move (ht rfl)) rfl ?_
  obtain ⟨t, q_t, h⟩ := bs h
  refine RG.opGf rfl rfl rfl rfl (fun hg => ok_load ti33 rfl rfl (ht rfl)) ?_
  obtain ⟨r1, h1t, h0t⟩ := og q_t
  have q_r1g := fun hb => (h1t hb).1
  refine RG.opGf rfl rfl rfl rfl (fun hg => ok_call cb48 (f48_ok _ (q_r1g hg)) ⟨(htO rfl hg), trivial⟩) ?_
  refine RG.opGf rfl rfl rfl rfl (fun hg => ok_not (htO rfl hg)) ?_
  refine RG.op (ok_pickOrM (ht rfl) (fun hb => (htO rfl (noti hb))) (fun hb => (h1t hb).2) h0t) rfl ?_
  refine RG.nil ?_
  refine AT.next ?_
  refine CG.cond (ht rfl) (fun hc => ?_) (fun hc => ?_)
  · have h := ct h hc
    refine CG.seq ?_
    refine CG.region ?_
    refine RG.op (ok_assign hI) rfl ?_
    refine RG.nil ?_
    refine AT.next ?_
    refine CG.ret ?_
    refine AT.then_ret ?_
    cases so h
    exact AT.ret1 rfl rfl
  · have h := cf h hc
    refine CG.skip ?_
    refine AT.next ?_
    refine CG.seq ?_
    refine CG.seq ?_
    refine CG.region ?_
    refine RG.op (ok_fieldAddr fd33_0 rfl flDValue_0 rfl (ht rfl)) rfl ?_
    refine RG.op (ok_load ti3 rfl rfl (ht rfl)) rfl ?_
    refine RG.op (ok_fieldAddr fd33_0 rfl flDValue_0 rfl (ht rfl)) rfl ?_
    refine RG.op (ok_load ti3 rfl rfl (ht rfl)) rfl ?_
    refine RG.op (ok_neqI (ht rfl) (ht rfl)) rfl ?_
    refine RG.nil ?_
    refine AT.next ?_
    refine CG.cond (ht rfl) (fun hc => ?_) (fun hc => ?_)
    · have h := ct h hc
      refine CG.seq ?_
      refine CG.seq ?_
      refine CG.region ?_
      refine RG.op (ok_fieldAddr fd33_0 rfl flDValue_0 rfl (ht rfl)) rfl ?_
      refine RG.op (ok_load ti3 rfl rfl (ht rfl)) rfl ?_
      refine RG.op (ok_fieldAddr fd33_0 rfl flDValue_0 rfl (ht rfl)) rfl ?_
      refine RG.op (ok_load ti3 rfl rfl (ht rfl)) rfl ?_
      refine RG.op (ok_lss (ht rfl) (ht rfl)) rfl ?_
      refine RG.nil ?_
      refine AT.next ?_
      refine CG.cond (ht rfl) (fun hc => ?_) (fun hc => ?_)
      · have h := ct h hc
        refine CG.seq ?_
        refine CG.region ?_
        refine RG.op (ok_assign hI) rfl ?_
        refine RG.nil ?_
        refine AT.next ?_
        refine CG.ret ?_
        refine AT.then_ret (AT.then_ret ?_)
        cases so h
        exact AT.ret1 rfl rfl
      · have h := cf h hc
        refine CG.skip ?_
        refine AT.next ?_
        refine CG.seq ?_
        refine CG.region ?_
        refine RG.op (ok_assign hI) rfl ?_
        refine RG.nil ?_
        refine AT.next ?_
        refine CG.ret ?_
        refine AT.then_ret ?_
        cases so h
        exact AT.ret1 rfl rfl
    · have h := cf h hc
      refine CG.skip ?_
      refine AT.next ?_
      refine CG.seq ?_
      refine CG.seq ?_
      refine CG.region ?_
      refine RG.op (ok_fieldAddr fd33_1 rfl flDValue_1 rfl (ht rfl)) rfl ?_
      refine RG.op (ok_load ti2 rfl rfl (ht rfl)) rfl ?_
      refine RG.op (ok_fieldAddr fd33_1 rfl flDValue_1 rfl (ht rfl)) rfl ?_
      refine RG.op (ok_load ti2 rfl rfl (ht rfl)) rfl ?_
      refine RG.op (ok_neqI (ht rfl) (ht rfl)) rfl ?_
      refine RG.nil ?_
      refine AT.next ?_
      refine CG.cond (ht rfl) (fun hc => ?_) (fun hc => ?_)
      · have h := ct h hc
        refine CG.seq ?_
        refine CG.seq ?_
        refine CG.region ?_
        refine RG.op (ok_fieldAddr fd33_1 rfl flDValue_1 rfl (ht rfl)) rfl ?_
        refine RG.op (ok_load ti2 rfl rfl (ht rfl)) rfl ?_
        refine RG.op (ok_fieldAddr fd33_1 rfl flDValue_1 rfl (ht rfl)) rfl ?_
        refine RG.op (ok_load ti2 rfl rfl (ht rfl)) rfl ?_
        refine RG.op (ok_lss (ht rfl) (ht rfl)) rfl ?_
        refine RG.nil ?_
        refine AT.next ?_
        refine CG.cond (ht rfl) (fun hc => ?_) (fun hc => ?_)
        · have h := ct h hc
          refine CG.seq ?_
          refine CG.region ?_
          refine RG.op (ok_assign hI) rfl ?_
          refine RG.nil ?_
          refine AT.next ?_
          refine CG.ret ?_
          refine AT.then_ret (AT.then_ret ?_)
          cases so h
          exact AT.ret1 rfl rfl
        · have h := cf h hc
          refine CG.skip ?_
          refine AT.next ?_
          refine CG.seq ?_
          refine CG.region ?_
          refine RG.op (ok_assign hI) rfl ?_
          refine RG.nil ?_
          refine AT.next ?_
          refine CG.ret ?_
          refine AT.then_ret ?_
          cases so h
          exact AT.ret1 rfl rfl
      · have h := cf h hc
        refine CG.skip ?_
        refine AT.next ?_
        refine CG.seq ?_
        refine CG.seq ?_
        refine CG.region ?_
        refine RG.op (ok_assign hI) rfl ?_
        refine RG.nil ?_
        refine AT.next ?_
        refine CG.block ?_
        refine CG.loop ?_
        refine LG.sub (LG.ind1 (Z := fun n i => ref02_Compare_l1 a1 b n i = some R) (Of := fun i => []) (Gf := fun i => [(2, tPtr rpDValue a1), (3, tPtr rpDValue b), (5, tD (rI .i64) i)]) (fun i h => nn h) (fun n ih i h => ?_) FUEL (0 : Int) h) ⟨rfl, rfl, rfl, trivial⟩
        refine LG.unfold ?_
        refine CG.seq ?_
        refine CG.seq ?_
        refine CG.region ?_
        refine RG.op (ok_move (ht rfl)) rfl ?_
        refine RG.op (ok_fieldAddr fd33_3 rfl flDValue_3 rfl (ht rfl)) rfl ?_
        refine RG.op (ok_load ti9 rfl rfl (ht rfl)) rfl ?_
        refine RG.op (ok_lenS Tryz.underlying9 (ht rfl)) rfl ?_
        refine RG.op (ok_lss (ht rfl) (ht rfl)) rfl ?_
        refine RG.op (ok_move (ht rfl)) rfl ?_
        refine RG.opGt rfl rfl rfl rfl (fun hg => ok_move (ht rfl)) ?_
        refine RG.opGt rfl rfl rfl rfl (fun hg => ok_fieldAddr fd33_3 rfl flDValue_3 rfl (ht rfl)) ?_
        refine RG.opGt rfl rfl rfl rfl (fun hg => ok_load ti9 rfl rfl (htO rfl hg)) ?_
        refine RG.opGt rfl rfl rfl rfl (fun hg => ok_lenS Tryz.underlying9 (htO rfl hg)) ?_
        refine RG.opGt rfl rfl rfl rfl (fun hg => ok_lss (htO rfl hg) (htO rfl hg)) ?_
        refine RG.op (ok_pickAnd (ht rfl) (fun hb => (htO rfl hb))) rfl ?_
        refine RG.nil ?_
        refine AT.next ?_
        refine CG.cond (ht rfl) (fun hc => ?_) (fun hc => ?_)
        · have h := ct h hc
          refine CG.skip ?_
          refine AT.next ?_
          refine CG.seq ?_
          refine CG.block ?_
          refine CG.seq ?_
          obtain ⟨b1, q_b1, h⟩ := bs h
          obtain ⟨b2, q_b2, h⟩ := bs h
          refine CG.draw (ts := [tPtr rS a1.S, tD rS a1.S, tD (rI .i64) i, tD (rI .u8) b1, tPtr rS b.S, tD rS b.S, tD (rI .i64) i, tD (rI .u8) b2, tD rB (b1 != b2)]) mixed rfl rfl
            ⟨⟨[⟨2, _, none⟩], _, rfl, ⟨rfl, trivial⟩, rfl, rfl, OpG.plain rfl (ok_fieldAddr fd33_3 rfl flDValue_3 rfl (ht rfl))⟩,
            ⟨⟨[⟨48, _, some 0⟩], _, rfl, ⟨rfl, trivial⟩, rfl, rfl, OpG.plain rfl (ok_load ti9 rfl rfl (ht rfl))⟩,
            ⟨⟨[⟨5, _, none⟩], _, rfl, ⟨rfl, trivial⟩, rfl, rfl, OpG.plain rfl (ok_move (ht rfl))⟩,
            ⟨⟨[⟨49, _, some 1⟩, ⟨50, _, some 2⟩], _, rfl, ⟨rfl, rfl, trivial⟩, rfl, rfl, OpG.plain rfl (ok_indexS Tryz.underlying9 (ht rfl) (ht rfl) q_b1)⟩,
            ⟨⟨[⟨3, _, none⟩], _, rfl, ⟨rfl, trivial⟩, rfl, rfl, OpG.plain rfl (ok_fieldAddr fd33_3 rfl flDValue_3 rfl (ht rfl))⟩,
            ⟨⟨[⟨52, _, some 4⟩], _, rfl, ⟨rfl, trivial⟩, rfl, rfl, OpG.plain rfl (ok_load ti9 rfl rfl (ht rfl))⟩,
            ⟨⟨[⟨5, _, none⟩], _, rfl, ⟨rfl, trivial⟩, rfl, rfl, OpG.plain rfl (ok_move (ht rfl))⟩,
            ⟨⟨[⟨53, _, some 5⟩, ⟨54, _, some 6⟩], _, rfl, ⟨rfl, rfl, trivial⟩, rfl, rfl, OpG.plain rfl (ok_indexS Tryz.underlying9 (ht rfl) (ht rfl) q_b2)⟩,
            ⟨⟨[⟨51, _, some 3⟩, ⟨55, _, some 7⟩], _, rfl, ⟨rfl, rfl, trivial⟩, rfl, rfl, OpG.plain rfl (ok_neqI (ht rfl) (ht rfl))⟩,
            trivial⟩⟩⟩⟩⟩⟩⟩⟩⟩ ?_
          refine AT.next ?_
          refine CG.cond (ht rfl) (fun hc => ?_) (fun hc => ?_)
          · have h := ct h hc
            refine CG.seq ?_
            refine CG.seq ?_
            obtain ⟨b3, q_b3, h⟩ := bs h
            obtain ⟨b4, q_b4, h⟩ := bs h
            refine CG.draw (ts := [tPtr rS a1.S, tD rS a1.S, tD (rI .i64) i, tD (rI .u8) b3, tPtr rS b.S, tD rS b.S, tD (rI .i64) i, tD (rI .u8) b4, tD rB (decide (b3 < b4))]) mixed rfl rfl
              ⟨⟨[⟨2, _, none⟩], _, rfl, ⟨rfl, trivial⟩, rfl, rfl, OpG.plain rfl (ok_fieldAddr fd33_3 rfl flDValue_3 rfl (ht rfl))⟩,
              ⟨⟨[⟨57, _, some 0⟩], _, rfl, ⟨rfl, trivial⟩, rfl, rfl, OpG.plain rfl (ok_load ti9 rfl rfl (ht rfl))⟩,
              ⟨⟨[⟨5, _, none⟩], _, rfl, ⟨rfl, trivial⟩, rfl, rfl, OpG.plain rfl (ok_move (ht rfl))⟩,
              ⟨⟨[⟨58, _, some 1⟩, ⟨59, _, some 2⟩], _, rfl, ⟨rfl, rfl, trivial⟩, rfl, rfl, OpG.plain rfl (ok_indexS Tryz.underlying9 (ht rfl) (ht rfl) q_b3)⟩,
              ⟨⟨[⟨3, _, none⟩], _, rfl, ⟨rfl, trivial⟩, rfl, rfl, OpG.plain rfl (ok_fieldAddr fd33_3 rfl flDValue_3 rfl (ht rfl))⟩,
              ⟨⟨[⟨61, _, some 4⟩], _, rfl, ⟨rfl, trivial⟩, rfl, rfl, OpG.plain rfl (ok_load ti9 rfl rfl (ht rfl))⟩,
              ⟨⟨[⟨5, _, none⟩], _, rfl, ⟨rfl, trivial⟩, rfl, rfl, OpG.plain rfl (ok_move (ht rfl))⟩,
              ⟨⟨[⟨62, _, some 5⟩, ⟨63, _, some 6⟩], _, rfl, ⟨rfl, rfl, trivial⟩, rfl, rfl, OpG.plain rfl (ok_indexS Tryz.underlying9 (ht rfl) (ht rfl) q_b4)⟩,
              ⟨⟨[⟨60, _, some 3⟩, ⟨64, _, some 7⟩], _, rfl, ⟨rfl, rfl, trivial⟩, rfl, rfl, OpG.plain rfl (ok_lss (ht rfl) (ht rfl))⟩,
              trivial⟩⟩⟩⟩⟩⟩⟩⟩⟩ ?_
            refine AT.next ?_
            refine CG.cond (ht rfl) (fun hc => ?_) (fun hc => ?_)
            · have h := ct h hc
              refine CG.seq ?_
              refine CG.region ?_
              refine RG.op (ok_assign hI) rfl ?_
              refine RG.nil ?_
              refine AT.next ?_
              refine CG.ret ?_
              refine AT.then_ret (AT.in_ret (AT.then_ret (AT.then_ret (AT.in_ret (AT.then_ret ?_)))))
              cases so h
              exact AT.ret1 rfl rfl
            · have h := cf h hc
              refine CG.skip ?_
              refine AT.next ?_
              refine CG.seq ?_
              refine CG.region ?_
              refine RG.op (ok_assign hI) rfl ?_
              refine RG.nil ?_
              refine AT.next ?_
              refine CG.ret ?_
              refine AT.in_ret (AT.then_ret (AT.then_ret (AT.in_ret (AT.then_ret ?_))))
              cases so h
              exact AT.ret1 rfl rfl
          · have h := cf h hc
            refine CG.skip ?_
            refine AT.in_normal ?_
            refine AT.next ?_
            refine CG.region ?_
            refine RG.op (ok_move (ht rfl)) rfl ?_
            refine RG.op (ok_add (ht rfl) hI) rfl ?_
            refine RG.op (ok_assign (ht rfl)) rfl ?_
            refine RG.nil ?_
            exact AT.round (LG.sub (ih (IntKind.i64.wrap (i + (1 : Int))) h) ⟨rfl, rfl, rfl, trivial⟩)
        · have h := cf h hc
          refine CG.exit ?_
          refine AT.then_exit (AT.then_exit (AT.in_exit ?_))
          refine AT.next ?_
          refine CG.seq ?_
          refine CG.seq ?_
          refine CG.region ?_
          refine RG.op (ok_fieldAddr fd33_3 rfl flDValue_3 rfl (ht rfl)) rfl ?_
          refine RG.op (ok_load ti9 rfl rfl (ht rfl)) rfl ?_
          refine RG.op (ok_lenS Tryz.underlying9 (ht rfl)) rfl ?_
          refine RG.op (ok_fieldAddr fd33_3 rfl flDValue_3 rfl (ht rfl)) rfl ?_
          refine RG.op (ok_load ti9 rfl rfl (ht rfl)) rfl ?_
          refine RG.op (ok_lenS Tryz.underlying9 (ht rfl)) rfl ?_
          refine RG.op (ok_neqI (ht rfl) (ht rfl)) rfl ?_
          refine RG.nil ?_
          refine AT.next ?_
          refine CG.cond (ht rfl) (fun hc => ?_) (fun hc => ?_)
          · have h := ct h hc
            refine CG.seq ?_
            refine CG.seq ?_
            refine CG.region ?_
            refine RG.op (ok_fieldAddr fd33_3 rfl flDValue_3 rfl (ht rfl)) rfl ?_
            refine RG.op (ok_load ti9 rfl rfl (ht rfl)) rfl ?_
            refine RG.op (ok_lenS Tryz.underlying9 (ht rfl)) rfl ?_
            refine RG.op (ok_fieldAddr fd33_3 rfl flDValue_3 rfl (ht rfl)) rfl ?_
            refine RG.op (ok_load ti9 rfl rfl (ht rfl)) rfl ?_
            refine RG.op (ok_lenS Tryz.underlying9 (ht rfl)) rfl ?_
            refine RG.op (ok_lss (ht rfl) (ht rfl)) rfl ?_
            refine RG.nil ?_
            refine AT.next ?_
            refine CG.cond (ht rfl) (fun hc => ?_) (fun hc => ?_)
            · have h := ct h hc
              refine CG.seq ?_
              refine CG.region ?_
              refine RG.op (ok_assign hI) rfl ?_
              refine RG.nil ?_
              refine AT.next ?_
              refine CG.ret ?_
              refine AT.then_ret (AT.then_ret ?_)
              cases so h
              exact AT.ret1 rfl rfl
            · have h := cf h hc
              refine CG.skip ?_
              refine AT.next ?_
              refine CG.seq ?_
              refine CG.region ?_
              refine RG.op (ok_assign hI) rfl ?_
              refine RG.nil ?_
              refine AT.next ?_
              refine CG.ret ?_
              refine AT.then_ret ?_
              cases so h
              exact AT.ret1 rfl rfl
          · have h := cf h hc
            refine CG.skip ?_
            refine AT.next ?_
            refine CG.seq ?_
            refine CG.region ?_
            refine RG.op (ok_assign hI) rfl ?_
            refine RG.nil ?_
            refine AT.next ?_
            refine CG.ret ?_
            cases so h
            exact AT.ret1 rfl rfl

end Go.Proofs.YtdhledkpgaeoaaaGreatDoor

