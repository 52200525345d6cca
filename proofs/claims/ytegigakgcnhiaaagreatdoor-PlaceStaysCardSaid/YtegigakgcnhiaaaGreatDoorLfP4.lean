/- Facts of this claim: P4. -/
import Derived.Test.YtegigakgcnhiaaaGreatDoorLfT
import Derived.Test.YtegigakgcnhiaaaGreatDoorLfP3
import Derived.Test.YtegigakgcnhiaaaGreatDoorLfNS
namespace Go.Proofs.YtegigakgcnhiaaaGreatDoor
open Go

set_option maxRecDepth 100000 in
theorem f158_ok (p : Int) {R : Bool} (h : cmp_isNaN_uint64 p = some R) : Spec Tryz.prog 158 [tD (rI .u64) p] (tD rB R) := by
  refine Spec.of Tryz.func158 rfl rfl rfl fun w0 S0 => ?_
  refine CG.seq ?_
  refine CG.region ?_
  refine RG.op (ok_assign hB) rfl ?_
  refine RG.nil ?_
  refine AT.next ?_
  refine CG.seq ?_
  refine CG.region ?_
  refine RG.op (ok_move (ht rfl)) rfl ?_
  refine RG.op (ok_move (ht rfl)) rfl ?_
  refine RG.op (ok_neqI (ht rfl) (ht rfl)) rfl ?_
  refine RG.op (ok_assign (ht rfl)) rfl ?_
  refine RG.nil ?_
  refine AT.next ?_
  refine CG.ret ?_
  cases so h
  exact AT.ret1 rfl rfl

set_option maxRecDepth 100000 in
theorem f135_ok (p : Int) (y : Int) {R : Int} (h : cmp_Compare_uint64 p y = some R) : Spec Tryz.prog 135 [tD (rI .u64) p, tD (rI .u64) y] (tD (rI .i64) R) := by
  refine Spec.of Tryz.func135 rfl rfl rfl fun w0 S0 => ?_
  refine CG.seq ?_
  refine CG.region ?_
  refine RG.op (ok_assign hI) rfl ?_
  refine RG.nil ?_
  refine AT.next ?_
  refine CG.seq ?_
  refine CG.region ?_
  refine RG.op (ok_move (ht rfl)) rfl ?_
  obtain ⟨r, q_r, h⟩ := bs h
  refine RG.op (ok_call cb158 (f158_ok _ q_r) ⟨(ht rfl), trivial⟩) rfl ?_
  refine RG.op (ok_assign (ht rfl)) rfl ?_
  refine RG.nil ?_
  refine AT.next ?_
  refine CG.seq ?_
  refine CG.region ?_
  refine RG.op (ok_move (ht rfl)) rfl ?_
  obtain ⟨r1, q_r1, h⟩ := bs h
  refine RG.op (ok_call cb158 (f158_ok _ q_r1) ⟨(ht rfl), trivial⟩) rfl ?_
  refine RG.op (ok_assign (ht rfl)) rfl ?_
  refine RG.nil ?_
  refine AT.next ?_
  refine CG.seq ?_
  refine CG.seq ?_
  refine CG.region ?_
  refine RG.op (ok_move (ht rfl)) rfl ?_
  refine RG.nil ?_
  refine AT.next ?_
  refine CG.cond (ht rfl) (fun hc => ?_) (fun hc => ?_)
  · have h := ct h hc
    refine CG.seq ?_
    refine CG.seq ?_
    refine CG.region ?_
    refine RG.op (ok_move (ht rfl)) rfl ?_
    refine RG.nil ?_
    refine AT.next ?_
    refine CG.cond (ht rfl) (fun hc => ?_) (fun hc => ?_)
    · have h := ct h hc
      refine CG.seq ?_
      refine CG.region ?_
      refine RG.op (ok_assign hI) rfl ?_
      refine RG.nil ?_
      refine AT.next ?_
      refine CG.ret ?_
      refine AT.then_ret (AT.then_ret ?_)
      cases so h
      exact AT.ret1 rfl rfl
    · have h := cf h hc
      refine CG.skip ?_
      refine AT.next ?_
      refine CG.seq ?_
      refine CG.region ?_
      refine RG.op (ok_assign hI) rfl ?_
      refine RG.nil ?_
      refine AT.next ?_
      refine CG.ret ?_
      refine AT.then_ret ?_
      cases so h
      exact AT.ret1 rfl rfl
  · have h := cf h hc
    refine CG.skip ?_
    refine AT.next ?_
    refine CG.seq ?_
    refine CG.seq ?_
    refine CG.region ?_
    refine RG.op (ok_move (ht rfl)) rfl ?_
    refine RG.nil ?_
    refine AT.next ?_
    refine CG.cond (ht rfl) (fun hc => ?_) (fun hc => ?_)
    · have h := ct h hc
      refine CG.seq ?_
      refine CG.region ?_
      refine RG.op (ok_assign hI) rfl ?_
      refine RG.nil ?_
      refine AT.next ?_
      refine CG.ret ?_
      refine AT.then_ret ?_
      cases so h
      exact AT.ret1 rfl rfl
    · have h := cf h hc
      refine CG.skip ?_
      refine AT.next ?_
      refine CG.seq ?_
      refine CG.seq ?_
      refine CG.region ?_
      refine RG.op (ok_move (ht rfl)) rfl ?_
      refine RG.op (ok_move (ht rfl)) rfl ?_
      refine RG.op (ok_lss (ht rfl) (ht rfl)) rfl ?_
      refine RG.nil ?_
      refine AT.next ?_
      refine CG.cond (ht rfl) (fun hc => ?_) (fun hc => ?_)
      · have h := ct h hc
        refine CG.seq ?_
        refine CG.region ?_
        refine RG.op (ok_assign hI) rfl ?_
        refine RG.nil ?_
        refine AT.next ?_
        refine CG.ret ?_
        refine AT.then_ret ?_
        cases so h
        exact AT.ret1 rfl rfl
      · have h := cf h hc
        refine CG.skip ?_
        refine AT.next ?_
        refine CG.seq ?_
        refine CG.seq ?_
        refine CG.region ?_
        refine RG.op (ok_move (ht rfl)) rfl ?_
        refine RG.op (ok_move (ht rfl)) rfl ?_
        refine RG.op (ok_gtr (ht rfl) (ht rfl)) rfl ?_
        refine RG.nil ?_
        refine AT.next ?_
        refine CG.cond (ht rfl) (fun hc => ?_) (fun hc => ?_)
        · have h := ct h hc
          refine CG.seq ?_
          refine CG.region ?_
          refine RG.op (ok_assign hI) rfl ?_
          refine RG.nil ?_
          refine AT.next ?_
          refine CG.ret ?_
          refine AT.then_ret ?_
          cases so h
          exact AT.ret1 rfl rfl
        · have h := cf h hc
          refine CG.skip ?_
          refine AT.next ?_
          refine CG.seq ?_
          refine CG.region ?_
          refine RG.op (ok_assign hI) rfl ?_
          refine RG.nil ?_
          refine AT.next ?_
          refine CG.ret ?_
          cases so h
          exact AT.ret1 rfl rfl

set_option maxRecDepth 100000 in
theorem f159_ok (p : Str) {R : Bool} (h : cmp_isNaN_string p = some R) : Spec Tryz.prog 159 [tD rS p] (tD rB R) := by
  refine Spec.of Tryz.func159 rfl rfl rfl fun w0 S0 => ?_
  refine CG.seq ?_
  refine CG.region ?_
  refine RG.op (ok_assign hB) rfl ?_
  refine RG.nil ?_
  refine AT.next ?_
  refine CG.seq ?_
  refine CG.region ?_
  refine RG.op (ok_move (ht rfl)) rfl ?_
  refine RG.op (ok_move (ht rfl)) rfl ?_
  refine RG.op (ok_neqS (ht rfl) (ht rfl)) rfl ?_
  refine RG.op (ok_assign (ht rfl)) rfl ?_
  refine RG.nil ?_
  refine AT.next ?_
  refine CG.ret ?_
  cases so h
  exact AT.ret1 rfl rfl

set_option maxRecDepth 100000 in
theorem f136_ok (p : Str) (y : Str) {R : Int} (h : cmp_Compare_string p y = some R) : Spec Tryz.prog 136 [tD rS p, tD rS y] (tD (rI .i64) R) := by
  refine Spec.of Tryz.func136 rfl rfl rfl fun w0 S0 => ?_
  refine CG.seq ?_
  refine CG.region ?_
  refine RG.op (ok_assign hI) rfl ?_
  refine RG.nil ?_
  refine AT.next ?_
  refine CG.seq ?_
  refine CG.region ?_
  refine RG.op (ok_move (ht rfl)) rfl ?_
  obtain ⟨r, q_r, h⟩ := bs h
  refine RG.op (ok_call cb159 (f159_ok _ q_r) ⟨(ht rfl), trivial⟩) rfl ?_
  refine RG.op (ok_assign (ht rfl)) rfl ?_
  refine RG.nil ?_
  refine AT.next ?_
  refine CG.seq ?_
  refine CG.region ?_
  refine RG.op (ok_move (ht rfl)) rfl ?_
  obtain ⟨r1, q_r1, h⟩ := bs h
  refine RG.op (ok_call cb159 (f159_ok _ q_r1) ⟨(ht rfl), trivial⟩) rfl ?_
  refine RG.op (ok_assign (ht rfl)) rfl ?_
  refine RG.nil ?_
  refine AT.next ?_
  refine CG.seq ?_
  refine CG.seq ?_
  refine CG.region ?_
  refine RG.op (ok_move (ht rfl)) rfl ?_
  refine RG.nil ?_
  refine AT.next ?_
  refine CG.cond (ht rfl) (fun hc => ?_) (fun hc => ?_)
  · have h := ct h hc
    refine CG.seq ?_
    refine CG.seq ?_
    refine CG.region ?_
    refine RG.op (ok_move (ht rfl)) rfl ?_
    refine RG.nil ?_
    refine AT.next ?_
    refine CG.cond (ht rfl) (fun hc => ?_) (fun hc => ?_)
    · have h := ct h hc
      refine CG.seq ?_
      refine CG.region ?_
      refine RG.op (ok_assign hI) rfl ?_
      refine RG.nil ?_
      refine AT.next ?_
      refine CG.ret ?_
      refine AT.then_ret (AT.then_ret ?_)
      cases so h
      exact AT.ret1 rfl rfl
    · have h := cf h hc
      refine CG.skip ?_
      refine AT.next ?_
      refine CG.seq ?_
      refine CG.region ?_
      refine RG.op (ok_assign hI) rfl ?_
      refine RG.nil ?_
      refine AT.next ?_
      refine CG.ret ?_
      refine AT.then_ret ?_
      cases so h
      exact AT.ret1 rfl rfl
  · have h := cf h hc
    refine CG.skip ?_
    refine AT.next ?_
    refine CG.seq ?_
    refine CG.seq ?_
    refine CG.region ?_
    refine RG.op (ok_move (ht rfl)) rfl ?_
    refine RG.nil ?_
    refine AT.next ?_
    refine CG.cond (ht rfl) (fun hc => ?_) (fun hc => ?_)
    · have h := ct h hc
      refine CG.seq ?_
      refine CG.region ?_
      refine RG.op (ok_assign hI) rfl ?_
      refine RG.nil ?_
      refine AT.next ?_
      refine CG.ret ?_
      refine AT.then_ret ?_
      cases so h
      exact AT.ret1 rfl rfl
    · have h := cf h hc
      refine CG.skip ?_
      refine AT.next ?_
      refine CG.seq ?_
      refine CG.seq ?_
      refine CG.region ?_
      refine RG.op (ok_move (ht rfl)) rfl ?_
      refine RG.op (ok_move (ht rfl)) rfl ?_
      refine RG.op (ok_lssS (ht rfl) (ht rfl)) rfl ?_
      refine RG.nil ?_
      refine AT.next ?_
      refine CG.cond (ht rfl) (fun hc => ?_) (fun hc => ?_)
      · have h := ct h hc
        refine CG.seq ?_
        refine CG.region ?_
        refine RG.op (ok_assign hI) rfl ?_
        refine RG.nil ?_
        refine AT.next ?_
        refine CG.ret ?_
        refine AT.then_ret ?_
        cases so h
        exact AT.ret1 rfl rfl
      · have h := cf h hc
        refine CG.skip ?_
        refine AT.next ?_
        refine CG.seq ?_
        refine CG.seq ?_
        refine CG.region ?_
        refine RG.op (ok_move (ht rfl)) rfl ?_
        refine RG.op (ok_move (ht rfl)) rfl ?_
        refine RG.op (ok_gtrS (ht rfl) (ht rfl)) rfl ?_
        refine RG.nil ?_
        refine AT.next ?_
        refine CG.cond (ht rfl) (fun hc => ?_) (fun hc => ?_)
        · have h := ct h hc
          refine CG.seq ?_
          refine CG.region ?_
          refine RG.op (ok_assign hI) rfl ?_
          refine RG.nil ?_
          refine AT.next ?_
          refine CG.ret ?_
          refine AT.then_ret ?_
          cases so h
          exact AT.ret1 rfl rfl
        · have h := cf h hc
          refine CG.skip ?_
          refine AT.next ?_
          refine CG.seq ?_
          refine CG.region ?_
          refine RG.op (ok_assign hI) rfl ?_
          refine RG.nil ?_
          refine AT.next ?_
          refine CG.ret ?_
          cases so h
          exact AT.ret1 rfl rfl

set_option maxRecDepth 100000 in
theorem f107_ok (a1 : DValue) (b : DValue) {R : Int} (h : row_values a1 b = some R) : Spec Tryz.prog 107 [tD rpDValue a1, tD rpDValue b] (tD (rI .i64) R) := by
  refine Spec.of Tryz.func107 rfl rfl rfl fun w0 S0 => ?_
  refine CG.seq ?_
  refine CG.region ?_
  refine RG.op (ok_box (ht rfl)) rfl ?_
  refine RG.op (ok_box (ht rfl)) rfl ?_
  refine RG.op (ok_assign hI) rfl ?_
  refine RG.nil ?_
  refine AT.next ?_
  refine CG.seq ?_
  obtain ⟨r, q_r, h⟩ := bs h
  obtain ⟨r1, q_r1, h⟩ := bs h
  obtain ⟨r2, q_r2, h⟩ := bs h
  obtain ⟨r3, q_r3, h⟩ := bs h
  obtain ⟨r4, q_r4, h⟩ := bs h
  refine CG.draw (ts := [tPtr (rI .i64) a1.Kind, tD (rI .i64) a1.Kind, tPtr (rI .i64) b.Kind, tD (rI .i64) b.Kind, tD (rI .i64) r, tPtr (rI .i64) a1.N, tD (rI .i64) a1.N, tPtr (rI .i64) b.N, tD (rI .i64) b.N, tD (rI .i64) r1, tPtr (rI .u64) a1.U, tD (rI .u64) a1.U, tPtr (rI .u64) b.U, tD (rI .u64) b.U, tD (rI .i64) r2, tPtr rS a1.S, tD rS a1.S, tPtr rS b.S, tD rS b.S, tD (rI .i64) r3, tD (rSl (rI .i64)) ([r, r1, r2, r3]), tD (rI .i64) r4, tD (rI .i64) r4]) mixed rfl rfl
    ⟨⟨[⟨2, _, none⟩], _, rfl, ⟨rfl, trivial⟩, rfl, rfl, OpG.plain rfl (ok_fieldAddr fd89_0 rfl flDValue_0 rfl (ht rfl))⟩,
    ⟨⟨[⟨5, _, some 0⟩], _, rfl, ⟨rfl, trivial⟩, rfl, rfl, OpG.plain rfl (ok_load ti3 rfl rfl (ht rfl))⟩,
    ⟨⟨[⟨3, _, none⟩], _, rfl, ⟨rfl, trivial⟩, rfl, rfl, OpG.plain rfl (ok_fieldAddr fd89_0 rfl flDValue_0 rfl (ht rfl))⟩,
    ⟨⟨[⟨7, _, some 2⟩], _, rfl, ⟨rfl, trivial⟩, rfl, rfl, OpG.plain rfl (ok_load ti3 rfl rfl (ht rfl))⟩,
    ⟨⟨[⟨6, _, some 1⟩, ⟨8, _, some 3⟩], _, rfl, ⟨rfl, rfl, trivial⟩, rfl, rfl, OpG.plain rfl (ok_call cb133 (f133_ok _ _ q_r) ⟨(ht rfl), (ht rfl), trivial⟩)⟩,
    ⟨⟨[⟨2, _, none⟩], _, rfl, ⟨rfl, trivial⟩, rfl, rfl, OpG.plain rfl (ok_fieldAddr fd89_1 rfl flDValue_1 rfl (ht rfl))⟩,
    ⟨⟨[⟨10, _, some 5⟩], _, rfl, ⟨rfl, trivial⟩, rfl, rfl, OpG.plain rfl (ok_load ti2 rfl rfl (ht rfl))⟩,
    ⟨⟨[⟨3, _, none⟩], _, rfl, ⟨rfl, trivial⟩, rfl, rfl, OpG.plain rfl (ok_fieldAddr fd89_1 rfl flDValue_1 rfl (ht rfl))⟩,
    ⟨⟨[⟨12, _, some 7⟩], _, rfl, ⟨rfl, trivial⟩, rfl, rfl, OpG.plain rfl (ok_load ti2 rfl rfl (ht rfl))⟩,
    ⟨⟨[⟨11, _, some 6⟩, ⟨13, _, some 8⟩], _, rfl, ⟨rfl, rfl, trivial⟩, rfl, rfl, OpG.plain rfl (ok_call cb134 (f134_ok _ _ q_r1) ⟨(ht rfl), (ht rfl), trivial⟩)⟩,
    ⟨⟨[⟨2, _, none⟩], _, rfl, ⟨rfl, trivial⟩, rfl, rfl, OpG.plain rfl (ok_fieldAddr fd89_2 rfl flDValue_2 rfl (ht rfl))⟩,
    ⟨⟨[⟨15, _, some 10⟩], _, rfl, ⟨rfl, trivial⟩, rfl, rfl, OpG.plain rfl (ok_load ti87 rfl rfl (ht rfl))⟩,
    ⟨⟨[⟨3, _, none⟩], _, rfl, ⟨rfl, trivial⟩, rfl, rfl, OpG.plain rfl (ok_fieldAddr fd89_2 rfl flDValue_2 rfl (ht rfl))⟩,
    ⟨⟨[⟨17, _, some 12⟩], _, rfl, ⟨rfl, trivial⟩, rfl, rfl, OpG.plain rfl (ok_load ti87 rfl rfl (ht rfl))⟩,
    ⟨⟨[⟨16, _, some 11⟩, ⟨18, _, some 13⟩], _, rfl, ⟨rfl, rfl, trivial⟩, rfl, rfl, OpG.plain rfl (ok_call cb135 (f135_ok _ _ q_r2) ⟨(ht rfl), (ht rfl), trivial⟩)⟩,
    ⟨⟨[⟨2, _, none⟩], _, rfl, ⟨rfl, trivial⟩, rfl, rfl, OpG.plain rfl (ok_fieldAddr fd89_3 rfl flDValue_3 rfl (ht rfl))⟩,
    ⟨⟨[⟨20, _, some 15⟩], _, rfl, ⟨rfl, trivial⟩, rfl, rfl, OpG.plain rfl (ok_load ti9 rfl rfl (ht rfl))⟩,
    ⟨⟨[⟨3, _, none⟩], _, rfl, ⟨rfl, trivial⟩, rfl, rfl, OpG.plain rfl (ok_fieldAddr fd89_3 rfl flDValue_3 rfl (ht rfl))⟩,
    ⟨⟨[⟨22, _, some 17⟩], _, rfl, ⟨rfl, trivial⟩, rfl, rfl, OpG.plain rfl (ok_load ti9 rfl rfl (ht rfl))⟩,
    ⟨⟨[⟨21, _, some 16⟩, ⟨23, _, some 18⟩], _, rfl, ⟨rfl, rfl, trivial⟩, rfl, rfl, OpG.plain rfl (ok_call cb136 (f136_ok _ _ q_r3) ⟨(ht rfl), (ht rfl), trivial⟩)⟩,
    ⟨⟨[⟨9, _, some 4⟩, ⟨14, _, some 9⟩, ⟨19, _, some 14⟩, ⟨24, _, some 19⟩], _, rfl, ⟨rfl, rfl, rfl, rfl, trivial⟩, rfl, rfl, OpG.plain rfl (ok_buildSlice (r := (rI .i64)) (ys := [r, r1, r2, r3]) (xs := [.tmp 9, .tmp 14, .tmp 19, .tmp 24]) Tryz.underlying28 ti3 rfl rfl rfl rfl rfl ⟨(ht rfl), (ht rfl), (ht rfl), (ht rfl), trivial⟩)⟩,
    ⟨⟨[⟨25, _, some 20⟩], _, rfl, ⟨rfl, trivial⟩, rfl, rfl, OpG.plain rfl (ok_call cb132 (f132_ok _ q_r4) ⟨(ht rfl), trivial⟩)⟩,
    ⟨⟨[⟨26, _, some 21⟩], _, rfl, ⟨rfl, trivial⟩, rfl, rfl, OpG.plain rfl (ok_assign (ht rfl))⟩,
    trivial⟩⟩⟩⟩⟩⟩⟩⟩⟩⟩⟩⟩⟩⟩⟩⟩⟩⟩⟩⟩⟩⟩⟩ ?_
  refine AT.next ?_
  refine CG.ret ?_
  cases so h
  exact AT.ret1 rfl rfl

set_option maxRecDepth 100000 in
theorem f85_ok (a1 : (List DValue)) (b : (List DValue)) {R : Int} (h : row_order a1 b = some R) : Spec Tryz.prog 85 [tD (rSl rpDValue) a1, tD (rSl rpDValue) b] (tD (rI .i64) R) := by
  refine Spec.of Tryz.func85 rfl rfl rfl fun w0 S0 => ?_
  refine CG.seq ?_
  refine CG.region ?_
  refine RG.op (ok_assign hI) rfl ?_
  refine RG.nil ?_
  refine AT.next ?_
  refine CG.seq ?_
  refine CG.region ?_
  refine RG.op (ok_move (ht rfl)) rfl ?_
  refine RG.op (ok_move (ht rfl)) rfl ?_
  obtain ⟨r, q_r, h⟩ := bs h
  refine RG.op (ok_call cb106 (f106_ok _ _ _ q_r) ⟨(ht rfl), (ht rfl), (hFn cb107 fun x y h => f107_ok _ _ h), trivial⟩) rfl ?_
  refine RG.op (ok_assign (ht rfl)) rfl ?_
  refine RG.nil ?_
  refine AT.next ?_
  refine CG.ret ?_
  cases so h
  exact AT.ret1 rfl rfl

set_option maxRecDepth 100000 in
theorem f57_own (l : (List (List DValue))) {R : (List (List DValue))} (h : row_sorted l = some R) : SpecO Tryz.prog 57 [tD (rSl (rSl rpDValue)) l] false (rSl rpDValue) 45 R := by
  refine SpecO.of Tryz.func57 rfl rfl rfl fun w0 S0 => ?_
  refine CG.seq ?_
  refine CG.region ?_
  refine RG.fresh false (rSl rpDValue) 45 ?_
  refine RG.op (ok_assign hVn) rfl ?_
  refine RG.nil ?_
  refine AT.next ?_
  refine CG.seq ?_
  refine CG.region ?_
  refine RG.op (ok_move (ht rfl)) rfl ?_
  obtain ⟨r, q_r, h⟩ := bs h
  refine RG.callO cb83 (f83_own _ q_r) ⟨(ht rfl), trivial⟩ rfl (fun l1 c => ?_)
  refine RG.op (ok_assign (ht rfl)) rfl ?_
  refine RG.nil ?_
  refine AT.next ?_
  refine CG.seq ?_
  refine CG.region ?_
  refine RG.op (ok_move (ht rfl)) rfl ?_
  obtain ⟨srt, q_srt, h⟩ := bs h
  refine RG.sortO (n := r.length) Tryz.sort84 ?_ cb84 ?_ q_srt ?_ ?_ ?_ ?_ ?_
  · rfl
  · rfl
  · exact (ht rfl)
  · rfl
  · exact (show HasTy _ _ _ ((tFun Tryz.prog (fun (x : (List DValue) × (List DValue)) => [tD (rSl rpDValue) x.1, tD (rSl rpDValue) x.2]) (fun (x : Int) => tD (rI .i64) x) (fun (x : (List DValue) × (List DValue)) => row_order x.1 x.2))) from (hFn cb85 fun x y h => f85_ok _ _ h))
  · rfl
  intro hl
  refine RG.relen hl 5 rfl ?_
  refine RG.relen hl 3 rfl ?_
  refine RG.relen hl 6 rfl ?_
  refine RG.nil ?_
  refine AT.next ?_
  refine CG.seq ?_
  refine CG.region ?_
  refine RG.op (ok_move (ht rfl)) rfl ?_
  refine RG.op (ok_assign (ht rfl)) rfl ?_
  refine RG.nil ?_
  refine AT.next ?_
  refine CG.ret ?_
  cases so h
  exact AT.retO rfl rfl
set_option maxRecDepth 100000 in
theorem f29_ok (l : (List (List DValue))) {R : (List (List DValue)) × Int} (h : row_Sorted l = some R) : Spec Tryz.prog 29 [tD (rSl (rSl rpDValue)) l] (tT [tD (rSl (rSl rpDValue)) R.1, tD (rI .i64) R.2]) := by
  refine Spec.of Tryz.func29 rfl rfl rfl fun w0 S0 => ?_
  refine CG.seq ?_
  refine CG.region ?_
  refine RG.op (ok_assign (show HasTy _ _ _ (tD (rSl (rSl rpDValue)) ([])) from hNil)) rfl ?_
  refine RG.op (ok_assign hI) rfl ?_
  refine RG.nil ?_
  refine AT.next ?_
  refine CG.seq ?_
  refine CG.seq ?_
  refine CG.region ?_
  refine RG.op (ok_move (ht rfl)) rfl ?_
  refine RG.op (ok_buildSlice (r := (rSl (rSl rpDValue))) (ys := [l]) (xs := [.tmp 5]) Tryz.underlying25 ti54 rfl rfl rfl rfl rfl ⟨(ht rfl), trivial⟩) rfl ?_
  obtain ⟨r, q_r, h⟩ := bs h
  refine RG.op (ok_call cb56 (f56_ok _ q_r) ⟨(ht rfl), trivial⟩) rfl ?_
  refine RG.op (ok_assign (ht rfl)) rfl ?_
  refine RG.nil ?_
  refine AT.next ?_
  refine CG.seq ?_
  refine CG.region ?_
  refine RG.op (ok_move (ht rfl)) rfl ?_
  refine RG.op (ok_neqI (ht rfl) hI) rfl ?_
  refine RG.nil ?_
  refine AT.next ?_
  refine CG.cond (ht rfl) (fun hc => ?_) (fun hc => ?_)
  · have h := ct h hc
    refine CG.seq ?_
    refine CG.region ?_
    refine RG.op (ok_move (ht rfl)) rfl ?_
    refine RG.op (ok_assign (show HasTy _ _ _ (tD (rSl (rSl rpDValue)) ([])) from hNil)) rfl ?_
    refine RG.op (ok_assign (ht rfl)) rfl ?_
    refine RG.nil ?_
    refine AT.next ?_
    refine CG.ret ?_
    refine AT.then_ret ?_
    cases so h
    exact AT.ret2 rfl rfl rfl
  · have h := cf h hc
    refine CG.skip ?_
    refine AT.next ?_
    refine CG.seq ?_
    refine CG.region ?_
    refine RG.op (ok_move (ht rfl)) rfl ?_
    obtain ⟨r1, q_r1, h⟩ := bs h
    refine RG.callO cb57 (f57_own _ q_r1) ⟨(ht rfl), trivial⟩ rfl (fun l1 c => ?_)
    refine RG.op (ok_assign (ht rfl)) rfl ?_
    refine RG.op (ok_assign hI) rfl ?_
    refine RG.nil ?_
    refine AT.next ?_
    refine CG.ret ?_
    refine AT.freeze ?_
    refine AT.tipAt 2 rfl ?_
    refine AT.tipAt 12 rfl ?_
    refine AT.dataAt 2 rfl ?_
    refine AT.drop ?_
    cases so h
    exact AT.ret2 rfl rfl rfl

set_option maxRecDepth 100000 in
theorem f27_ok (c : DCatalog) (l : DLayout) {R : DBase × Int} (h : place_Gather c l = some R) : Spec Tryz.prog 27 [tD rpDCatalog c, tD rpDLayout l] (tT [tD rpDBase R.1, tD (rI .i64) R.2]) := by
  refine Spec.ofM Tryz.func27 rfl rfl rfl fun w0 S0 => ?_
  refine CG.seq ?_
  refine CG.region ?_
  refine RG.op (ok_box (ht rfl)) rfl ?_
  refine RG.op (ok_box (ht rfl)) rfl ?_
  refine RG.alloc (r := rpDBase) (x := (⟨[]⟩ : DBase)) ti27 (fun _ => zrDBase _) rfl (fun b => ?_)
  refine RG.op (ok_assign hI) rfl ?_
  refine RG.nil ?_
  refine AT.next ?_
  refine CG.seq ?_
  refine CG.seq ?_
  refine CG.region ?_
  refine RG.op (ok_load ti24 rfl rfl (ht rfl)) rfl ?_
  refine RG.op (ok_load ti36 rfl rfl (ht rfl)) rfl ?_
  obtain ⟨r, q_r, h⟩ := bs h
  refine RG.op (ok_call cb28 (f28_ok _ _ q_r) ⟨(ht rfl), (ht rfl), trivial⟩) rfl ?_
  refine RG.op (ok_assign (ht rfl)) rfl ?_
  refine RG.nil ?_
  refine AT.next ?_
  refine CG.seq ?_
  refine CG.region ?_
  refine RG.op (ok_move (ht rfl)) rfl ?_
  refine RG.op (ok_neqI (ht rfl) hI) rfl ?_
  refine RG.nil ?_
  refine AT.next ?_
  refine CG.cond (ht rfl) (fun hc => ?_) (fun hc => ?_)
  · have h := ct h hc
    refine CG.seq ?_
    refine CG.region ?_
    refine RG.op (ok_build (y := (⟨[]⟩ : DBase)) ti27 fs27 zrDBase (rfl)) rfl ?_
    refine RG.op (ok_move (ht rfl)) rfl ?_
    refine RG.storeB ti27 rfl sfld_whole rfl (ht rfl) (ht rfl) ?_
    refine RG.op (ok_assign (ht rfl)) rfl ?_
    refine RG.nil ?_
    refine AT.next ?_
    refine CG.ret ?_
    refine AT.then_ret ?_
    refine AT.settleB 4 rfl ?_
    refine AT.shut0 ?_
    cases so h
    exact AT.retL (ts := [tD rpDBase (⟨[]⟩ : DBase), tD (rI .i64) r]) (rvs := [.cell 4 27, .tmp 5]) rfl rfl ⟨res_cell ti27 rfl rfl rfl, res_tmp rfl, trivial⟩
  · have h := cf h hc
    refine CG.skip ?_
    refine AT.next ?_
    refine CG.seq ?_
    refine CG.region ?_
    refine RG.op (ok_load ti24 rfl rfl (ht rfl)) rfl ?_
    obtain ⟨r1, q_r1, h⟩ := bs h
    refine RG.callM [] _ rfl cb42 (f42_n _ _ q_r1) ⟨(ht rfl), hI, trivial⟩ rfl (fun i => ?_)
    refine (show RG _ _ _ _ [nst (fun y : DBase => y.Tables) (rSl rpDValue) 27 54 45 (i.h 0).1 (i.h 0).2 r1.Parts.length i.ng r1.Parts none, bx rpDBase 27 b (⟨[]⟩ : DBase)] ((20, tV (.agg #[oslV (i.h 0).1 (i.h 0).2 r1.Parts.length])) :: _) from ?_)
    refine RG.op (ok_fieldH (r := rpOLayout_0) (y := mkOLayout_0 (⟨[]⟩ : DLayout) (oslV (i.h 0).1 (i.h 0).2 r1.Parts.length)) (v := oslV (i.h 0).1 (i.h 0).2 r1.Parts.length) (show fieldT _ 36 0 = some (34, 0) by kernel_rfl) ti34 rfl flOLayout_0_0 rfl (fun _ => ⟨rfl, osl_one _ _ _⟩) (ht rfl)) rfl ?_
    obtain ⟨e, q_e, h⟩ := bs h
    refine RG.op (ok_idxN1 Tryz.underlying34 ti27 (.head _) (ht rfl) hI q_e) rfl ?_
    refine RG.op (ok_ldN1S ti27 (.head _) q_e (ht rfl)) rfl ?_
    refine RG.alloc (r := rpOBase_0) (x := mkOBase_0 (⟨[]⟩ : DBase) (oslV none 0 0)) ti27 zrOBase_0 rfl (fun b1 => ?_)
    refine RG.front1 ?_
    refine RG.nstTab q_e ?_
    refine RG.front1 ?_
    refine RG.storeFX (q := rpOBase_0) (y := mkOBase_0 (⟨[]⟩ : DBase) (oslV (i.ng (0 : Int).toNat).1.1 (i.ng (0 : Int).toNat).1.2 e.Tables.length)) (x' := mkOBase_0 (⟨[]⟩ : DBase) (oslV (i.ng (0 : Int).toNat).1.1 (i.ng (0 : Int).toNat).1.2 e.Tables.length)) ti27 rfl (sfx_of sfld_whole) rfl (ht rfl) (hH rfl (fun _ => ⟨rfl, osl_one _ _ _⟩) (ht rfl)) ?_
    refine RG.nil ?_
    refine AT.next ?_
    refine CG.seq ?_
    refine CG.seq ?_
    refine CG.region ?_
    refine RG.op (ok_load ti36 rfl rfl (ht rfl)) rfl ?_
    obtain ⟨it, q_it, h⟩ := bs h
    refine RG.callIt cb50 (f50_itr _ q_it) ⟨(ht rfl), trivial⟩ rfl (fun v fp => ?_)
    refine RG.nil ?_
    refine AT.next ?_
    refine CG.block ?_
    obtain ⟨r2, q_r2, h⟩ := bs h
    refine CG.itU ?_
    refine CG.rangeX (fun (ix : (Nat → Option Nat × Nat) × (List (List (List DValue)))) => [bx rpOBase_0 27 b1 (mkOBase_0 (⟨[]⟩ : DBase) (oslV (i.ng (0 : Int).toNat).1.1 (i.ng (0 : Int).toNat).1.2 e.Tables.length)), tab (rSl rpDValue) 54 45 (i.ng (0 : Int).toNat).1.1 (i.ng (0 : Int).toNat).1.2 e.Tables.length ix.1 ix.2 none, bx rpDBase 27 b (⟨[]⟩ : DBase)]) (fun (ix : (Nat → Option Nat × Nat) × (List (List (List DValue)))) => (ix.2)) (fun _ => .ret) rfl (ht rfl) ((i.ng (0 : Int).toNat).2, e.Tables) rfl q_r2 (fun _ => rfl) rfl (fun ix x r3 h lp rec1 _ _ _ => ?_) (fun i1 j hi bd => ⟨fun hj => ?_, fun _ hj => ?_⟩)
    · obtain ⟨g, x1⟩ := ix
      replace h : place_Gather_b1 x x1 = some r3 := h
      refine (show CG _ _ _ [recP lp rec1 .ready none, bx rpOBase_0 27 b1 (mkOBase_0 (⟨[]⟩ : DBase) (oslV (i.ng (0 : Int).toNat).1.1 (i.ng (0 : Int).toNat).1.2 e.Tables.length)), tab (rSl rpDValue) 54 45 (i.ng (0 : Int).toNat).1.1 (i.ng (0 : Int).toNat).1.2 e.Tables.length g x1 none, bx rpDBase 27 b (⟨[]⟩ : DBase)] _ from ?_)
      refine CG.sub (G' := [(0, tD rpDCatalog c), (1, tD rpDLayout l), (2, tPtr rpDCatalog c), (3, tPtr rpDLayout l), (4, tV (bptr b 0)), (5, tD (rI .i64) (0 : Int)), (6, tD (rI .i64) r), (7, tV (bptr b1 0)), (12, tD rpDCatalog c), (13, tD rpDLayout l), (14, tD (rI .i64) r), (15, tD (rI .i64) r), (16, tD rB (r != (0 : Int))), (19, tD rpDCatalog c), (23, tV (.agg #[oslV (i.ng (0 : Int).toNat).1.1 (i.ng (0 : Int).toNat).1.2 e.Tables.length])), (24, tD rpDLayout l), (26, tD rpDcell x.1), (27, tD (rSl rpDValue) x.2)]) ?_ ⟨rfl, rfl, rfl, rfl, rfl, rfl, rfl, rfl, rfl, rfl, rfl, rfl, rfl, rfl, rfl, rfl, rfl, rfl, trivial⟩
      refine CG.seq ?_
      refine CG.region ?_
      refine RG.alloc (r := rpDcell) (x := (⟨(0 : Int), (0 : Int), (0 : Int)⟩ : Dcell)) ti97 (fun _ => zrDcell _) rfl (fun b2 => ?_)
      refine RG.storeB ti97 rfl sfld_whole rfl (ht rfl) (ht rfl) ?_
      refine RG.settleB 8 rfl ?_
      refine RG.nil ?_
      refine AT.next ?_
      refine CG.region ?_
      refine RG.op (ok_assign (ht rfl)) rfl ?_
      refine RG.nil ?_
      refine AT.beginP ?_
      refine CG.block ?_
      obtain ⟨e1, q_e1, h⟩ := bs h
      refine CG.front2 ?_
      refine CG.openT (j := x.1.table) q_e1 ?_
      obtain ⟨l1, q_l1, h⟩ := bs h
      refine CG.drawS 13 [tc (tV (bptr b1 0)), tc (tV (oslV (i.ng (0 : Int).toNat).1.1 (i.ng (0 : Int).toNat).1.2 e.Tables.length)), tc (tPtr (rI .i64) x.1.table), tc (tD (rI .i64) x.1.table), tc (tV (bptr b1 0)), tc (tV (oslV (i.ng (0 : Int).toNat).1.1 (i.ng (0 : Int).toNat).1.2 e.Tables.length)), tc (tPtr (rI .i64) x.1.table), tc (tD (rI .i64) x.1.table), tc (tV (eptr (i.ng (0 : Int).toNat).1.1 x.1.table.toNat)), tc (tO (rSl rpDValue) (g x.1.table.toNat).1 (g x.1.table.toNat).2 e1), tc (tD (rSl rpDValue) x.2), tc (tD (rSl (rSl rpDValue)) ([x.2])), ([12], fun s => tO (rSl rpDValue) ((s.getD 0 zoi).h 0).1 ((s.getD 0 zoi).h 0).2 l1)] [false, false, false, false, false, false, false, false, false, false, false, false, true] [fun _ => [tip (rSl rpDValue) 45 (g x.1.table.toNat).1 (g x.1.table.toNat).2 e1, tab (rSl rpDValue) 54 45 (i.ng (0 : Int).toNat).1.1 (i.ng (0 : Int).toNat).1.2 e.Tables.length g x1 (some x.1.table.toNat), recP lp rec1 .busy none, bx rpOBase_0 27 b1 (mkOBase_0 (⟨[]⟩ : DBase) (oslV (i.ng (0 : Int).toNat).1.1 (i.ng (0 : Int).toNat).1.2 e.Tables.length)), bx rpDBase 27 b (⟨[]⟩ : DBase)], fun sg => [tip (rSl rpDValue) 45 ((sg 12).h 0).1 ((sg 12).h 0).2 l1, tab (rSl rpDValue) 54 45 (i.ng (0 : Int).toNat).1.1 (i.ng (0 : Int).toNat).1.2 e.Tables.length g x1 (some x.1.table.toNat), recP lp rec1 .busy none, bx rpOBase_0 27 b1 (mkOBase_0 (⟨[]⟩ : DBase) (oslV (i.ng (0 : Int).toNat).1.1 (i.ng (0 : Int).toNat).1.2 e.Tables.length)), bx rpDBase 27 b (⟨[]⟩ : DBase)]] rfl mixed rfl rfl rfl rfl rfl
        ⟨⟨[⟨7, fun _ => tV (bptr b1 0), none⟩], _, 0, 1, rfl, ⟨(fun _ => rfl), trivial⟩, rfl, rfl, rfl, rfl, rfl, fun _ sg _ _ => OpG.plain rfl (ok_fieldAddrC (n := 0) fd27_0 rfl (ht rfl) rfl)⟩,
        ⟨⟨[⟨28, fun _ => tV (bptr b1 0), some 0⟩], _, 0, 1, rfl, ⟨(fun _ => rfl), trivial⟩, rfl, rfl, rfl, rfl, rfl, winS (fun sg => OpG.plain rfl (ok_loadFV (l := (i.ng (0 : Int).toNat).1.1) (cap := (i.ng (0 : Int).toNat).1.2) (n := e.Tables.length) ti25 flOBase_0_0 (.tail _ (.tail _ (.tail _ (.head _)))) rfl (ht rfl))) (win1 (fun sg => OpG.plain rfl (ok_loadFV (l := (i.ng (0 : Int).toNat).1.1) (cap := (i.ng (0 : Int).toNat).1.2) (n := e.Tables.length) ti25 flOBase_0_0 (.tail _ (.tail _ (.tail _ (.head _)))) rfl (ht rfl))))⟩,
        ⟨⟨[⟨8, fun _ => tPtr rpDcell x.1, none⟩], _, 0, 1, rfl, ⟨(fun _ => rfl), trivial⟩, rfl, rfl, rfl, rfl, rfl, fun _ sg _ _ => OpG.plain rfl (ok_fieldAddr fd97_1 rfl flDcell_1 rfl (ht rfl))⟩,
        ⟨⟨[⟨30, fun _ => tPtr (rI .i64) x.1.table, some 2⟩], _, 0, 1, rfl, ⟨(fun _ => rfl), trivial⟩, rfl, rfl, rfl, rfl, rfl, fun _ sg _ _ => OpG.plain rfl (ok_load ti3 rfl rfl (ht rfl))⟩,
        ⟨⟨[⟨7, fun _ => tV (bptr b1 0), none⟩], _, 0, 0, rfl, ⟨(fun _ => rfl), trivial⟩, rfl, rfl, rfl, rfl, rfl, fun _ sg _ _ => OpG.plain rfl (ok_fieldAddrC (n := 0) fd27_0 rfl (ht rfl) rfl)⟩,
        ⟨⟨[⟨32, fun _ => tV (bptr b1 0), some 4⟩], _, 0, 0, rfl, ⟨(fun _ => rfl), trivial⟩, rfl, rfl, rfl, rfl, rfl, win1 (fun sg => OpG.plain rfl (ok_loadFV (l := (i.ng (0 : Int).toNat).1.1) (cap := (i.ng (0 : Int).toNat).1.2) (n := e.Tables.length) ti25 flOBase_0_0 (.tail _ (.tail _ (.tail _ (.head _)))) rfl (ht rfl)))⟩,
        ⟨⟨[⟨8, fun _ => tPtr rpDcell x.1, none⟩], _, 0, 0, rfl, ⟨(fun _ => rfl), trivial⟩, rfl, rfl, rfl, rfl, rfl, fun _ sg _ _ => OpG.plain rfl (ok_fieldAddr fd97_1 rfl flDcell_1 rfl (ht rfl))⟩,
        ⟨⟨[⟨34, fun _ => tPtr (rI .i64) x.1.table, some 6⟩], _, 0, 0, rfl, ⟨(fun _ => rfl), trivial⟩, rfl, rfl, rfl, rfl, rfl, fun _ sg _ _ => OpG.plain rfl (ok_load ti3 rfl rfl (ht rfl))⟩,
        ⟨⟨[⟨33, fun _ => tV (oslV (i.ng (0 : Int).toNat).1.1 (i.ng (0 : Int).toNat).1.2 e.Tables.length), some 5⟩, ⟨35, fun _ => tD (rI .i64) x.1.table, some 7⟩], _, 0, 0, rfl, ⟨(fun _ => rfl), (fun _ => rfl), trivial⟩, rfl, rfl, rfl, rfl, rfl, win1 (fun sg => OpG.plain rfl (ok_idxT Tryz.underlying25 ti54 (.tail _ (.head _)) (ht rfl) (ht rfl) q_e1))⟩,
        ⟨⟨[⟨36, fun _ => tV (eptr (i.ng (0 : Int).toNat).1.1 x.1.table.toNat), some 8⟩], _, 0, 0, rfl, ⟨(fun _ => rfl), trivial⟩, rfl, rfl, rfl, rfl, rfl, win1 (fun sg => OpG.plain rfl (ok_ldT ti54 (.tail _ (.head _)) (.head _) q_e1 (ht rfl)))⟩,
        ⟨⟨[⟨9, fun _ => tD (rSl rpDValue) x.2, none⟩], _, 0, 0, rfl, ⟨(fun _ => rfl), trivial⟩, rfl, rfl, rfl, rfl, rfl, fun _ sg _ _ => OpG.plain rfl (ok_move (ht rfl))⟩,
        ⟨⟨[⟨38, fun _ => tD (rSl rpDValue) x.2, some 10⟩], _, 0, 0, rfl, ⟨(fun _ => rfl), trivial⟩, rfl, rfl, rfl, rfl, rfl, fun _ sg _ _ => OpG.plain rfl (ok_buildSlice (r := (rSl rpDValue)) (ys := [x.2]) (xs := [.tmp 38]) Tryz.underlying54 ti45 rfl rfl rfl rfl rfl ⟨(ht rfl), trivial⟩)⟩,
        ⟨⟨[⟨37, fun _ => tO (rSl rpDValue) (g x.1.table.toNat).1 (g x.1.table.toNat).2 e1, some 9⟩, ⟨39, fun _ => tD (rSl (rSl rpDValue)) ([x.2]), some 11⟩], _, rfl, ⟨(fun _ => rfl), (fun _ => rfl), trivial⟩, rfl, rfl, rfl, fun sg => EffG.plain rfl (eff_appendT ti45 rfl rfl rfl rfl Tryz.underlying54 rfl (ht rfl) (ht rfl) q_l1)⟩,
        trivial⟩⟩⟩⟩⟩⟩⟩⟩⟩⟩⟩⟩⟩ (fun sg => ?_)
      refine (show RG _ _ _ _ [tip (rSl rpDValue) 45 ((sg 12).h 0).1 ((sg 12).h 0).2 l1, tab (rSl rpDValue) 54 45 (i.ng (0 : Int).toNat).1.1 (i.ng (0 : Int).toNat).1.2 e.Tables.length g x1 (some x.1.table.toNat), recP lp rec1 .busy none, bx rpOBase_0 27 b1 (mkOBase_0 (⟨[]⟩ : DBase) (oslV (i.ng (0 : Int).toNat).1.1 (i.ng (0 : Int).toNat).1.2 e.Tables.length)), bx rpDBase 27 b (⟨[]⟩ : DBase)] _ from ?_)
      refine RG.op (ok_idxT Tryz.underlying25 ti54 (.tail _ (.head _)) (ht rfl) (ht rfl) q_e1) rfl ?_
      refine RG.eff0 (EffOK.fr1 (EffOK.fr1 (eff_stT ti54 q_e1 (ht rfl) (tO_v (ht rfl))))) (fun _ => ?_)
      refine (show RG _ _ _ _ [tab (rSl rpDValue) 54 45 (i.ng (0 : Int).toNat).1.1 (i.ng (0 : Int).toNat).1.2 e.Tables.length (qset g x.1.table.toNat (((sg 12).h 0).1, ((sg 12).h 0).2)) (x1.set x.1.table.toNat l1) none, recP lp rec1 .busy none, bx rpOBase_0 27 b1 (mkOBase_0 (⟨[]⟩ : DBase) (oslV (i.ng (0 : Int).toNat).1.1 (i.ng (0 : Int).toNat).1.2 e.Tables.length)), bx rpDBase 27 b (⟨[]⟩ : DBase)] _ from ?_)
      refine RG.nil ?_
      refine AT.in_normal ?_
      refine AT.front3 ?_
      refine AT.front1 ?_
      refine AT.front3 ?_
      refine AT.front3 ?_
      cases so h
      exact AT.endRoundP ((qset g x.1.table.toNat (((sg 12).h 0).1, ((sg 12).h 0).2)), (x1.set x.1.table.toNat l1)) rfl rfl
    · skip
      obtain ⟨g1, x2⟩ := i1
      obtain rfl : x2 = r2.1.2 := congrArg (fun q : (List (List (List DValue))) => q) hi
      have h := ct h (by rw [hj]; rfl)
      refine (show AT _ _ _ [dfb bd, bx rpOBase_0 27 b1 (mkOBase_0 (⟨[]⟩ : DBase) (oslV (i.ng (0 : Int).toNat).1.1 (i.ng (0 : Int).toNat).1.2 e.Tables.length)), tab (rSl rpDValue) 54 45 (i.ng (0 : Int).toNat).1.1 (i.ng (0 : Int).toNat).1.2 e.Tables.length g1 r2.1.2 none, bx rpDBase 27 b (⟨[]⟩ : DBase)] _ from ?_)
      refine AT.sub (G' := [(0, tD rpDCatalog c), (1, tD rpDLayout l), (2, tPtr rpDCatalog c), (3, tPtr rpDLayout l), (4, tV (bptr b 0)), (5, tD (rI .i64) (0 : Int)), (6, tD (rI .i64) r), (7, tV (bptr b1 0)), (12, tD rpDCatalog c), (13, tD rpDLayout l), (14, tD (rI .i64) r), (15, tD (rI .i64) r), (16, tD rB (r != (0 : Int))), (19, tD rpDCatalog c), (23, tV (.agg #[oslV (i.ng (0 : Int).toNat).1.1 (i.ng (0 : Int).toNat).1.2 e.Tables.length])), (24, tD rpDLayout l)]) ?_ ⟨rfl, rfl, rfl, rfl, rfl, rfl, rfl, rfl, rfl, rfl, rfl, rfl, rfl, rfl, rfl, rfl, trivial⟩
      refine AT.in_normal ?_
      refine AT.next ?_
      refine CG.seq ?_
      refine CG.seq ?_
      refine CG.region ?_
      refine RG.op (ok_fieldAddrC (n := 0) fd27_0 rfl (ht rfl) rfl) rfl ?_
      refine RG.front2 ?_
      refine RG.tabArr (fun hl => ?_)
      refine RG.castO (O' := [arr (rSl (rSl rpDValue)) 54 (i.ng (0 : Int).toNat).1.1 (i.ng (0 : Int).toNat).1.2 r2.1.2, dfb bd, bx rpOBase_0 27 b1 (mkOBase_0 (⟨[]⟩ : DBase) (oslV (i.ng (0 : Int).toNat).1.1 (i.ng (0 : Int).toNat).1.2 r2.1.2.length)), bx rpDBase 27 b (⟨[]⟩ : DBase)]) (by rw [hl]) ?_
      refine RG.op (ok_loadFV ti25 flOBase_0_0 (.tail _ (.tail _ (.head _))) rfl (ht rfl)) rfl ?_
      refine RG.op (ok_lenO Tryz.underlying25 (.head _) (ht rfl)) rfl ?_
      refine RG.op (ok_move hI) rfl ?_
      refine RG.nil ?_
      refine AT.next ?_
      refine CG.block ?_
      refine CG.have_lenA (.head _) (fun hN => ?_)
      refine CG.loop ?_
      refine LG.front2 ?_
      refine LG.front2 ?_
      refine LG.front3 ?_
      refine LG.sub (LG.nat2 (Z := fun k i2 x3 => (r2.1.2.length - i2 = k) ∧ place_Gather_l1 k i2 x3 = some R) (Of := fun _ i2 x3 => [bx rpDBase 27 b (⟨[]⟩ : DBase), dfb bd, bx rpOBase_0 27 b1 (mkOBase_0 (⟨[]⟩ : DBase) (oslV (i.ng (0 : Int).toNat).1.1 (i.ng (0 : Int).toNat).1.2 x3.length)), arr (rSl (rSl rpDValue)) 54 (i.ng (0 : Int).toNat).1.1 (i.ng (0 : Int).toNat).1.2 x3]) (Gf := fun _ i2 x3 => [(4, tV (bptr b 0)), (7, tV (bptr b1 0)), (43, tV (oslV (i.ng (0 : Int).toNat).1.1 (i.ng (0 : Int).toNat).1.2 x3.length)), (44, tD (rI .i64) (r2.1.2.length : Int)), (45, tD (rI .i64) (i2 : Int))]) (fun i2 x3 h => ?_) (fun k1 ih i2 x3 h => ?_) r2.1.2.length 0 r2.1.2 ⟨rfl, h⟩) ⟨rfl, rfl, rfl, rfl, rfl, trivial⟩
      · obtain ⟨hx, h⟩ := h
        refine LG.unfold ?_
        refine CG.seq ?_
        refine CG.region ?_
        refine RG.op (ok_lss (ht rfl) (ht rfl)) rfl ?_
        refine RG.nil ?_
        refine AT.next ?_
        refine CG.seq ?_
        refine CG.condF (ht rfl) (natF hx) ?_
        refine CG.exit ?_
        refine AT.then_exit (AT.then_exit (AT.in_exit ?_))
        refine AT.next ?_
        refine CG.seq ?_
        refine CG.region ?_
        refine RG.front3 ?_
        refine RG.freeze ?_
        refine RG.tipAt 43 rfl ?_
        refine RG.op (ok_loadObj (q := rpDBase) (y := ({ (⟨[]⟩ : DBase) with Tables := x3 } : DBase)) ti27 rfl rfl rfl rfl (.tail _ (.tail _ (.tail _ (.head _)))) (fun _ _ _ ho h => cvOBase_0_to_D (own_tip ho (.head _)) h) (ht rfl)) rfl ?_
        refine RG.front1 ?_
        refine RG.storeB ti27 rfl sfld_whole rfl (ht rfl) (ht rfl) ?_
        refine RG.op (ok_assign hI) rfl ?_
        refine RG.nil ?_
        refine AT.next ?_
        refine CG.ret ?_
        refine AT.settleB 4 rfl ?_
        refine AT.drop ?_
        refine AT.front1 ?_
        refine AT.drop ?_
        refine AT.shut ?_
        refine AT.shut0 ?_
        cases so h
        exact AT.retL (ts := [tD rpDBase ({ (⟨[]⟩ : DBase) with Tables := x3 } : DBase), tD (rI .i64) (0 : Int)]) (rvs := [.cell 4 27, .tmp 5]) rfl rfl ⟨res_cell ti27 rfl rfl rfl, res_tmp rfl, trivial⟩
      · obtain ⟨hx, h⟩ := h
        refine LG.unfold ?_
        refine CG.seq ?_
        refine CG.region ?_
        refine RG.op (ok_lss (ht rfl) (ht rfl)) rfl ?_
        refine RG.nil ?_
        refine AT.next ?_
        refine CG.seq ?_
        refine CG.condT (ht rfl) (natT hx) ?_
        refine CG.skip ?_
        refine AT.next ?_
        refine CG.seq ?_
        refine CG.block ?_
        refine CG.seq ?_
        refine CG.region ?_
        refine RG.op (ok_move (ht rfl)) rfl ?_
        obtain ⟨e3, q_e3, h⟩ := bs h
        refine RG.op (ok_indexAddrO Tryz.underlying25 ti54 (.tail _ (.tail _ (.tail _ (.head _)))) (ht rfl) (ht rfl) q_e3) rfl ?_
        refine RG.op (ok_loadE (r := (rSl (rSl rpDValue))) (i := (i2 : Int)) (foff := 0) ti54 rfl rfl fld_whole rfl (.tail _ (.tail _ (.tail _ (.head _)))) q_e3 (ht rfl)) rfl ?_
        refine RG.op (ok_assign (ht rfl)) rfl ?_
        refine RG.op (ok_assign (ht rfl)) rfl ?_
        refine RG.nil ?_
        refine AT.next ?_
        obtain ⟨r4, q_r4, h⟩ := bs h
        obtain ⟨st, q_st, h⟩ := bs h
        refine CG.drawS 10 [tc (tV (bptr b1 0)), tc (tV (oslV (i.ng (0 : Int).toNat).1.1 (i.ng (0 : Int).toNat).1.2 x3.length)), tc (tD (rI .i64) (i2 : Int)), tc (tD (rSl (rSl rpDValue)) e3), tc (tT [tD (rSl (rSl rpDValue)) r4.1, tD (rI .i64) r4.2]), tc (tT [tD (rSl (rSl rpDValue)) r4.1, tD (rI .i64) r4.2]), tc (tD (rSl (rSl rpDValue)) r4.1), tc (tD (rI .i64) r4.2), tc (tV (eptr (i.ng (0 : Int).toNat).1.1 ((i2 : Int).toNat * 1 + 0))), tc (tAny)] [false, false, false, false, false, false, false, false, false, true] [fun _ => [bx rpDBase 27 b (⟨[]⟩ : DBase), dfb bd, bx rpOBase_0 27 b1 (mkOBase_0 (⟨[]⟩ : DBase) (oslV (i.ng (0 : Int).toNat).1.1 (i.ng (0 : Int).toNat).1.2 x3.length)), arr (rSl (rSl rpDValue)) 54 (i.ng (0 : Int).toNat).1.1 (i.ng (0 : Int).toNat).1.2 x3], fun sg1 => [arr (rSl (rSl rpDValue)) 54 (i.ng (0 : Int).toNat).1.1 (i.ng (0 : Int).toNat).1.2 st, bx rpDBase 27 b (⟨[]⟩ : DBase), dfb bd, bx rpOBase_0 27 b1 (mkOBase_0 (⟨[]⟩ : DBase) (oslV (i.ng (0 : Int).toNat).1.1 (i.ng (0 : Int).toNat).1.2 x3.length))]] rfl mixed rfl rfl rfl rfl rfl
          ⟨⟨[⟨7, fun _ => tV (bptr b1 0), none⟩], _, 0, 0, rfl, ⟨(fun _ => rfl), trivial⟩, rfl, rfl, rfl, rfl, rfl, fun _ sg1 _ _ => OpG.plain rfl (ok_fieldAddrC (n := 0) fd27_0 rfl (ht rfl) rfl)⟩,
          ⟨⟨[⟨51, fun _ => tV (bptr b1 0), some 0⟩], _, 0, 0, rfl, ⟨(fun _ => rfl), trivial⟩, rfl, rfl, rfl, rfl, rfl, win1 (fun sg1 => OpG.plain rfl (ok_loadFV ti25 flOBase_0_0 (.tail _ (.tail _ (.head _))) rfl (ht rfl)))⟩,
          ⟨⟨[⟨10, fun _ => tD (rI .i64) (i2 : Int), none⟩], _, 0, 0, rfl, ⟨(fun _ => rfl), trivial⟩, rfl, rfl, rfl, rfl, rfl, fun _ sg1 _ _ => OpG.plain rfl (ok_move (ht rfl))⟩,
          ⟨⟨[⟨11, fun _ => tD (rSl (rSl rpDValue)) e3, none⟩], _, 0, 0, rfl, ⟨(fun _ => rfl), trivial⟩, rfl, rfl, rfl, rfl, rfl, fun _ sg1 _ _ => OpG.plain rfl (ok_move (ht rfl))⟩,
          ⟨⟨[⟨54, fun _ => tD (rSl (rSl rpDValue)) e3, some 3⟩], _, 0, 0, rfl, ⟨(fun _ => rfl), trivial⟩, rfl, rfl, rfl, rfl, rfl, fun _ sg1 _ _ => OpG.plain rfl (ok_call cb29 (f29_ok _ q_r4) ⟨(ht rfl), trivial⟩)⟩,
          ⟨⟨[⟨55, fun _ => tT [tD (rSl (rSl rpDValue)) r4.1, tD (rI .i64) r4.2], some 4⟩], _, 0, 0, rfl, ⟨(fun _ => rfl), trivial⟩, rfl, rfl, rfl, rfl, rfl, fun _ sg1 _ _ => OpG.plain rfl (ok_move (ht rfl))⟩,
          ⟨⟨[⟨50, fun _ => tT [tD (rSl (rSl rpDValue)) r4.1, tD (rI .i64) r4.2], some 5⟩], _, 0, 0, rfl, ⟨(fun _ => rfl), trivial⟩, rfl, rfl, rfl, rfl, rfl, fun _ sg1 _ _ => OpG.plain rfl (ok_extract rfl (ht rfl))⟩,
          ⟨⟨[⟨50, fun _ => tT [tD (rSl (rSl rpDValue)) r4.1, tD (rI .i64) r4.2], some 5⟩], _, 0, 1, rfl, ⟨(fun _ => rfl), trivial⟩, rfl, rfl, rfl, rfl, rfl, fun _ sg1 _ _ => OpG.plain rfl (ok_extract rfl (ht rfl))⟩,
          ⟨⟨[⟨52, fun _ => tV (oslV (i.ng (0 : Int).toNat).1.1 (i.ng (0 : Int).toNat).1.2 x3.length), some 1⟩, ⟨53, fun _ => tD (rI .i64) (i2 : Int), some 2⟩], _, 0, 0, rfl, ⟨(fun _ => rfl), (fun _ => rfl), trivial⟩, rfl, rfl, rfl, rfl, rfl, win1 (fun sg1 => OpG.plain rfl (ok_indexAddrO Tryz.underlying25 ti54 (.tail _ (.tail _ (.tail _ (.head _)))) (ht rfl) (ht rfl) q_e3))⟩,
          ⟨⟨[⟨58, fun _ => tV (eptr (i.ng (0 : Int).toNat).1.1 ((i2 : Int).toNat * 1 + 0)), some 8⟩, ⟨56, fun _ => tD (rSl (rSl rpDValue)) r4.1, some 6⟩], _, rfl, ⟨(fun _ => rfl), (fun _ => rfl), trivial⟩, rfl, rfl, rfl, fun sg1 => EffG.plain rfl (EffOK.fr3 (eff_storeE (r := (rSl (rSl rpDValue))) (i := (i2 : Int)) (foff := 0) ti54 rfl sfld_whole rfl q_e3 (so q_st) (ht rfl) (ht rfl)))⟩,
          trivial⟩⟩⟩⟩⟩⟩⟩⟩⟩⟩ (fun sg1 => ?_)
        refine (show RG _ _ _ _ [arr (rSl (rSl rpDValue)) 54 (i.ng (0 : Int).toNat).1.1 (i.ng (0 : Int).toNat).1.2 st, bx rpDBase 27 b (⟨[]⟩ : DBase), dfb bd, bx rpOBase_0 27 b1 (mkOBase_0 (⟨[]⟩ : DBase) (oslV (i.ng (0 : Int).toNat).1.1 (i.ng (0 : Int).toNat).1.2 x3.length))] _ from ?_)
        refine RG.castO (O' := [arr (rSl (rSl rpDValue)) 54 (i.ng (0 : Int).toNat).1.1 (i.ng (0 : Int).toNat).1.2 st, bx rpDBase 27 b (⟨[]⟩ : DBase), dfb bd, bx rpOBase_0 27 b1 (mkOBase_0 (⟨[]⟩ : DBase) (oslV (i.ng (0 : Int).toNat).1.1 (i.ng (0 : Int).toNat).1.2 st.length))]) (by rw [set_len (so q_st)]) ?_
        refine RG.relen2 (set_len (so q_st)) 43 rfl ?_
        refine RG.nil ?_
        refine AT.in_normal ?_
        refine AT.next ?_
        refine CG.region ?_
        refine RG.op (ok_incN (natL hx (maxN hN)) (ht rfl) hI) rfl ?_
        refine RG.op (ok_move (ht rfl)) rfl ?_
        refine RG.nil ?_
        refine AT.front3 ?_
        refine AT.front3 ?_
        refine AT.front3 ?_
        exact AT.round (LG.sub (ih (i2 + 1) st ⟨natS hx, h⟩) ⟨rfl, rfl, rfl, rfl, rfl, trivial⟩)
    · skip
      obtain ⟨g2, x4⟩ := i1
      obtain rfl : x4 = r2.1.2 := congrArg (fun q : (List (List (List DValue))) => q) hi
      have h := cf h (by rw [hj]; rfl)
      exact (nn h).elim

set_option maxRecDepth 100000 in
theorem f37_ok {R : DCatalog} (h : law17_one = some R) : Spec Tryz.prog 37 [] (tD rpDCatalog R) := by
  refine Spec.of Tryz.func37 rfl rfl rfl fun w0 S0 => ?_
  refine CG.seq ?_
  refine CG.region ?_
  refine RG.alloc (r := rpDCatalog) (x := (⟨[]⟩ : DCatalog)) ti24 (fun _ => zrDCatalog _) rfl (fun b => ?_)
  refine RG.nil ?_
  refine AT.next ?_
  refine CG.seq ?_
  refine CG.region ?_
  refine RG.op (ok_build (y := (⟨[98], (2 : Int)⟩ : DColumn)) ti79 fs79 zrDColumn (⟨_, _, _, _, _, rfl, sfDColumn_0, rfl, hS, ⟨_, _, _, _, _, rfl, sfDColumn_1, rfl, hI, rfl⟩⟩)) rfl ?_
  refine RG.op (ok_buildSlice (r := rpDColumn) (ys := [(⟨[98], (2 : Int)⟩ : DColumn)]) (xs := [.tmp 1]) Tryz.underlying51 ti79 rfl rfl rfl rfl rfl ⟨(ht rfl), trivial⟩) rfl ?_
  refine RG.op (ok_build (y := (⟨[117], [(⟨[98], (2 : Int)⟩ : DColumn)], []⟩ : DTable)) ti53 fs53 zrDTable (⟨_, _, _, _, _, rfl, sfDTable_0, rfl, hS, ⟨_, _, _, _, _, rfl, sfDTable_1, rfl, (ht rfl), rfl⟩⟩)) rfl ?_
  refine RG.op (ok_buildSlice (r := rpDTable) (ys := [(⟨[117], [(⟨[98], (2 : Int)⟩ : DColumn)], []⟩ : DTable)]) (xs := [.tmp 3]) Tryz.underlying22 ti53 rfl rfl rfl rfl rfl ⟨(ht rfl), trivial⟩) rfl ?_
  refine RG.op (ok_build (y := (⟨[(⟨[117], [(⟨[98], (2 : Int)⟩ : DColumn)], []⟩ : DTable)]⟩ : DCatalog)) ti24 fs24 zrDCatalog (⟨_, _, _, _, _, rfl, sfDCatalog_0, rfl, (ht rfl), rfl⟩)) rfl ?_
  refine RG.storeB ti24 rfl sfld_whole rfl (ht rfl) (ht rfl) ?_
  refine RG.settleB 0 rfl ?_
  refine RG.nil ?_
  refine AT.next ?_
  refine CG.ret ?_
  cases so h
  exact AT.ret1c rfl ti24 rfl rfl rfl

set_option maxRecDepth 100000 in
theorem f38_own (k : Int) {R : (List DValue)} (h : law17_n k = some R) : SpecO Tryz.prog 38 [tD (rI .i64) k] false rpDValue 89 R := by
  refine SpecO.of Tryz.func38 rfl rfl rfl fun w0 S0 => ?_
  refine CG.seq ?_
  refine CG.region ?_
  refine RG.fresh false rpDValue 89 ?_
  refine RG.op (ok_assign hVn) rfl ?_
  refine RG.nil ?_
  refine AT.next ?_
  refine CG.seq ?_
  refine CG.region ?_
  refine RG.op (ok_move (ht rfl)) rfl ?_
  refine RG.op (ok_build (y := (⟨(2 : Int), k, (0 : Int), []⟩ : DValue)) ti89 fs89 zrDValue (⟨_, _, _, _, _, rfl, sfDValue_0, rfl, hI, ⟨_, _, _, _, _, rfl, sfDValue_1, rfl, (ht rfl), rfl⟩⟩)) rfl ?_
  refine RG.buildOwn (r := rpDValue) (ys := [(⟨(2 : Int), k, (0 : Int), []⟩ : DValue)]) (xs := [.tmp 4]) Tryz.underlying45 ti89 rfl rfl rfl rfl rfl ⟨(ht rfl), trivial⟩ rfl (fun l c => ?_)
  refine RG.op (ok_assign (ht rfl)) rfl ?_
  refine RG.nil ?_
  refine AT.next ?_
  refine CG.ret ?_
  cases so h
  exact AT.retO rfl rfl
set_option maxRecDepth 100000 in
theorem f9_ok {R : Bool} (h : law17_wakes = some R) : Spec Tryz.prog 9 [] (tD rB R) := by
  refine Spec.of Tryz.func9 rfl rfl rfl fun w0 S0 => ?_
  refine CG.seq ?_
  refine CG.region ?_
  refine RG.op (ok_assign hB) rfl ?_
  refine RG.nil ?_
  refine AT.next ?_
  refine CG.seq ?_
  refine CG.region ?_
  obtain ⟨r, q_r, h⟩ := bs h
  refine RG.op (ok_call cb37 (f37_ok  q_r) trivial) rfl ?_
  obtain ⟨r1, q_r1, h⟩ := bs h
  refine RG.callO cb38 (f38_own _ q_r1) ⟨hI, trivial⟩ rfl (fun l c => ?_)
  obtain ⟨r2, q_r2, h⟩ := bs h
  refine RG.callO cb38 (f38_own _ q_r2) ⟨hI, trivial⟩ rfl (fun l1 c1 => ?_)
  obtain ⟨r3, q_r3, h⟩ := bs h
  refine RG.callO cb38 (f38_own _ q_r3) ⟨hI, trivial⟩ rfl (fun l2 c2 => ?_)
  refine RG.front2 ?_
  refine RG.freeze ?_
  refine RG.tipAt 7 rfl ?_
  refine RG.front2 ?_
  refine RG.freeze ?_
  refine RG.tipAt 8 rfl ?_
  refine RG.front2 ?_
  refine RG.freeze ?_
  refine RG.tipAt 9 rfl ?_
  refine RG.op (ok_buildSlice (r := (rSl rpDValue)) (ys := [r1, r2, r3]) (xs := [.tmp 7, .tmp 8, .tmp 9]) Tryz.underlying54 ti45 rfl rfl rfl rfl rfl ⟨(tO_d (ht rfl)), (tO_d (ht rfl)), (tO_d (ht rfl)), trivial⟩) rfl ?_
  refine RG.op (ok_buildSlice (r := (rSl (rSl rpDValue))) (ys := [[r1, r2, r3]]) (xs := [.tmp 10]) Tryz.underlying25 ti54 rfl rfl rfl rfl rfl ⟨(ht rfl), trivial⟩) rfl ?_
  refine RG.op (ok_build (y := (⟨[[r1, r2, r3]]⟩ : DBase)) ti27 fs27 zrDBase (⟨_, _, _, _, _, rfl, sfDBase_0, rfl, (ht rfl), rfl⟩)) rfl ?_
  obtain ⟨r4, q_r4, h⟩ := bs h
  refine RG.op (ok_call cb12 (f12_ok _ _ _ _ q_r4) ⟨(ht rfl), (ht rfl), hI, hNil, trivial⟩) rfl ?_
  refine RG.op (ok_move (ht rfl)) rfl ?_
  refine RG.op (ok_extract rfl (ht rfl)) rfl ?_
  refine RG.op (ok_extract rfl (ht rfl)) rfl ?_
  refine RG.alloc (r := rpDLayout) (x := (⟨[]⟩ : DLayout)) ti36 (fun _ => zrDLayout _) rfl (fun b => ?_)
  refine RG.storeB ti36 rfl sfld_whole rfl (ht rfl) (ht rfl) ?_
  refine RG.settleB 1 rfl ?_
  refine RG.op (ok_assign (ht rfl)) rfl ?_
  refine RG.nil ?_
  refine AT.next ?_
  refine CG.seq ?_
  obtain ⟨r5, q_r5, h⟩ := bs h
  obtain ⟨r6, q_r6, h⟩ := bs h
  refine CG.drawS 8 [tc (tD rpDCatalog r5), tc (tD rpDLayout r4.1), tc (tT [tD rpDBase r6.1, tD (rI .i64) r6.2]), tc (tT [tD rpDBase r6.1, tD (rI .i64) r6.2]), tc (tD rpDBase r6.1), tc (tD (rI .i64) r6.2), ([6], fun s => tV (bptr ((s.getD 0 zoi).h 0).2 0)), tc (tAny)] [false, false, false, false, false, false, true, true] [fun _ => [tip rpDValue 89 l2 c2 r3, tip rpDValue 89 l1 c1 r2, tip rpDValue 89 l c r1], fun sg => [bx rpDBase 27 ((sg 6).h 0).2 (⟨[]⟩ : DBase), tip rpDValue 89 l2 c2 r3, tip rpDValue 89 l1 c1 r2, tip rpDValue 89 l c r1], fun sg => [bx rpDBase 27 ((sg 6).h 0).2 r6.1, tip rpDValue 89 l2 c2 r3, tip rpDValue 89 l1 c1 r2, tip rpDValue 89 l c r1]] rfl mixed rfl rfl rfl rfl rfl
    ⟨⟨[], _, 0, 1, rfl, trivial, rfl, rfl, rfl, rfl, rfl, fun _ sg _ _ => OpG.plain rfl (ok_call cb37 (f37_ok  q_r5) trivial)⟩,
    ⟨⟨[⟨1, fun _ => tPtr rpDLayout r4.1, none⟩], _, 0, 1, rfl, ⟨(fun _ => rfl), trivial⟩, rfl, rfl, rfl, rfl, rfl, fun _ sg _ _ => OpG.plain rfl (ok_load ti36 rfl rfl (ht rfl))⟩,
    ⟨⟨[⟨17, fun _ => tD rpDCatalog r5, some 0⟩, ⟨18, fun _ => tD rpDLayout r4.1, some 1⟩], _, 0, 1, rfl, ⟨(fun _ => rfl), (fun _ => rfl), trivial⟩, rfl, rfl, rfl, rfl, rfl, fun _ sg _ _ => OpG.plain rfl (ok_call cb27 (f27_ok _ _ q_r6) ⟨(ht rfl), (ht rfl), trivial⟩)⟩,
    ⟨⟨[⟨19, fun _ => tT [tD rpDBase r6.1, tD (rI .i64) r6.2], some 2⟩], _, 0, 1, rfl, ⟨(fun _ => rfl), trivial⟩, rfl, rfl, rfl, rfl, rfl, fun _ sg _ _ => OpG.plain rfl (ok_move (ht rfl))⟩,
    ⟨⟨[⟨16, fun _ => tT [tD rpDBase r6.1, tD (rI .i64) r6.2], some 3⟩], _, 0, 1, rfl, ⟨(fun _ => rfl), trivial⟩, rfl, rfl, rfl, rfl, rfl, fun _ sg _ _ => OpG.plain rfl (ok_extract rfl (ht rfl))⟩,
    ⟨⟨[⟨16, fun _ => tT [tD rpDBase r6.1, tD (rI .i64) r6.2], some 3⟩], _, 0, 2, rfl, ⟨(fun _ => rfl), trivial⟩, rfl, rfl, rfl, rfl, rfl, fun _ sg _ _ => OpG.plain rfl (ok_extract rfl (ht rfl))⟩,
    ⟨⟨[], _, rfl, trivial, rfl, rfl, rfl, fun sg => EffG.plain rfl (eff_alloc (r := rpDBase) (x := (⟨[]⟩ : DBase)) ti27 (fun _ => zrDBase _))⟩,
    ⟨⟨[⟨3, fun sg => tV (bptr ((sg 6).h 0).2 0), some 6⟩, ⟨20, fun _ => tD rpDBase r6.1, some 4⟩], _, rfl, ⟨(fun _ => rfl), (fun _ => rfl), trivial⟩, rfl, rfl, rfl, fun sg => EffG.plain rfl (eff_storeX ti27 rfl (sfx_of sfld_whole) rfl (ht rfl) (ht rfl))⟩,
    trivial⟩⟩⟩⟩⟩⟩⟩⟩ (fun sg => ?_)
  refine (show RG _ _ _ _ [bx rpDBase 27 ((sg 6).h 0).2 r6.1, tip rpDValue 89 l2 c2 r3, tip rpDValue 89 l1 c1 r2, tip rpDValue 89 l c r1] _ from ?_)
  refine RG.settleB 3 rfl ?_
  refine RG.op (ok_assign (ht rfl)) rfl ?_
  refine RG.nil ?_
  refine AT.next ?_
  refine CG.seq ?_
  refine CG.region ?_
  refine RG.op (ok_move (ht rfl)) rfl ?_
  refine RG.op (ok_eqlI (ht rfl) hI) rfl ?_
  refine RG.op (ok_move (ht rfl)) rfl ?_
  refine RG.opGt rfl rfl rfl rfl (fun hg => ok_move (ht rfl)) ?_
  refine RG.opGt rfl rfl rfl rfl (fun hg => ok_eqlI (htO rfl hg) hI) ?_
  refine RG.op (ok_pickAnd (ht rfl) (fun hb => (htO rfl hb))) rfl ?_
  refine RG.op (ok_move (ht rfl)) rfl ?_
  obtain ⟨t, q_t, h⟩ := bs h
  refine RG.opGt rfl rfl rfl rfl (fun hg => ok_load ti36 rfl rfl (ht rfl)) ?_
  obtain ⟨r7, h1t, h0t⟩ := og q_t
  have q_r7g := fun hb => (h1t hb).1
  refine RG.opGt rfl rfl rfl rfl (fun hg => ok_call cb21 (f21_ok _ _ _ (q_r7g hg)) ⟨(htO rfl hg), hI, hI, trivial⟩) ?_
  refine RG.opGt rfl rfl rfl rfl (fun hg => ok_lenSl Tryz.underlying54 (htO rfl hg)) ?_
  refine RG.opGt rfl rfl rfl rfl (fun hg => ok_eqlI (htO rfl hg) hI) ?_
  refine RG.op (ok_pickAndM (ht rfl) (fun hb => (htO rfl hb)) (fun hb => (h1t hb).2) h0t) rfl ?_
  refine RG.op (ok_move (ht rfl)) rfl ?_
  obtain ⟨t1, q_t1, h⟩ := bs h
  refine RG.opGt rfl rfl rfl rfl (fun hg => ok_load ti36 rfl rfl (ht rfl)) ?_
  obtain ⟨r8, h1t1, h0t1⟩ := og q_t1
  have q_r8g := fun hb => (h1t1 hb).1
  refine RG.opGt rfl rfl rfl rfl (fun hg => ok_call cb21 (f21_ok _ _ _ (q_r8g hg)) ⟨(htO rfl hg), hI, hI, trivial⟩) ?_
  refine RG.opGt rfl rfl rfl rfl (fun hg => ok_lenSl Tryz.underlying54 (htO rfl hg)) ?_
  refine RG.opGt rfl rfl rfl rfl (fun hg => ok_eqlI (htO rfl hg) hI) ?_
  refine RG.op (ok_pickAndM (ht rfl) (fun hb => (htO rfl hb)) (fun hb => (h1t1 hb).2) h0t1) rfl ?_
  refine RG.op (ok_move (ht rfl)) rfl ?_
  refine RG.opGt rfl rfl rfl rfl (fun hg => ok_fieldAddr fd27_0 rfl flDBase_0 rfl (ht rfl)) ?_
  refine RG.opGt rfl rfl rfl rfl (fun hg => ok_load ti25 rfl rfl (htO rfl hg)) ?_
  refine RG.opGt rfl rfl rfl rfl (fun hg => ok_lenSl Tryz.underlying25 (htO rfl hg)) ?_
  refine RG.opGt rfl rfl rfl rfl (fun hg => ok_eqlI (htO rfl hg) hI) ?_
  refine RG.op (ok_pickAnd (ht rfl) (fun hb => (htO rfl hb))) rfl ?_
  refine RG.op (ok_move (ht rfl)) rfl ?_
  obtain ⟨t2, q_t2, h⟩ := bs h
  refine RG.opGt rfl rfl rfl rfl (fun hg => ok_fieldAddr fd27_0 rfl flDBase_0 rfl (ht rfl)) ?_
  refine RG.opGt rfl rfl rfl rfl (fun hg => ok_load ti25 rfl rfl (htO rfl hg)) ?_
  obtain ⟨e, h1t2, h0t2⟩ := og q_t2
  have q_eg := fun hb => (h1t2 hb).1
  refine RG.opGt rfl rfl rfl rfl (fun hg => ok_indexAddr Tryz.underlying25 ti54 rfl (htO rfl hg) hI (q_eg hg)) ?_
  refine RG.opGt rfl rfl rfl rfl (fun hg => ok_load ti54 rfl rfl (htO rfl hg)) ?_
  refine RG.opGt rfl rfl rfl rfl (fun hg => ok_lenSl Tryz.underlying54 (htO rfl hg)) ?_
  refine RG.opGt rfl rfl rfl rfl (fun hg => ok_eqlI (htO rfl hg) hI) ?_
  refine RG.op (ok_pickAndM (ht rfl) (fun hb => (htO rfl hb)) (fun hb => (h1t2 hb).2) h0t2) rfl ?_
  refine RG.op (ok_assign (ht rfl)) rfl ?_
  refine RG.nil ?_
  refine AT.next ?_
  refine CG.ret ?_
  refine AT.drop ?_
  refine AT.drop ?_
  refine AT.drop ?_
  cases so h
  exact AT.ret1 rfl rfl

set_option maxRecDepth 100000 in
theorem f10_ok (c : DCatalog) {R : Bool} (h : law17_overTables c = some R) : Spec Tryz.prog 10 [tD rpDCatalog c] (tD rB R) := by
  refine Spec.of Tryz.func10 rfl rfl rfl fun w0 S0 => ?_
  refine CG.seq ?_
  refine CG.region ?_
  refine RG.op (ok_box (ht rfl)) rfl ?_
  refine RG.op (ok_assign hB) rfl ?_
  refine RG.nil ?_
  refine AT.next ?_
  refine CG.seq ?_
  refine CG.seq ?_
  refine CG.region ?_
  refine RG.op (ok_fieldAddr fd24_0 rfl flDCatalog_0 rfl (ht rfl)) rfl ?_
  refine RG.op (ok_load ti22 rfl rfl (ht rfl)) rfl ?_
  refine RG.op (ok_lenSl Tryz.underlying22 (ht rfl)) rfl ?_
  refine RG.op (ok_gtr (ht rfl) hI) rfl ?_
  refine RG.nil ?_
  refine AT.next ?_
  refine CG.cond (ht rfl) (fun hc => ?_) (fun hc => ?_)
  · have h := ct h hc
    refine CG.seq ?_
    refine CG.region ?_
    refine RG.op (ok_assign hB) rfl ?_
    refine RG.nil ?_
    refine AT.next ?_
    refine CG.ret ?_
    refine AT.then_ret ?_
    cases so h
    exact AT.ret1 rfl rfl
  · have h := cf h hc
    refine CG.skip ?_
    refine AT.next ?_
    refine CG.seq ?_
    refine CG.seq ?_
    refine CG.region ?_
    refine RG.op (ok_fieldAddr fd24_0 rfl flDCatalog_0 rfl (ht rfl)) rfl ?_
    refine RG.op (ok_load ti22 rfl rfl (ht rfl)) rfl ?_
    refine RG.op (ok_lenSl Tryz.underlying22 (ht rfl)) rfl ?_
    refine RG.op (ok_move hI) rfl ?_
    refine RG.nil ?_
    refine AT.next ?_
    refine CG.block ?_
    refine CG.have_len (k := 12) rfl (fun hN => ?_)
    refine CG.loop ?_
    refine LG.sub (LG.list1 (Z := fun ls i  => (c.Tables.drop i = ls) ∧ law17_overTables_l1 ls  = some R) (Of := fun _ i  => []) (Gf := fun _ i  => [(12, tD (rSl rpDTable) c.Tables), (13, tD (rI .i64) (c.Tables.length : Int)), (14, tD (rI .i64) (i : Int))]) (fun i  h => ?_) (fun e tl ih i  h => ?_) c.Tables 0  ⟨rfl, h⟩) ⟨rfl, rfl, rfl, trivial⟩
    · obtain ⟨hx, h⟩ := h
      refine LG.unfold ?_
      refine CG.seq ?_
      refine CG.region ?_
      refine RG.op (ok_lss (ht rfl) (ht rfl)) rfl ?_
      refine RG.nil ?_
      refine AT.next ?_
      refine CG.seq ?_
      refine CG.condF (ht rfl) (dropF hx) ?_
      refine CG.exit ?_
      refine AT.then_exit (AT.then_exit (AT.in_exit ?_))
      refine AT.next ?_
      refine CG.seq ?_
      refine CG.region ?_
      refine RG.op (ok_assign hB) rfl ?_
      refine RG.nil ?_
      refine AT.next ?_
      refine CG.ret ?_
      cases so h
      exact AT.ret1 rfl rfl
    · obtain ⟨hx, h⟩ := h
      refine LG.unfold ?_
      refine CG.seq ?_
      refine CG.region ?_
      refine RG.op (ok_lss (ht rfl) (ht rfl)) rfl ?_
      refine RG.nil ?_
      refine AT.next ?_
      refine CG.seq ?_
      refine CG.condT (ht rfl) (dropT hx) ?_
      refine CG.skip ?_
      refine AT.next ?_
      refine CG.seq ?_
      refine CG.block ?_
      refine CG.seq ?_
      refine CG.region ?_
      refine RG.op (ok_indexAddr Tryz.underlying22 ti53 rfl (ht rfl) (ht rfl) (dropI hx)) rfl ?_
      refine RG.op (ok_load ti53 rfl rfl (ht rfl)) rfl ?_
      refine RG.alloc (r := rpDTable) (x := (⟨[], [], []⟩ : DTable)) ti53 (fun _ => zrDTable _) rfl (fun b => ?_)
      refine RG.storeB ti53 rfl sfld_whole rfl (ht rfl) (ht rfl) ?_
      refine RG.settleB 4 rfl ?_
      refine RG.nil ?_
      refine AT.next ?_
      refine CG.seq ?_
      refine CG.seq ?_
      refine CG.region ?_
      refine RG.op (ok_fieldAddr fd53_0 rfl flDTable_0 rfl (ht rfl)) rfl ?_
      refine RG.op (ok_load ti9 rfl rfl (ht rfl)) rfl ?_
      refine RG.op (ok_lenS Tryz.underlying9 (ht rfl)) rfl ?_
      refine RG.op (ok_gtr (ht rfl) hI) rfl ?_
      refine RG.op (ok_move (ht rfl)) rfl ?_
      refine RG.opGf rfl rfl rfl rfl (fun hg => ok_fieldAddr fd53_1 rfl flDTable_1 rfl (ht rfl)) ?_
      refine RG.opGf rfl rfl rfl rfl (fun hg => ok_load ti51 rfl rfl (htO rfl hg)) ?_
      refine RG.opGf rfl rfl rfl rfl (fun hg => ok_lenSl Tryz.underlying51 (htO rfl hg)) ?_
      refine RG.opGf rfl rfl rfl rfl (fun hg => ok_gtr (htO rfl hg) hI) ?_
      refine RG.op (ok_pickOr (ht rfl) (fun hb => (htO rfl (noti hb)))) rfl ?_
      refine RG.op (ok_move (ht rfl)) rfl ?_
      refine RG.opGf rfl rfl rfl rfl (fun hg => ok_fieldAddr fd53_2 rfl flDTable_2 rfl (ht rfl)) ?_
      refine RG.opGf rfl rfl rfl rfl (fun hg => ok_load ti28 rfl rfl (htO rfl hg)) ?_
      refine RG.opGf rfl rfl rfl rfl (fun hg => ok_lenSl Tryz.underlying28 (htO rfl hg)) ?_
      refine RG.opGf rfl rfl rfl rfl (fun hg => ok_gtr (htO rfl hg) hI) ?_
      refine RG.op (ok_pickOr (ht rfl) (fun hb => (htO rfl (noti hb)))) rfl ?_
      refine RG.nil ?_
      refine AT.next ?_
      refine CG.cond (ht rfl) (fun hc => ?_) (fun hc => ?_)
      · have h := ct h hc
        refine CG.seq ?_
        refine CG.region ?_
        refine RG.op (ok_assign hB) rfl ?_
        refine RG.nil ?_
        refine AT.next ?_
        refine CG.ret ?_
        refine AT.then_ret (AT.in_ret (AT.then_ret (AT.then_ret (AT.in_ret (AT.then_ret ?_)))))
        cases so h
        exact AT.ret1 rfl rfl
      · have h := cf h hc
        refine CG.skip ?_
        refine AT.next ?_
        refine CG.seq ?_
        refine CG.region ?_
        refine RG.op (ok_fieldAddr fd53_1 rfl flDTable_1 rfl (ht rfl)) rfl ?_
        refine RG.op (ok_load ti51 rfl rfl (ht rfl)) rfl ?_
        refine RG.op (ok_lenSl Tryz.underlying51 (ht rfl)) rfl ?_
        refine RG.op (ok_move hI) rfl ?_
        refine RG.nil ?_
        refine AT.next ?_
        refine CG.block ?_
        refine CG.have_len (k := 35) rfl (fun hN1 => ?_)
        refine CG.loop ?_
        refine LG.sub (LG.list1 (Z := fun ls1 i1  => (e.Columns.drop i1 = ls1) ∧ law17_overTables_l2 (law17_overTables_l1 tl) ls1  = some R) (Of := fun _ i1  => []) (Gf := fun _ i1  => [(12, tD (rSl rpDTable) c.Tables), (13, tD (rI .i64) (c.Tables.length : Int)), (14, tD (rI .i64) (i : Int)), (35, tD (rSl rpDColumn) e.Columns), (36, tD (rI .i64) (e.Columns.length : Int)), (37, tD (rI .i64) (i1 : Int))]) (fun i1  h => ?_) (fun e1 tl1 ih1 i1  h => ?_) e.Columns 0  ⟨rfl, h⟩) ⟨rfl, rfl, rfl, rfl, rfl, rfl, trivial⟩
        · obtain ⟨hx1, h⟩ := h
          refine LG.unfold ?_
          refine CG.seq ?_
          refine CG.region ?_
          refine RG.op (ok_lss (ht rfl) (ht rfl)) rfl ?_
          refine RG.nil ?_
          refine AT.next ?_
          refine CG.seq ?_
          refine CG.condF (ht rfl) (dropF hx1) ?_
          refine CG.exit ?_
          refine AT.then_exit (AT.then_exit (AT.in_exit ?_))
          refine AT.in_normal ?_
          refine AT.next ?_
          refine CG.region ?_
          refine RG.op (ok_incN (dropL hx hN) (ht rfl) hI) rfl ?_
          refine RG.op (ok_move (ht rfl)) rfl ?_
          refine RG.nil ?_
          exact AT.round (LG.sub (ih (i + 1)  ⟨dropS hx, h⟩) ⟨rfl, rfl, rfl, trivial⟩)
        · obtain ⟨hx1, h⟩ := h
          refine LG.unfold ?_
          refine CG.seq ?_
          refine CG.region ?_
          refine RG.op (ok_lss (ht rfl) (ht rfl)) rfl ?_
          refine RG.nil ?_
          refine AT.next ?_
          refine CG.seq ?_
          refine CG.condT (ht rfl) (dropT hx1) ?_
          refine CG.skip ?_
          refine AT.next ?_
          refine CG.seq ?_
          refine CG.block ?_
          refine CG.seq ?_
          refine CG.region ?_
          refine RG.op (ok_indexAddr Tryz.underlying51 ti79 rfl (ht rfl) (ht rfl) (dropI hx1)) rfl ?_
          refine RG.op (ok_load ti79 rfl rfl (ht rfl)) rfl ?_
          refine RG.alloc (r := rpDColumn) (x := (⟨[], (0 : Int)⟩ : DColumn)) ti79 (fun _ => zrDColumn _) rfl (fun b1 => ?_)
          refine RG.storeB ti79 rfl sfld_whole rfl (ht rfl) (ht rfl) ?_
          refine RG.settleB 6 rfl ?_
          refine RG.nil ?_
          refine AT.next ?_
          refine CG.seq ?_
          refine CG.region ?_
          refine RG.op (ok_fieldAddr fd79_0 rfl flDColumn_0 rfl (ht rfl)) rfl ?_
          refine RG.op (ok_load ti9 rfl rfl (ht rfl)) rfl ?_
          refine RG.op (ok_lenS Tryz.underlying9 (ht rfl)) rfl ?_
          refine RG.op (ok_gtr (ht rfl) hI) rfl ?_
          refine RG.nil ?_
          refine AT.next ?_
          refine CG.cond (ht rfl) (fun hc => ?_) (fun hc => ?_)
          · have h := ct h hc
            refine CG.seq ?_
            refine CG.region ?_
            refine RG.op (ok_assign hB) rfl ?_
            refine RG.nil ?_
            refine AT.next ?_
            refine CG.ret ?_
            refine AT.in_ret (AT.then_ret (AT.then_ret (AT.in_ret (AT.in_ret (AT.then_ret (AT.then_ret (AT.in_ret (AT.then_ret ?_))))))))
            cases so h
            exact AT.ret1 rfl rfl
          · have h := cf h hc
            refine CG.skip ?_
            refine AT.in_normal ?_
            refine AT.next ?_
            refine CG.region ?_
            refine RG.op (ok_incN (dropL hx1 hN1) (ht rfl) hI) rfl ?_
            refine RG.op (ok_move (ht rfl)) rfl ?_
            refine RG.nil ?_
            exact AT.round (LG.sub (ih1 (i1 + 1)  ⟨dropS hx1, h⟩) ⟨rfl, rfl, rfl, rfl, rfl, rfl, trivial⟩)

end Go.Proofs.YtegigakgcnhiaaaGreatDoor

