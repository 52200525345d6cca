/- Facts of this claim: P2. -/
import Derived.Test.YtdhledkpgaeoaaaGreatDoorKfT
import Derived.Test.YtdhledkpgaeoaaaGreatDoorKfP1
namespace Go.Proofs.YtdhledkpgaeoaaaGreatDoor
open Go

set_option maxRecDepth 100000 in
theorem f118_ok (a1 : Int) (b : Int) {R : Int × Bool} (h : arith_Sub_1 a1 b = some R) : Spec Tryz.prog 118 [tD (rI .i64) a1, tD (rI .i64) b] (tT [tD (rI .i64) R.1, tD rB R.2]) := by
  refine Spec.of Tryz.func118 rfl rfl rfl fun w0 S0 => ?_
  refine CG.seq ?_
  refine CG.region ?_
  refine RG.op (ok_assign hI) rfl ?_
  refine RG.op (ok_assign hB) rfl ?_
  refine RG.nil ?_
  refine AT.next ?_
  refine CG.seq ?_
  refine CG.region ?_
  refine RG.op (ok_move (ht rfl)) rfl ?_
  refine RG.op (ok_move (ht rfl)) rfl ?_
  refine RG.op (ok_sub (ht rfl) (ht rfl)) rfl ?_
  refine RG.op (ok_assign (ht rfl)) rfl ?_
  refine RG.nil ?_
  refine AT.next ?_
  refine CG.seq ?_
  refine CG.region ?_
  refine RG.op (ok_move (ht rfl)) rfl ?_
  refine RG.op (ok_move (ht rfl)) rfl ?_
  refine RG.op (ok_move (ht rfl)) rfl ?_
  refine RG.op (ok_xor (ht rfl) (ht rfl)) rfl ?_
  refine RG.op (ok_move (ht rfl)) rfl ?_
  refine RG.op (ok_move (ht rfl)) rfl ?_
  refine RG.op (ok_xor (ht rfl) (ht rfl)) rfl ?_
  refine RG.op (ok_and (ht rfl) (ht rfl)) rfl ?_
  refine RG.op (ok_geq (ht rfl) hI) rfl ?_
  refine RG.op (ok_assign (ht rfl)) rfl ?_
  refine RG.op (ok_assign (ht rfl)) rfl ?_
  refine RG.nil ?_
  refine AT.next ?_
  refine CG.ret ?_
  cases so h
  exact AT.ret2 rfl rfl rfl

set_option maxRecDepth 100000 in
theorem f77_ok (a1 : DValue) (b : DValue) {R : DValue × Int} (h : arith_Sub a1 b = some R) : Spec Tryz.prog 77 [tD rpDValue a1, tD rpDValue b] (tT [tD rpDValue R.1, tD (rI .i64) R.2]) := by
  refine Spec.of Tryz.func77 rfl rfl rfl fun w0 S0 => ?_
  refine CG.seq ?_
  refine CG.region ?_
  refine RG.op (ok_box (ht rfl)) rfl ?_
  refine RG.op (ok_box (ht rfl)) rfl ?_
  refine RG.alloc (r := rpDValue) (x := (⟨(0 : Int), (0 : Int), (0 : Int), []⟩ : DValue)) ti33 (fun _ => zrDValue _) rfl (fun b1 => ?_)
  refine RG.op (ok_assign hI) rfl ?_
  refine RG.nil ?_
  refine AT.next ?_
  refine CG.seq ?_
  refine CG.region ?_
  refine RG.op (ok_load ti33 rfl rfl (ht rfl)) rfl ?_
  refine RG.op (ok_load ti33 rfl rfl (ht rfl)) rfl ?_
  obtain ⟨r, q_r, h⟩ := bs h
  refine RG.op (ok_call cb116 (f116_ok _ _ _ q_r) ⟨(ht rfl), (ht rfl), (hFn cb118 fun x y h => f118_ok _ _ h), trivial⟩) rfl ?_
  refine RG.op (ok_extract rfl (ht rfl)) rfl ?_
  refine RG.op (ok_extract rfl (ht rfl)) rfl ?_
  refine RG.storeB ti33 rfl sfld_whole rfl (ht rfl) (ht rfl) ?_
  refine RG.settleB 4 rfl ?_
  refine RG.op (ok_assign (ht rfl)) rfl ?_
  refine RG.nil ?_
  refine AT.next ?_
  refine CG.ret ?_
  cases so h
  exact AT.retL (rvs := [.cell 4 33, .tmp 5]) rfl rfl ⟨res_cell ti33 rfl rfl rfl, res_tmp rfl, trivial⟩

set_option maxRecDepth 100000 in
theorem f73_ok (a1 : DValue) {R : DValue × Int} (h : arith_Neg a1 = some R) : Spec Tryz.prog 73 [tD rpDValue a1] (tT [tD rpDValue R.1, tD (rI .i64) R.2]) := by
  refine Spec.of Tryz.func73 rfl rfl rfl fun w0 S0 => ?_
  refine CG.seq ?_
  refine CG.region ?_
  refine RG.op (ok_box (ht rfl)) rfl ?_
  refine RG.alloc (r := rpDValue) (x := (⟨(0 : Int), (0 : Int), (0 : Int), []⟩ : DValue)) ti33 (fun _ => zrDValue _) rfl (fun b => ?_)
  refine RG.op (ok_assign hI) rfl ?_
  refine RG.nil ?_
  refine AT.next ?_
  refine CG.seq ?_
  obtain ⟨r, q_r, h⟩ := bs h
  obtain ⟨r1, q_r1, h⟩ := bs h
  refine CG.drawM 5 (ts := [tD rpDValue r, tD rpDValue a1, tT [tD rpDValue r1.1, tD (rI .i64) r1.2], tD rpDValue r1.1, tD (rI .i64) r1.2]) mixed rfl rfl rfl
    ⟨⟨[], _, rfl, trivial, rfl, rfl, OpG.plain rfl (ok_call cb113 (f113_ok _ q_r) ⟨hI, trivial⟩)⟩,
    ⟨⟨[⟨1, _, none⟩], _, rfl, ⟨rfl, trivial⟩, rfl, rfl, OpG.plain rfl (ok_load ti33 rfl rfl (ht rfl))⟩,
    ⟨⟨[⟨4, _, some 0⟩, ⟨5, _, some 1⟩], _, rfl, ⟨rfl, rfl, trivial⟩, rfl, rfl, OpG.plain rfl (ok_call cb77 (f77_ok _ _ q_r1) ⟨(ht rfl), (ht rfl), trivial⟩)⟩,
    ⟨⟨[⟨6, _, some 2⟩], _, rfl, ⟨rfl, trivial⟩, rfl, rfl, OpG.plain rfl (ok_extract rfl (ht rfl))⟩,
    ⟨⟨[⟨6, _, some 2⟩], _, rfl, ⟨rfl, trivial⟩, rfl, rfl, OpG.plain rfl (ok_extract rfl (ht rfl))⟩,
    trivial⟩⟩⟩⟩⟩ ?_
  refine RG.storeB ti33 rfl sfld_whole rfl (ht rfl) (ht rfl) ?_
  refine RG.settleB 2 rfl ?_
  refine RG.op (ok_assign (ht rfl)) rfl ?_
  refine RG.nil ?_
  refine AT.next ?_
  refine CG.ret ?_
  cases so h
  exact AT.retL (rvs := [.cell 2 33, .tmp 3]) rfl rfl ⟨res_cell ti33 rfl rfl rfl, res_tmp rfl, trivial⟩

set_option maxRecDepth 100000 in
theorem f114_ok (l : (List Int)) {R : Int} (h : value_Not_1 l = some R) : Spec Tryz.prog 114 [tD (rSl (rI .i64)) l] (tD (rI .i64) R) := by
  refine Spec.of Tryz.func114 rfl rfl rfl fun w0 S0 => ?_
  refine CG.seq ?_
  refine CG.region ?_
  refine RG.op (ok_assign hI) rfl ?_
  refine RG.nil ?_
  refine AT.next ?_
  refine CG.seq ?_
  refine CG.region ?_
  refine RG.op (ok_move (ht rfl)) rfl ?_
  obtain ⟨e, q_e, h⟩ := bs h
  refine RG.op (ok_indexAddr Tryz.underlying40 ti3 rfl (ht rfl) hI q_e) rfl ?_
  refine RG.op (ok_load ti3 rfl rfl (ht rfl)) rfl ?_
  refine RG.op (ok_sub hI (ht rfl)) rfl ?_
  refine RG.op (ok_assign (ht rfl)) rfl ?_
  refine RG.nil ?_
  refine AT.next ?_
  refine CG.ret ?_
  cases so h
  exact AT.ret1 rfl rfl

set_option maxRecDepth 100000 in
theorem f74_ok (a1 : DValue) {R : DValue × Int} (h : value_Not a1 = some R) : Spec Tryz.prog 74 [tD rpDValue a1] (tT [tD rpDValue R.1, tD (rI .i64) R.2]) := by
  refine Spec.of Tryz.func74 rfl rfl rfl fun w0 S0 => ?_
  refine CG.seq ?_
  refine CG.region ?_
  refine RG.op (ok_box (ht rfl)) rfl ?_
  refine RG.alloc (r := rpDValue) (x := (⟨(0 : Int), (0 : Int), (0 : Int), []⟩ : DValue)) ti33 (fun _ => zrDValue _) rfl (fun b => ?_)
  refine RG.op (ok_assign hI) rfl ?_
  refine RG.nil ?_
  refine AT.next ?_
  refine CG.seq ?_
  refine CG.region ?_
  refine RG.op (ok_load ti33 rfl rfl (ht rfl)) rfl ?_
  refine RG.op (ok_buildSlice (r := rpDValue) (ys := [a1]) (xs := [.tmp 4]) Tryz.underlying28 ti33 rfl rfl rfl rfl rfl ⟨(ht rfl), trivial⟩) rfl ?_
  obtain ⟨r, q_r, h⟩ := bs h
  refine RG.op (ok_call cb63 (f63_ok _ _ q_r) ⟨(hFn cb114 fun x y h => f114_ok _ h), (ht rfl), trivial⟩) rfl ?_
  refine RG.op (ok_extract rfl (ht rfl)) rfl ?_
  refine RG.op (ok_extract rfl (ht rfl)) rfl ?_
  refine RG.storeB ti33 rfl sfld_whole rfl (ht rfl) (ht rfl) ?_
  refine RG.settleB 2 rfl ?_
  refine RG.op (ok_assign (ht rfl)) rfl ?_
  refine RG.nil ?_
  refine AT.next ?_
  refine CG.ret ?_
  cases so h
  exact AT.retL (rvs := [.cell 2 33, .tmp 3]) rfl rfl ⟨res_cell ti33 rfl rfl rfl, res_tmp rfl, trivial⟩

set_option maxRecDepth 100000 in
theorem f115_ok (is1 : Bool) (a1 : DValue) (x : DValue) {R : DValue × Int} (h : expr_null_1 is1 a1 x = some R) : Spec Tryz.prog 115 [tD rpDValue a1, tD rpDValue x, tPtr rB is1] (tT [tD rpDValue R.1, tD (rI .i64) R.2]) := by
  refine Spec.of Tryz.func115 rfl rfl rfl fun w0 S0 => ?_
  refine CG.seq ?_
  refine CG.region ?_
  refine RG.op (ok_box (ht rfl)) rfl ?_
  refine RG.op (ok_box (ht rfl)) rfl ?_
  refine RG.alloc (r := rpDValue) (x := (⟨(0 : Int), (0 : Int), (0 : Int), []⟩ : DValue)) ti33 (fun _ => zrDValue _) rfl (fun b => ?_)
  refine RG.op (ok_assign hI) rfl ?_
  refine RG.nil ?_
  refine AT.next ?_
  refine CG.seq ?_
  refine CG.region ?_
  refine RG.op (ok_fieldAddr fd33_0 rfl flDValue_0 rfl (ht rfl)) rfl ?_
  refine RG.op (ok_load ti3 rfl rfl (ht rfl)) rfl ?_
  refine RG.op (ok_eqlI (ht rfl) hI) rfl ?_
  refine RG.op (ok_load ti4 rfl rfl (ht rfl)) rfl ?_
  refine RG.op (ok_eqlB Tryz.underlying4 (ht rfl) (ht rfl)) rfl ?_
  obtain ⟨r, q_r, h⟩ := bs h
  refine RG.op (ok_call cb29 (f29_ok _ q_r) ⟨(ht rfl), trivial⟩) rfl ?_
  refine RG.storeB ti33 rfl sfld_whole rfl (ht rfl) (ht rfl) ?_
  refine RG.settleB 5 rfl ?_
  refine RG.op (ok_assign hI) rfl ?_
  refine RG.nil ?_
  refine AT.next ?_
  refine CG.ret ?_
  cases so h
  exact AT.retL (rvs := [.cell 5 33, .tmp 6]) rfl rfl ⟨res_cell ti33 rfl rfl rfl, res_tmp rfl, trivial⟩

set_option maxRecDepth 100000 in
theorem f75_ok (is1 : Bool) {R : (DValue → DValue → Option (DValue × Int))} (h : expr_null is1 = some R) : Spec Tryz.prog 75 [tD rB is1] ((tFun Tryz.prog (fun (x : DValue × DValue) => [tD rpDValue x.1, tD rpDValue x.2]) (fun (x : DValue × Int) => tT [tD rpDValue x.1, tD (rI .i64) x.2]) (fun (x : DValue × DValue) => R x.1 x.2))) := by
  refine Spec.of Tryz.func75 rfl rfl rfl fun w0 S0 => ?_
  refine CG.seq ?_
  refine CG.region ?_
  refine RG.op (ok_box (ht rfl)) rfl ?_
  refine RG.op (ok_assign hV) rfl ?_
  refine RG.nil ?_
  refine AT.next ?_
  refine CG.seq ?_
  refine CG.region ?_
  refine RG.op ((show OpOK _ _ _ _ ((tFun Tryz.prog (fun (x : DValue × DValue) => [tD rpDValue x.1, tD rpDValue x.2]) (fun (x : DValue × Int) => tT [tD rpDValue x.1, tD (rI .i64) x.2]) (fun (x : DValue × DValue) => (expr_null_1 is1) x.1 x.2))) from ok_makeFunc (cts := [tPtr rB is1]) (caps := [.tmp 1]) cb115 ⟨(ht rfl), trivial⟩ (fun x y h => f115_ok _ _ _ h))) rfl ?_
  refine RG.op (ok_assign (ht rfl)) rfl ?_
  refine RG.nil ?_
  refine AT.next ?_
  refine CG.ret ?_
  cases so h
  exact AT.ret1 rfl rfl

set_option maxRecDepth 100000 in
theorem f117_ok (a1 : Int) (b : Int) {R : Int × Bool} (h : arith_Add_1 a1 b = some R) : Spec Tryz.prog 117 [tD (rI .i64) a1, tD (rI .i64) b] (tT [tD (rI .i64) R.1, tD rB R.2]) := by
  refine Spec.of Tryz.func117 rfl rfl rfl fun w0 S0 => ?_
  refine CG.seq ?_
  refine CG.region ?_
  refine RG.op (ok_assign hI) rfl ?_
  refine RG.op (ok_assign hB) rfl ?_
  refine RG.nil ?_
  refine AT.next ?_
  refine CG.seq ?_
  refine CG.region ?_
  refine RG.op (ok_move (ht rfl)) rfl ?_
  refine RG.op (ok_move (ht rfl)) rfl ?_
  refine RG.op (ok_add (ht rfl) (ht rfl)) rfl ?_
  refine RG.op (ok_assign (ht rfl)) rfl ?_
  refine RG.nil ?_
  refine AT.next ?_
  refine CG.seq ?_
  refine CG.region ?_
  refine RG.op (ok_move (ht rfl)) rfl ?_
  refine RG.op (ok_move (ht rfl)) rfl ?_
  refine RG.op (ok_move (ht rfl)) rfl ?_
  refine RG.op (ok_xor (ht rfl) (ht rfl)) rfl ?_
  refine RG.op (ok_move (ht rfl)) rfl ?_
  refine RG.op (ok_move (ht rfl)) rfl ?_
  refine RG.op (ok_xor (ht rfl) (ht rfl)) rfl ?_
  refine RG.op (ok_and (ht rfl) (ht rfl)) rfl ?_
  refine RG.op (ok_geq (ht rfl) hI) rfl ?_
  refine RG.op (ok_assign (ht rfl)) rfl ?_
  refine RG.op (ok_assign (ht rfl)) rfl ?_
  refine RG.nil ?_
  refine AT.next ?_
  refine CG.ret ?_
  cases so h
  exact AT.ret2 rfl rfl rfl

set_option maxRecDepth 100000 in
theorem f76_ok (a1 : DValue) (b : DValue) {R : DValue × Int} (h : arith_Add a1 b = some R) : Spec Tryz.prog 76 [tD rpDValue a1, tD rpDValue b] (tT [tD rpDValue R.1, tD (rI .i64) R.2]) := by
  refine Spec.of Tryz.func76 rfl rfl rfl fun w0 S0 => ?_
  refine CG.seq ?_
  refine CG.region ?_
  refine RG.op (ok_box (ht rfl)) rfl ?_
  refine RG.op (ok_box (ht rfl)) rfl ?_
  refine RG.alloc (r := rpDValue) (x := (⟨(0 : Int), (0 : Int), (0 : Int), []⟩ : DValue)) ti33 (fun _ => zrDValue _) rfl (fun b1 => ?_)
  refine RG.op (ok_assign hI) rfl ?_
  refine RG.nil ?_
  refine AT.next ?_
  refine CG.seq ?_
  refine CG.region ?_
  refine RG.op (ok_load ti33 rfl rfl (ht rfl)) rfl ?_
  refine RG.op (ok_load ti33 rfl rfl (ht rfl)) rfl ?_
  obtain ⟨r, q_r, h⟩ := bs h
  refine RG.op (ok_call cb116 (f116_ok _ _ _ q_r) ⟨(ht rfl), (ht rfl), (hFn cb117 fun x y h => f117_ok _ _ h), trivial⟩) rfl ?_
  refine RG.op (ok_extract rfl (ht rfl)) rfl ?_
  refine RG.op (ok_extract rfl (ht rfl)) rfl ?_
  refine RG.storeB ti33 rfl sfld_whole rfl (ht rfl) (ht rfl) ?_
  refine RG.settleB 4 rfl ?_
  refine RG.op (ok_assign (ht rfl)) rfl ?_
  refine RG.nil ?_
  refine AT.next ?_
  refine CG.ret ?_
  cases so h
  exact AT.retL (rvs := [.cell 4 33, .tmp 5]) rfl rfl ⟨res_cell ti33 rfl rfl rfl, res_tmp rfl, trivial⟩

set_option maxRecDepth 100000 in
theorem f120_ok (p : Int) (y : Int) {R : Int × Int} (h : math_bits_Mul64 p y = some R) : Spec Tryz.prog 120 [tD (rI .u64) p, tD (rI .u64) y] (tT [tD (rI .u64) R.1, tD (rI .u64) R.2]) := by
  refine Spec.of Tryz.func120 rfl rfl rfl fun w0 S0 => ?_
  refine CG.seq ?_
  refine CG.region ?_
  refine RG.op (ok_assign hI) rfl ?_
  refine RG.op (ok_assign hI) rfl ?_
  refine RG.nil ?_
  refine AT.next ?_
  refine CG.seq ?_
  refine CG.region ?_
  refine RG.op (ok_move (ht rfl)) rfl ?_
  refine RG.op (ok_and (ht rfl) hI) rfl ?_
  refine RG.op (ok_assign (ht rfl)) rfl ?_
  refine RG.nil ?_
  refine AT.next ?_
  refine CG.seq ?_
  refine CG.region ?_
  refine RG.op (ok_move (ht rfl)) rfl ?_
  refine RG.op (ok_shr (ht rfl) hI (by decide)) rfl ?_
  refine RG.op (ok_assign (ht rfl)) rfl ?_
  refine RG.nil ?_
  refine AT.next ?_
  refine CG.seq ?_
  refine CG.region ?_
  refine RG.op (ok_move (ht rfl)) rfl ?_
  refine RG.op (ok_and (ht rfl) hI) rfl ?_
  refine RG.op (ok_assign (ht rfl)) rfl ?_
  refine RG.nil ?_
  refine AT.next ?_
  refine CG.seq ?_
  refine CG.region ?_
  refine RG.op (ok_move (ht rfl)) rfl ?_
  refine RG.op (ok_shr (ht rfl) hI (by decide)) rfl ?_
  refine RG.op (ok_assign (ht rfl)) rfl ?_
  refine RG.nil ?_
  refine AT.next ?_
  refine CG.seq ?_
  refine CG.region ?_
  refine RG.op (ok_move (ht rfl)) rfl ?_
  refine RG.op (ok_move (ht rfl)) rfl ?_
  refine RG.op (ok_mul (ht rfl) (ht rfl)) rfl ?_
  refine RG.op (ok_assign (ht rfl)) rfl ?_
  refine RG.nil ?_
  refine AT.next ?_
  refine CG.seq ?_
  refine CG.region ?_
  refine RG.op (ok_move (ht rfl)) rfl ?_
  refine RG.op (ok_move (ht rfl)) rfl ?_
  refine RG.op (ok_mul (ht rfl) (ht rfl)) rfl ?_
  refine RG.op (ok_move (ht rfl)) rfl ?_
  refine RG.op (ok_shr (ht rfl) hI (by decide)) rfl ?_
  refine RG.op (ok_add (ht rfl) (ht rfl)) rfl ?_
  refine RG.op (ok_assign (ht rfl)) rfl ?_
  refine RG.nil ?_
  refine AT.next ?_
  refine CG.seq ?_
  refine CG.region ?_
  refine RG.op (ok_move (ht rfl)) rfl ?_
  refine RG.op (ok_and (ht rfl) hI) rfl ?_
  refine RG.op (ok_assign (ht rfl)) rfl ?_
  refine RG.nil ?_
  refine AT.next ?_
  refine CG.seq ?_
  refine CG.region ?_
  refine RG.op (ok_move (ht rfl)) rfl ?_
  refine RG.op (ok_shr (ht rfl) hI (by decide)) rfl ?_
  refine RG.op (ok_assign (ht rfl)) rfl ?_
  refine RG.nil ?_
  refine AT.next ?_
  refine CG.seq ?_
  refine CG.region ?_
  refine RG.op (ok_move (ht rfl)) rfl ?_
  refine RG.op (ok_move (ht rfl)) rfl ?_
  refine RG.op (ok_move (ht rfl)) rfl ?_
  refine RG.op (ok_mul (ht rfl) (ht rfl)) rfl ?_
  refine RG.op (ok_add (ht rfl) (ht rfl)) rfl ?_
  refine RG.op (ok_assign (ht rfl)) rfl ?_
  refine RG.nil ?_
  refine AT.next ?_
  refine CG.seq ?_
  refine CG.region ?_
  refine RG.op (ok_move (ht rfl)) rfl ?_
  refine RG.op (ok_move (ht rfl)) rfl ?_
  refine RG.op (ok_mul (ht rfl) (ht rfl)) rfl ?_
  refine RG.op (ok_move (ht rfl)) rfl ?_
  refine RG.op (ok_add (ht rfl) (ht rfl)) rfl ?_
  refine RG.op (ok_move (ht rfl)) rfl ?_
  refine RG.op (ok_shr (ht rfl) hI (by decide)) rfl ?_
  refine RG.op (ok_add (ht rfl) (ht rfl)) rfl ?_
  refine RG.op (ok_assign (ht rfl)) rfl ?_
  refine RG.nil ?_
  refine AT.next ?_
  refine CG.seq ?_
  refine CG.region ?_
  refine RG.op (ok_move (ht rfl)) rfl ?_
  refine RG.op (ok_move (ht rfl)) rfl ?_
  refine RG.op (ok_mul (ht rfl) (ht rfl)) rfl ?_
  refine RG.op (ok_assign (ht rfl)) rfl ?_
  refine RG.nil ?_
  refine AT.next ?_
  refine CG.ret ?_
  cases so h
  exact AT.ret2 rfl rfl rfl

set_option maxRecDepth 100000 in
theorem f121_ok (n : Int) {R : Int} (h : arith_size n = some R) : Spec Tryz.prog 121 [tD (rI .i64) n] (tD (rI .u64) R) := by
  refine Spec.of Tryz.func121 rfl rfl rfl fun w0 S0 => ?_
  refine CG.seq ?_
  refine CG.region ?_
  refine RG.op (ok_assign hI) rfl ?_
  refine RG.nil ?_
  refine AT.next ?_
  refine CG.seq ?_
  refine CG.seq ?_
  refine CG.region ?_
  refine RG.op (ok_move (ht rfl)) rfl ?_
  refine RG.op (ok_lss (ht rfl) hI) rfl ?_
  refine RG.nil ?_
  refine AT.next ?_
  refine CG.cond (ht rfl) (fun hc => ?_) (fun hc => ?_)
  · have h := ct h hc
    refine CG.seq ?_
    refine CG.region ?_
    refine RG.op (ok_move (ht rfl)) rfl ?_
    refine RG.op (ok_conv Tryz.underlying2 Tryz.underlying31 (ht rfl)) rfl ?_
    refine RG.op (ok_neg (ht rfl)) rfl ?_
    refine RG.op (ok_assign (ht rfl)) rfl ?_
    refine RG.nil ?_
    refine AT.next ?_
    refine CG.ret ?_
    refine AT.then_ret ?_
    cases so h
    exact AT.ret1 rfl rfl
  · have h := cf h hc
    refine CG.skip ?_
    refine AT.next ?_
    refine CG.seq ?_
    refine CG.region ?_
    refine RG.op (ok_move (ht rfl)) rfl ?_
    refine RG.op (ok_conv Tryz.underlying2 Tryz.underlying31 (ht rfl)) rfl ?_
    refine RG.op (ok_assign (ht rfl)) rfl ?_
    refine RG.nil ?_
    refine AT.next ?_
    refine CG.ret ?_
    cases so h
    exact AT.ret1 rfl rfl

set_option maxRecDepth 100000 in
theorem f122_ok (u : Int) (below : Bool) {R : Int × Bool} (h : arith_signed u below = some R) : Spec Tryz.prog 122 [tD (rI .u64) u, tD rB below] (tT [tD (rI .i64) R.1, tD rB R.2]) := by
  refine Spec.of Tryz.func122 rfl rfl rfl fun w0 S0 => ?_
  refine CG.seq ?_
  refine CG.region ?_
  refine RG.op (ok_assign hI) rfl ?_
  refine RG.op (ok_assign hB) rfl ?_
  refine RG.nil ?_
  refine AT.next ?_
  refine CG.seq ?_
  refine CG.seq ?_
  refine CG.region ?_
  refine RG.op (ok_move (ht rfl)) rfl ?_
  refine RG.nil ?_
  refine AT.next ?_
  refine CG.cond (ht rfl) (fun hc => ?_) (fun hc => ?_)
  · have h := ct h hc
    refine CG.seq ?_
    refine CG.region ?_
    refine RG.op (ok_move (ht rfl)) rfl ?_
    refine RG.op (ok_neg (ht rfl)) rfl ?_
    refine RG.op (ok_conv Tryz.underlying31 Tryz.underlying2 (ht rfl)) rfl ?_
    refine RG.op (ok_move (ht rfl)) rfl ?_
    refine RG.op (ok_leq (ht rfl) hI) rfl ?_
    refine RG.op (ok_assign (ht rfl)) rfl ?_
    refine RG.op (ok_assign (ht rfl)) rfl ?_
    refine RG.nil ?_
    refine AT.next ?_
    refine CG.ret ?_
    refine AT.then_ret ?_
    cases so h
    exact AT.ret2 rfl rfl rfl
  · have h := cf h hc
    refine CG.skip ?_
    refine AT.next ?_
    refine CG.seq ?_
    refine CG.region ?_
    refine RG.op (ok_move (ht rfl)) rfl ?_
    refine RG.op (ok_conv Tryz.underlying31 Tryz.underlying2 (ht rfl)) rfl ?_
    refine RG.op (ok_move (ht rfl)) rfl ?_
    refine RG.op (ok_leq (ht rfl) hI) rfl ?_
    refine RG.op (ok_assign (ht rfl)) rfl ?_
    refine RG.op (ok_assign (ht rfl)) rfl ?_
    refine RG.nil ?_
    refine AT.next ?_
    refine CG.ret ?_
    cases so h
    exact AT.ret2 rfl rfl rfl

set_option maxRecDepth 100000 in
theorem f119_ok (a1 : Int) (b : Int) {R : Int × Bool} (h : arith_Mul_1 a1 b = some R) : Spec Tryz.prog 119 [tD (rI .i64) a1, tD (rI .i64) b] (tT [tD (rI .i64) R.1, tD rB R.2]) := by
  refine Spec.of Tryz.func119 rfl rfl rfl fun w0 S0 => ?_
  refine CG.seq ?_
  refine CG.region ?_
  refine RG.op (ok_assign hI) rfl ?_
  refine RG.op (ok_assign hB) rfl ?_
  refine RG.nil ?_
  refine AT.next ?_
  refine CG.seq ?_
  refine CG.region ?_
  refine RG.op (ok_move (ht rfl)) rfl ?_
  obtain ⟨r, q_r, h⟩ := bs h
  refine RG.op (ok_call cb121 (f121_ok _ q_r) ⟨(ht rfl), trivial⟩) rfl ?_
  refine RG.op (ok_move (ht rfl)) rfl ?_
  obtain ⟨r1, q_r1, h⟩ := bs h
  refine RG.op (ok_call cb121 (f121_ok _ q_r1) ⟨(ht rfl), trivial⟩) rfl ?_
  obtain ⟨r2, q_r2, h⟩ := bs h
  refine RG.op (ok_call cb120 (f120_ok _ _ q_r2) ⟨(ht rfl), (ht rfl), trivial⟩) rfl ?_
  refine RG.op (ok_move (ht rfl)) rfl ?_
  refine RG.op (ok_extract rfl (ht rfl)) rfl ?_
  refine RG.op (ok_extract rfl (ht rfl)) rfl ?_
  refine RG.op (ok_assign (ht rfl)) rfl ?_
  refine RG.op (ok_assign (ht rfl)) rfl ?_
  refine RG.nil ?_
  refine AT.next ?_
  refine CG.seq ?_
  refine CG.region ?_
  refine RG.op (ok_move (ht rfl)) rfl ?_
  refine RG.op (ok_move (ht rfl)) rfl ?_
  refine RG.op (ok_lss (ht rfl) hI) rfl ?_
  refine RG.op (ok_move (ht rfl)) rfl ?_
  refine RG.op (ok_lss (ht rfl) hI) rfl ?_
  refine RG.op (ok_neqB Tryz.underlying4 (ht rfl) (ht rfl)) rfl ?_
  obtain ⟨r3, q_r3, h⟩ := bs h
  refine RG.op (ok_call cb122 (f122_ok _ _ q_r3) ⟨(ht rfl), (ht rfl), trivial⟩) rfl ?_
  refine RG.op (ok_move (ht rfl)) rfl ?_
  refine RG.op (ok_extract rfl (ht rfl)) rfl ?_
  refine RG.op (ok_extract rfl (ht rfl)) rfl ?_
  refine RG.op (ok_assign (ht rfl)) rfl ?_
  refine RG.op (ok_assign (ht rfl)) rfl ?_
  refine RG.nil ?_
  refine AT.next ?_
  refine CG.seq ?_
  refine CG.region ?_
  refine RG.op (ok_move (ht rfl)) rfl ?_
  refine RG.op (ok_move (ht rfl)) rfl ?_
  refine RG.op (ok_move (ht rfl)) rfl ?_
  refine RG.opGt rfl rfl rfl rfl (fun hg => ok_move (ht rfl)) ?_
  refine RG.opGt rfl rfl rfl rfl (fun hg => ok_eqlI (htO rfl hg) hI) ?_
  refine RG.op (ok_pickAnd (ht rfl) (fun hb => (htO rfl hb))) rfl ?_
  refine RG.op (ok_assign (ht rfl)) rfl ?_
  refine RG.op (ok_assign (ht rfl)) rfl ?_
  refine RG.nil ?_
  refine AT.next ?_
  refine CG.ret ?_
  cases so h
  exact AT.ret2 rfl rfl rfl

set_option maxRecDepth 100000 in
theorem f78_ok (a1 : DValue) (b : DValue) {R : DValue × Int} (h : arith_Mul a1 b = some R) : Spec Tryz.prog 78 [tD rpDValue a1, tD rpDValue b] (tT [tD rpDValue R.1, tD (rI .i64) R.2]) := by
  refine Spec.of Tryz.func78 rfl rfl rfl fun w0 S0 => ?_
  refine CG.seq ?_
  refine CG.region ?_
  refine RG.op (ok_box (ht rfl)) rfl ?_
  refine RG.op (ok_box (ht rfl)) rfl ?_
  refine RG.alloc (r := rpDValue) (x := (⟨(0 : Int), (0 : Int), (0 : Int), []⟩ : DValue)) ti33 (fun _ => zrDValue _) rfl (fun b1 => ?_)
  refine RG.op (ok_assign hI) rfl ?_
  refine RG.nil ?_
  refine AT.next ?_
  refine CG.seq ?_
  refine CG.region ?_
  refine RG.op (ok_load ti33 rfl rfl (ht rfl)) rfl ?_
  refine RG.op (ok_load ti33 rfl rfl (ht rfl)) rfl ?_
  obtain ⟨r, q_r, h⟩ := bs h
  refine RG.op (ok_call cb116 (f116_ok _ _ _ q_r) ⟨(ht rfl), (ht rfl), (hFn cb119 fun x y h => f119_ok _ _ h), trivial⟩) rfl ?_
  refine RG.op (ok_extract rfl (ht rfl)) rfl ?_
  refine RG.op (ok_extract rfl (ht rfl)) rfl ?_
  refine RG.storeB ti33 rfl sfld_whole rfl (ht rfl) (ht rfl) ?_
  refine RG.settleB 4 rfl ?_
  refine RG.op (ok_assign (ht rfl)) rfl ?_
  refine RG.nil ?_
  refine AT.next ?_
  refine CG.ret ?_
  cases so h
  exact AT.retL (rvs := [.cell 4 33, .tmp 5]) rfl rfl ⟨res_cell ti33 rfl rfl rfl, res_tmp rfl, trivial⟩

set_option maxRecDepth 100000 in
theorem f123_ok (a1 : Int) (b : Int) {R : Int × Bool} (h : arith_Div_1 a1 b = some R) : Spec Tryz.prog 123 [tD (rI .i64) a1, tD (rI .i64) b] (tT [tD (rI .i64) R.1, tD rB R.2]) := by
  refine Spec.of Tryz.func123 rfl rfl rfl fun w0 S0 => ?_
  refine CG.seq ?_
  refine CG.region ?_
  refine RG.op (ok_assign hI) rfl ?_
  refine RG.op (ok_assign hB) rfl ?_
  refine RG.nil ?_
  refine AT.next ?_
  refine CG.seq ?_
  refine CG.seq ?_
  refine CG.region ?_
  refine RG.op (ok_move (ht rfl)) rfl ?_
  refine RG.op (ok_eqlI (ht rfl) hI) rfl ?_
  refine RG.nil ?_
  refine AT.next ?_
  refine CG.cond (ht rfl) (fun hc => ?_) (fun hc => ?_)
  · have h := ct h hc
    refine CG.seq ?_
    refine CG.region ?_
    refine RG.op (ok_assign hI) rfl ?_
    refine RG.op (ok_assign hB) rfl ?_
    refine RG.nil ?_
    refine AT.next ?_
    refine CG.ret ?_
    refine AT.then_ret ?_
    cases so h
    exact AT.ret2 rfl rfl rfl
  · have h := cf h hc
    refine CG.skip ?_
    refine AT.next ?_
    refine CG.seq ?_
    refine CG.region ?_
    refine RG.op (ok_move (ht rfl)) rfl ?_
    obtain ⟨r, q_r, h⟩ := bs h
    refine RG.op (ok_call cb121 (f121_ok _ q_r) ⟨(ht rfl), trivial⟩) rfl ?_
    refine RG.op (ok_move (ht rfl)) rfl ?_
    obtain ⟨r1, q_r1, h⟩ := bs h
    refine RG.op (ok_call cb121 (f121_ok _ q_r1) ⟨(ht rfl), trivial⟩) rfl ?_
    obtain ⟨u, q_u, h⟩ := bs h
    refine RG.op (ok_quo (ht rfl) (ht rfl) (nz_some q_u)) rfl ?_
    refine RG.op (ok_move (ht rfl)) rfl ?_
    refine RG.op (ok_lss (ht rfl) hI) rfl ?_
    refine RG.op (ok_move (ht rfl)) rfl ?_
    refine RG.op (ok_lss (ht rfl) hI) rfl ?_
    refine RG.op (ok_neqB Tryz.underlying4 (ht rfl) (ht rfl)) rfl ?_
    obtain ⟨r2, q_r2, h⟩ := bs h
    refine RG.op (ok_call cb122 (f122_ok _ _ q_r2) ⟨(ht rfl), (ht rfl), trivial⟩) rfl ?_
    refine RG.op (ok_extract rfl (ht rfl)) rfl ?_
    refine RG.op (ok_extract rfl (ht rfl)) rfl ?_
    refine RG.op (ok_assign (ht rfl)) rfl ?_
    refine RG.op (ok_assign (ht rfl)) rfl ?_
    refine RG.nil ?_
    refine AT.next ?_
    refine CG.ret ?_
    cases so h
    exact AT.ret2 rfl rfl rfl

set_option maxRecDepth 100000 in
theorem f79_ok (a1 : DValue) (b : DValue) {R : DValue × Int} (h : arith_Div a1 b = some R) : Spec Tryz.prog 79 [tD rpDValue a1, tD rpDValue b] (tT [tD rpDValue R.1, tD (rI .i64) R.2]) := by
  refine Spec.of Tryz.func79 rfl rfl rfl fun w0 S0 => ?_
  refine CG.seq ?_
  refine CG.region ?_
  refine RG.op (ok_box (ht rfl)) rfl ?_
  refine RG.op (ok_box (ht rfl)) rfl ?_
  refine RG.alloc (r := rpDValue) (x := (⟨(0 : Int), (0 : Int), (0 : Int), []⟩ : DValue)) ti33 (fun _ => zrDValue _) rfl (fun b1 => ?_)
  refine RG.op (ok_assign hI) rfl ?_
  refine RG.nil ?_
  refine AT.next ?_
  refine CG.seq ?_
  refine CG.region ?_
  refine RG.op (ok_load ti33 rfl rfl (ht rfl)) rfl ?_
  refine RG.op (ok_load ti33 rfl rfl (ht rfl)) rfl ?_
  obtain ⟨r, q_r, h⟩ := bs h
  refine RG.op (ok_call cb116 (f116_ok _ _ _ q_r) ⟨(ht rfl), (ht rfl), (hFn cb123 fun x y h => f123_ok _ _ h), trivial⟩) rfl ?_
  refine RG.op (ok_extract rfl (ht rfl)) rfl ?_
  refine RG.op (ok_extract rfl (ht rfl)) rfl ?_
  refine RG.storeB ti33 rfl sfld_whole rfl (ht rfl) (ht rfl) ?_
  refine RG.settleB 4 rfl ?_
  refine RG.op (ok_assign (ht rfl)) rfl ?_
  refine RG.nil ?_
  refine AT.next ?_
  refine CG.ret ?_
  cases so h
  exact AT.retL (rvs := [.cell 4 33, .tmp 5]) rfl rfl ⟨res_cell ti33 rfl rfl rfl, res_tmp rfl, trivial⟩

set_option maxRecDepth 100000 in
theorem f124_ok (c : Int) {R : Bool} (h : value_Equal_1 c = some R) : Spec Tryz.prog 124 [tD (rI .i64) c] (tD rB R) := by
  refine Spec.of Tryz.func124 rfl rfl rfl fun w0 S0 => ?_
  refine CG.seq ?_
  refine CG.region ?_
  refine RG.op (ok_assign hB) rfl ?_
  refine RG.nil ?_
  refine AT.next ?_
  refine CG.seq ?_
  refine CG.region ?_
  refine RG.op (ok_move (ht rfl)) rfl ?_
  refine RG.op (ok_eqlI (ht rfl) hI) rfl ?_
  refine RG.op (ok_assign (ht rfl)) rfl ?_
  refine RG.nil ?_
  refine AT.next ?_
  refine CG.ret ?_
  cases so h
  exact AT.ret1 rfl rfl

set_option maxRecDepth 100000 in
theorem f80_ok (a1 : DValue) (b : DValue) {R : DValue × Int} (h : value_Equal a1 b = some R) : Spec Tryz.prog 80 [tD rpDValue a1, tD rpDValue b] (tT [tD rpDValue R.1, tD (rI .i64) R.2]) := by
  refine Spec.of Tryz.func80 rfl rfl rfl fun w0 S0 => ?_
  refine CG.seq ?_
  refine CG.region ?_
  refine RG.op (ok_box (ht rfl)) rfl ?_
  refine RG.op (ok_box (ht rfl)) rfl ?_
  refine RG.alloc (r := rpDValue) (x := (⟨(0 : Int), (0 : Int), (0 : Int), []⟩ : DValue)) ti33 (fun _ => zrDValue _) rfl (fun b1 => ?_)
  refine RG.op (ok_assign hI) rfl ?_
  refine RG.nil ?_
  refine AT.next ?_
  refine CG.seq ?_
  refine CG.region ?_
  refine RG.op (ok_load ti33 rfl rfl (ht rfl)) rfl ?_
  refine RG.op (ok_load ti33 rfl rfl (ht rfl)) rfl ?_
  obtain ⟨r, q_r, h⟩ := bs h
  refine RG.op (ok_call cb110 (f110_ok _ _ _ q_r) ⟨(ht rfl), (ht rfl), (hFn cb124 fun x y h => f124_ok _ h), trivial⟩) rfl ?_
  refine RG.op (ok_extract rfl (ht rfl)) rfl ?_
  refine RG.op (ok_extract rfl (ht rfl)) rfl ?_
  refine RG.storeB ti33 rfl sfld_whole rfl (ht rfl) (ht rfl) ?_
  refine RG.settleB 4 rfl ?_
  refine RG.op (ok_assign (ht rfl)) rfl ?_
  refine RG.nil ?_
  refine AT.next ?_
  refine CG.ret ?_
  cases so h
  exact AT.retL (rvs := [.cell 4 33, .tmp 5]) rfl rfl ⟨res_cell ti33 rfl rfl rfl, res_tmp rfl, trivial⟩

set_option maxRecDepth 100000 in
theorem f125_ok (do1 : (DValue → DValue → Option (DValue × Int))) (a1 : DValue) (b : DValue) {R : DValue × Int} (h : expr_not_1 do1 a1 b = some R) : Spec Tryz.prog 125 [tD rpDValue a1, tD rpDValue b, tPtr (rT ((tFun Tryz.prog (fun (x : DValue × DValue) => [tD rpDValue x.1, tD rpDValue x.2]) (fun (x : DValue × Int) => tT [tD rpDValue x.1, tD (rI .i64) x.2]) (fun (x : DValue × DValue) => do1 x.1 x.2)))) ()] (tT [tD rpDValue R.1, tD (rI .i64) R.2]) := by
  refine Spec.of Tryz.func125 rfl rfl rfl fun w0 S0 => ?_
  refine CG.seq ?_
  refine CG.region ?_
  refine RG.op (ok_box (ht rfl)) rfl ?_
  refine RG.op (ok_box (ht rfl)) rfl ?_
  refine RG.alloc (r := rpDValue) (x := (⟨(0 : Int), (0 : Int), (0 : Int), []⟩ : DValue)) ti33 (fun _ => zrDValue _) rfl (fun b1 => ?_)
  refine RG.op (ok_assign hI) rfl ?_
  refine RG.nil ?_
  refine AT.next ?_
  refine CG.seq ?_
  refine CG.region ?_
  refine RG.op (ok_loadF ti78 (ht rfl)) rfl ?_
  refine RG.op (ok_load ti33 rfl rfl (ht rfl)) rfl ?_
  refine RG.op (ok_load ti33 rfl rfl (ht rfl)) rfl ?_
  obtain ⟨r, q_r, h⟩ := bs h
  refine RG.op (ok_callV (args := (fun (x : DValue × DValue) => [tD rpDValue x.1, tD rpDValue x.2])) (res := (fun (x : DValue × Int) => tT [tD rpDValue x.1, tD (rI .i64) x.2])) (f := (fun (x : DValue × DValue) => do1 x.1 x.2)) (x := ((a1, b) : DValue × DValue)) (ht rfl) q_r ⟨(ht rfl), (ht rfl), trivial⟩) rfl ?_
  refine RG.op (ok_move (ht rfl)) rfl ?_
  refine RG.op (ok_extract rfl (ht rfl)) rfl ?_
  refine RG.op (ok_extract rfl (ht rfl)) rfl ?_
  refine RG.alloc (r := rpDValue) (x := (⟨(0 : Int), (0 : Int), (0 : Int), []⟩ : DValue)) ti33 (fun _ => zrDValue _) rfl (fun b2 => ?_)
  refine RG.storeB ti33 rfl sfld_whole rfl (ht rfl) (ht rfl) ?_
  refine RG.settleB 7 rfl ?_
  refine RG.op (ok_assign (ht rfl)) rfl ?_
  refine RG.nil ?_
  refine AT.next ?_
  refine CG.seq ?_
  refine CG.seq ?_
  refine CG.region ?_
  refine RG.op (ok_move (ht rfl)) rfl ?_
  refine RG.op (ok_neqI (ht rfl) hI) rfl ?_
  refine RG.nil ?_
  refine AT.next ?_
  refine CG.cond (ht rfl) (fun hc => ?_) (fun hc => ?_)
  · have h := ct h hc
    refine CG.seq ?_
    refine CG.region ?_
    refine RG.op (ok_load ti33 rfl rfl (ht rfl)) rfl ?_
    refine RG.op (ok_move (ht rfl)) rfl ?_
    refine RG.storeB ti33 rfl sfld_whole rfl (ht rfl) (ht rfl) ?_
    refine RG.op (ok_assign (ht rfl)) rfl ?_
    refine RG.nil ?_
    refine AT.next ?_
    refine CG.ret ?_
    refine AT.then_ret ?_
    refine AT.settleB 5 rfl ?_
    cases so h
    exact AT.retL (rvs := [.cell 5 33, .tmp 6]) rfl rfl ⟨res_cell ti33 rfl rfl rfl, res_tmp rfl, trivial⟩
  · have h := cf h hc
    refine CG.skip ?_
    refine AT.next ?_
    refine CG.seq ?_
    refine CG.region ?_
    refine RG.op (ok_load ti33 rfl rfl (ht rfl)) rfl ?_
    obtain ⟨r1, q_r1, h⟩ := bs h
    refine RG.op (ok_call cb74 (f74_ok _ q_r1) ⟨(ht rfl), trivial⟩) rfl ?_
    refine RG.op (ok_extract rfl (ht rfl)) rfl ?_
    refine RG.op (ok_extract rfl (ht rfl)) rfl ?_
    refine RG.storeB ti33 rfl sfld_whole rfl (ht rfl) (ht rfl) ?_
    refine RG.op (ok_assign (ht rfl)) rfl ?_
    refine RG.nil ?_
    refine AT.next ?_
    refine CG.ret ?_
    refine AT.settleB 5 rfl ?_
    cases so h
    exact AT.retL (rvs := [.cell 5 33, .tmp 6]) rfl rfl ⟨res_cell ti33 rfl rfl rfl, res_tmp rfl, trivial⟩

set_option maxRecDepth 100000 in
theorem f81_ok (do1 : (DValue → DValue → Option (DValue × Int))) {R : (DValue → DValue → Option (DValue × Int))} (h : expr_not do1 = some R) : Spec Tryz.prog 81 [(tFun Tryz.prog (fun (x : DValue × DValue) => [tD rpDValue x.1, tD rpDValue x.2]) (fun (x : DValue × Int) => tT [tD rpDValue x.1, tD (rI .i64) x.2]) (fun (x : DValue × DValue) => do1 x.1 x.2))] ((tFun Tryz.prog (fun (x : DValue × DValue) => [tD rpDValue x.1, tD rpDValue x.2]) (fun (x : DValue × Int) => tT [tD rpDValue x.1, tD (rI .i64) x.2]) (fun (x : DValue × DValue) => R x.1 x.2))) := by
  refine Spec.of Tryz.func81 rfl rfl rfl fun w0 S0 => ?_
  refine CG.seq ?_
  refine CG.region ?_
  refine RG.op (ok_boxF (ht rfl)) rfl ?_
  refine RG.op (ok_assign hV) rfl ?_
  refine RG.nil ?_
  refine AT.next ?_
  refine CG.seq ?_
  refine CG.region ?_
  refine RG.op ((show OpOK _ _ _ _ ((tFun Tryz.prog (fun (x : DValue × DValue) => [tD rpDValue x.1, tD rpDValue x.2]) (fun (x : DValue × Int) => tT [tD rpDValue x.1, tD (rI .i64) x.2]) (fun (x : DValue × DValue) => (expr_not_1 do1) x.1 x.2))) from ok_makeFunc (cts := [tPtr (rT ((tFun Tryz.prog (fun (x : DValue × DValue) => [tD rpDValue x.1, tD rpDValue x.2]) (fun (x : DValue × Int) => tT [tD rpDValue x.1, tD (rI .i64) x.2]) (fun (x : DValue × DValue) => do1 x.1 x.2)))) ()]) (caps := [.tmp 1]) cb125 ⟨(ht rfl), trivial⟩ (fun x y h => f125_ok _ _ _ h))) rfl ?_
  refine RG.op (ok_assign (ht rfl)) rfl ?_
  refine RG.nil ?_
  refine AT.next ?_
  refine CG.ret ?_
  cases so h
  exact AT.ret1 rfl rfl

set_option maxRecDepth 100000 in
theorem f126_ok (l : (List Int)) {R : Int} (h : value_Or_1 l = some R) : Spec Tryz.prog 126 [tD (rSl (rI .i64)) l] (tD (rI .i64) R) := by
  refine Spec.of Tryz.func126 rfl rfl rfl fun w0 S0 => ?_
  refine CG.seq ?_
  refine CG.region ?_
  refine RG.op (ok_assign hI) rfl ?_
  refine RG.nil ?_
  refine AT.next ?_
  refine CG.seq ?_
  obtain ⟨e, q_e, h⟩ := bs h
  obtain ⟨e1, q_e1, h⟩ := bs h
  refine CG.draw (ts := [tD (rSl (rI .i64)) l, tPtr (rI .i64) e, tD (rI .i64) e, tD (rSl (rI .i64)) l, tPtr (rI .i64) e1, tD (rI .i64) e1, tD (rI .i64) (max e e1), tD (rI .i64) (max e e1)]) mixed rfl rfl
    ⟨⟨[⟨0, _, none⟩], _, rfl, ⟨rfl, trivial⟩, rfl, rfl, OpG.plain rfl (ok_move (ht rfl))⟩,
    ⟨⟨[⟨3, _, some 0⟩], _, rfl, ⟨rfl, trivial⟩, rfl, rfl, OpG.plain rfl (ok_indexAddr Tryz.underlying40 ti3 rfl (ht rfl) hI q_e)⟩,
    ⟨⟨[⟨4, _, some 1⟩], _, rfl, ⟨rfl, trivial⟩, rfl, rfl, OpG.plain rfl (ok_load ti3 rfl rfl (ht rfl))⟩,
    ⟨⟨[⟨0, _, none⟩], _, rfl, ⟨rfl, trivial⟩, rfl, rfl, OpG.plain rfl (ok_move (ht rfl))⟩,
    ⟨⟨[⟨6, _, some 3⟩], _, rfl, ⟨rfl, trivial⟩, rfl, rfl, OpG.plain rfl (ok_indexAddr Tryz.underlying40 ti3 rfl (ht rfl) hI q_e1)⟩,
    ⟨⟨[⟨7, _, some 4⟩], _, rfl, ⟨rfl, trivial⟩, rfl, rfl, OpG.plain rfl (ok_load ti3 rfl rfl (ht rfl))⟩,
    ⟨⟨[⟨5, _, some 2⟩, ⟨8, _, some 5⟩], _, rfl, ⟨rfl, rfl, trivial⟩, rfl, rfl, OpG.plain rfl (ok_max2 (ht rfl) (ht rfl))⟩,
    ⟨⟨[⟨9, _, some 6⟩], _, rfl, ⟨rfl, trivial⟩, rfl, rfl, OpG.plain rfl (ok_assign (ht rfl))⟩,
    trivial⟩⟩⟩⟩⟩⟩⟩⟩ ?_
  refine AT.next ?_
  refine CG.ret ?_
  cases so h
  exact AT.ret1 rfl rfl

set_option maxRecDepth 100000 in
theorem f82_ok (a1 : DValue) (b : DValue) {R : DValue × Int} (h : value_Or a1 b = some R) : Spec Tryz.prog 82 [tD rpDValue a1, tD rpDValue b] (tT [tD rpDValue R.1, tD (rI .i64) R.2]) := by
  refine Spec.of Tryz.func82 rfl rfl rfl fun w0 S0 => ?_
  refine CG.seq ?_
  refine CG.region ?_
  refine RG.op (ok_box (ht rfl)) rfl ?_
  refine RG.op (ok_box (ht rfl)) rfl ?_
  refine RG.alloc (r := rpDValue) (x := (⟨(0 : Int), (0 : Int), (0 : Int), []⟩ : DValue)) ti33 (fun _ => zrDValue _) rfl (fun b1 => ?_)
  refine RG.op (ok_assign hI) rfl ?_
  refine RG.nil ?_
  refine AT.next ?_
  refine CG.seq ?_
  refine CG.region ?_
  refine RG.op (ok_load ti33 rfl rfl (ht rfl)) rfl ?_
  refine RG.op (ok_load ti33 rfl rfl (ht rfl)) rfl ?_
  refine RG.op (ok_buildSlice (r := rpDValue) (ys := [a1, b]) (xs := [.tmp 6, .tmp 7]) Tryz.underlying28 ti33 rfl rfl rfl rfl rfl ⟨(ht rfl), (ht rfl), trivial⟩) rfl ?_
  obtain ⟨r, q_r, h⟩ := bs h
  refine RG.op (ok_call cb63 (f63_ok _ _ q_r) ⟨(hFn cb126 fun x y h => f126_ok _ h), (ht rfl), trivial⟩) rfl ?_
  refine RG.op (ok_extract rfl (ht rfl)) rfl ?_
  refine RG.op (ok_extract rfl (ht rfl)) rfl ?_
  refine RG.storeB ti33 rfl sfld_whole rfl (ht rfl) (ht rfl) ?_
  refine RG.settleB 4 rfl ?_
  refine RG.op (ok_assign (ht rfl)) rfl ?_
  refine RG.nil ?_
  refine AT.next ?_
  refine CG.ret ?_
  cases so h
  exact AT.retL (rvs := [.cell 4 33, .tmp 5]) rfl rfl ⟨res_cell ti33 rfl rfl rfl, res_tmp rfl, trivial⟩

set_option maxRecDepth 100000 in
theorem f44_ok {R : (List (Int × (DValue → DValue → Option (DValue × Int))))} (h : expr_does = some R) : Spec Tryz.prog 44 [] (tMp (fun y : (DValue → DValue → Option (DValue × Int)) => tFn Tryz.prog (fun (x : DValue × DValue) => [tD rpDValue x.1, tD rpDValue x.2]) (fun (x : DValue × Int) => tT [tD rpDValue x.1, tD (rI .i64) x.2]) (fun (x : DValue × DValue) => y x.1 x.2)) (kvI .i64) R) := by
  refine Spec.of Tryz.func44 rfl rfl rfl fun w0 S0 => ?_
  refine CG.seq ?_
  refine CG.region ?_
  refine RG.op (ok_assign (show HasTy _ _ (.const (.map none)) (tV (.map none)) from fun _ _ _ => rfl)) rfl ?_
  refine RG.nil ?_
  refine AT.next ?_
  refine CG.seq ?_
  refine CG.region ?_
  obtain ⟨r, q_r, h⟩ := bs h
  refine RG.op (ok_call cb70 (f70_ok _ q_r) ⟨(hFn cb71 fun x y h => f71_ok _ _ h), trivial⟩) rfl ?_
  refine RG.op (ok_assign (ht rfl)) rfl ?_
  refine RG.nil ?_
  refine AT.next ?_
  refine CG.seq ?_
  refine CG.region ?_
  refine RG.makeMap (mvY (fun y : (DValue → DValue → Option (DValue × Int)) => tFn Tryz.prog (fun (x : DValue × DValue) => [tD rpDValue x.1, tD rpDValue x.2]) (fun (x : DValue × Int) => tT [tD rpDValue x.1, tD (rI .i64) x.2]) (fun (x : DValue × DValue) => y x.1 x.2))) (kvI .i64) rfl (fun b => ?_)
  obtain ⟨r1, q_r1, h⟩ := bs h
  refine RG.op (ok_call cb72 (f72_ok _ q_r1) ⟨(hFn cb73 fun x y h => f73_ok _ h), trivial⟩) rfl ?_
  refine RG.insY (γ := (fun y : (DValue → DValue → Option (DValue × Int)) => tFn Tryz.prog (fun (x : DValue × DValue) => [tD rpDValue x.1, tD rpDValue x.2]) (fun (x : DValue × Int) => tT [tD rpDValue x.1, tD (rI .i64) x.2]) (fun (x : DValue × DValue) => y x.1 x.2))) (y := r1) Tryz.underlying75 (key_int Tryz.underlying3) (ht rfl) (keyI hI) (tFn_of (ht rfl)) (fun os => ?_)
  obtain ⟨r2, q_r2, h⟩ := bs h
  refine RG.op (ok_call cb72 (f72_ok _ q_r2) ⟨(hFn cb74 fun x y h => f74_ok _ h), trivial⟩) rfl ?_
  refine RG.insY (γ := (fun y : (DValue → DValue → Option (DValue × Int)) => tFn Tryz.prog (fun (x : DValue × DValue) => [tD rpDValue x.1, tD rpDValue x.2]) (fun (x : DValue × Int) => tT [tD rpDValue x.1, tD (rI .i64) x.2]) (fun (x : DValue × DValue) => y x.1 x.2))) (y := r2) Tryz.underlying75 (key_int Tryz.underlying3) (ht rfl) (keyI hI) (tFn_of (ht rfl)) (fun os1 => ?_)
  obtain ⟨r3, q_r3, h⟩ := bs h
  refine RG.op (ok_call cb75 (f75_ok _ q_r3) ⟨hB, trivial⟩) rfl ?_
  refine RG.insY (γ := (fun y : (DValue → DValue → Option (DValue × Int)) => tFn Tryz.prog (fun (x : DValue × DValue) => [tD rpDValue x.1, tD rpDValue x.2]) (fun (x : DValue × Int) => tT [tD rpDValue x.1, tD (rI .i64) x.2]) (fun (x : DValue × DValue) => y x.1 x.2))) (y := r3) Tryz.underlying75 (key_int Tryz.underlying3) (ht rfl) (keyI hI) (tFn_of (ht rfl)) (fun os2 => ?_)
  obtain ⟨r4, q_r4, h⟩ := bs h
  refine RG.op (ok_call cb75 (f75_ok _ q_r4) ⟨hB, trivial⟩) rfl ?_
  refine RG.insY (γ := (fun y : (DValue → DValue → Option (DValue × Int)) => tFn Tryz.prog (fun (x : DValue × DValue) => [tD rpDValue x.1, tD rpDValue x.2]) (fun (x : DValue × Int) => tT [tD rpDValue x.1, tD (rI .i64) x.2]) (fun (x : DValue × DValue) => y x.1 x.2))) (y := r4) Tryz.underlying75 (key_int Tryz.underlying3) (ht rfl) (keyI hI) (tFn_of (ht rfl)) (fun os3 => ?_)
  refine RG.insY (γ := (fun y : (DValue → DValue → Option (DValue × Int)) => tFn Tryz.prog (fun (x : DValue × DValue) => [tD rpDValue x.1, tD rpDValue x.2]) (fun (x : DValue × Int) => tT [tD rpDValue x.1, tD (rI .i64) x.2]) (fun (x : DValue × DValue) => y x.1 x.2))) (y := arith_Add) Tryz.underlying75 (key_int Tryz.underlying3) (ht rfl) (keyI hI) (tFn_of (hFn cb76 fun x y h => f76_ok _ _ h)) (fun os4 => ?_)
  refine RG.insY (γ := (fun y : (DValue → DValue → Option (DValue × Int)) => tFn Tryz.prog (fun (x : DValue × DValue) => [tD rpDValue x.1, tD rpDValue x.2]) (fun (x : DValue × Int) => tT [tD rpDValue x.1, tD (rI .i64) x.2]) (fun (x : DValue × DValue) => y x.1 x.2))) (y := arith_Sub) Tryz.underlying75 (key_int Tryz.underlying3) (ht rfl) (keyI hI) (tFn_of (hFn cb77 fun x y h => f77_ok _ _ h)) (fun os5 => ?_)
  refine RG.insY (γ := (fun y : (DValue → DValue → Option (DValue × Int)) => tFn Tryz.prog (fun (x : DValue × DValue) => [tD rpDValue x.1, tD rpDValue x.2]) (fun (x : DValue × Int) => tT [tD rpDValue x.1, tD (rI .i64) x.2]) (fun (x : DValue × DValue) => y x.1 x.2))) (y := arith_Mul) Tryz.underlying75 (key_int Tryz.underlying3) (ht rfl) (keyI hI) (tFn_of (hFn cb78 fun x y h => f78_ok _ _ h)) (fun os6 => ?_)
  refine RG.insY (γ := (fun y : (DValue → DValue → Option (DValue × Int)) => tFn Tryz.prog (fun (x : DValue × DValue) => [tD rpDValue x.1, tD rpDValue x.2]) (fun (x : DValue × Int) => tT [tD rpDValue x.1, tD (rI .i64) x.2]) (fun (x : DValue × DValue) => y x.1 x.2))) (y := arith_Div) Tryz.underlying75 (key_int Tryz.underlying3) (ht rfl) (keyI hI) (tFn_of (hFn cb79 fun x y h => f79_ok _ _ h)) (fun os7 => ?_)
  refine RG.insY (γ := (fun y : (DValue → DValue → Option (DValue × Int)) => tFn Tryz.prog (fun (x : DValue × DValue) => [tD rpDValue x.1, tD rpDValue x.2]) (fun (x : DValue × Int) => tT [tD rpDValue x.1, tD (rI .i64) x.2]) (fun (x : DValue × DValue) => y x.1 x.2))) (y := value_Equal) Tryz.underlying75 (key_int Tryz.underlying3) (ht rfl) (keyI hI) (tFn_of (hFn cb80 fun x y h => f80_ok _ _ h)) (fun os8 => ?_)
  obtain ⟨r5, q_r5, h⟩ := bs h
  refine RG.op (ok_call cb81 (f81_ok _ q_r5) ⟨(hFn cb80 fun x y h => f80_ok _ _ h), trivial⟩) rfl ?_
  refine RG.insY (γ := (fun y : (DValue → DValue → Option (DValue × Int)) => tFn Tryz.prog (fun (x : DValue × DValue) => [tD rpDValue x.1, tD rpDValue x.2]) (fun (x : DValue × Int) => tT [tD rpDValue x.1, tD (rI .i64) x.2]) (fun (x : DValue × DValue) => y x.1 x.2))) (y := r5) Tryz.underlying75 (key_int Tryz.underlying3) (ht rfl) (keyI hI) (tFn_of (ht rfl)) (fun os9 => ?_)
  refine RG.insY (γ := (fun y : (DValue → DValue → Option (DValue × Int)) => tFn Tryz.prog (fun (x : DValue × DValue) => [tD rpDValue x.1, tD rpDValue x.2]) (fun (x : DValue × Int) => tT [tD rpDValue x.1, tD (rI .i64) x.2]) (fun (x : DValue × DValue) => y x.1 x.2))) (y := value_Less) Tryz.underlying75 (key_int Tryz.underlying3) (ht rfl) (keyI hI) (tFn_of (hFn cb71 fun x y h => f71_ok _ _ h)) (fun os10 => ?_)
  refine RG.op (ok_move (ht rfl)) rfl ?_
  refine RG.insY (γ := (fun y : (DValue → DValue → Option (DValue × Int)) => tFn Tryz.prog (fun (x : DValue × DValue) => [tD rpDValue x.1, tD rpDValue x.2]) (fun (x : DValue × Int) => tT [tD rpDValue x.1, tD (rI .i64) x.2]) (fun (x : DValue × DValue) => y x.1 x.2))) (y := r) Tryz.underlying75 (key_int Tryz.underlying3) (ht rfl) (keyI hI) (tFn_of (ht rfl)) (fun os11 => ?_)
  refine RG.op (ok_move (ht rfl)) rfl ?_
  obtain ⟨r6, q_r6, h⟩ := bs h
  refine RG.op (ok_call cb81 (f81_ok _ q_r6) ⟨(ht rfl), trivial⟩) rfl ?_
  refine RG.insY (γ := (fun y : (DValue → DValue → Option (DValue × Int)) => tFn Tryz.prog (fun (x : DValue × DValue) => [tD rpDValue x.1, tD rpDValue x.2]) (fun (x : DValue × Int) => tT [tD rpDValue x.1, tD (rI .i64) x.2]) (fun (x : DValue × DValue) => y x.1 x.2))) (y := r6) Tryz.underlying75 (key_int Tryz.underlying3) (ht rfl) (keyI hI) (tFn_of (ht rfl)) (fun os12 => ?_)
  obtain ⟨r7, q_r7, h⟩ := bs h
  refine RG.op (ok_call cb81 (f81_ok _ q_r7) ⟨(hFn cb71 fun x y h => f71_ok _ _ h), trivial⟩) rfl ?_
  refine RG.insY (γ := (fun y : (DValue → DValue → Option (DValue × Int)) => tFn Tryz.prog (fun (x : DValue × DValue) => [tD rpDValue x.1, tD rpDValue x.2]) (fun (x : DValue × Int) => tT [tD rpDValue x.1, tD (rI .i64) x.2]) (fun (x : DValue × DValue) => y x.1 x.2))) (y := r7) Tryz.underlying75 (key_int Tryz.underlying3) (ht rfl) (keyI hI) (tFn_of (ht rfl)) (fun os13 => ?_)
  refine RG.insY (γ := (fun y : (DValue → DValue → Option (DValue × Int)) => tFn Tryz.prog (fun (x : DValue × DValue) => [tD rpDValue x.1, tD rpDValue x.2]) (fun (x : DValue × Int) => tT [tD rpDValue x.1, tD (rI .i64) x.2]) (fun (x : DValue × DValue) => y x.1 x.2))) (y := value_And) Tryz.underlying75 (key_int Tryz.underlying3) (ht rfl) (keyI hI) (tFn_of (hFn cb30 fun x y h => f30_ok _ _ h)) (fun os14 => ?_)
  refine RG.insY (γ := (fun y : (DValue → DValue → Option (DValue × Int)) => tFn Tryz.prog (fun (x : DValue × DValue) => [tD rpDValue x.1, tD rpDValue x.2]) (fun (x : DValue × Int) => tT [tD rpDValue x.1, tD (rI .i64) x.2]) (fun (x : DValue × DValue) => y x.1 x.2))) (y := value_Or) Tryz.underlying75 (key_int Tryz.underlying3) (ht rfl) (keyI hI) (tFn_of (hFn cb82 fun x y h => f82_ok _ _ h)) (fun os15 => ?_)
  refine RG.op (ok_move (ht rfl)) rfl ?_
  refine RG.op (ok_assign (ht rfl)) rfl ?_
  refine RG.nil ?_
  refine AT.next ?_
  refine CG.ret ?_
  refine AT.settleMp 0 rfl ?_
  cases so h
  exact AT.ret1 rfl rfl

set_option maxRecDepth 100000 in
theorem f84_v {l : Option Nat} {c : Nat} {xs s : List DValue} {lo : Int} {R : List DValue} (hs : sliceF xs lo (xs.length : Int) = some s) (h : slices_Clone_api_Value_api_Value s = some R) : SpecM Tryz.prog 84 [tV (vslV 4 l c lo.toNat s.length)] [arr rpDValue 33 l c xs] (fun i : OI => tV (oslV (i.h 0).1 (i.h 0).2 R.length)) (fun i => [arr rpDValue 33 (i.h 0).1 (i.h 0).2 R, arr rpDValue 33 l c xs]) := by
  refine SpecM.of Tryz.func84 rfl rfl rfl fun w0 S0 => ?_
  refine CG.seq ?_
  refine CG.region ?_
  refine RG.op (ok_assign hVn) rfl ?_
  refine RG.nil ?_
  refine AT.next ?_
  refine CG.seq ?_
  refine CG.seq ?_
  refine CG.region ?_
  refine RG.op (ok_move (ht rfl)) rfl ?_
  refine RG.isNilV (r := rpDValue) Tryz.underlying28 (.head _) hs (ht rfl) rfl (fun isnil hisnil => ?_)
  refine RG.nil ?_
  refine AT.next ?_
  refine CG.cond (ht rfl) (fun hc => ?_) (fun hc => ?_)
  · have hx := hisnil hc
    have h : some ([] : List DValue) = some R := by simpa [slices_Clone_api_Value_api_Value, app, hx] using h
    refine CG.seq ?_
    refine CG.region ?_
    refine RG.fresh false rpDValue 33 ?_
    refine RG.op (ok_assign hVn) rfl ?_
    refine RG.nil ?_
    refine AT.next ?_
    refine CG.ret ?_
    refine AT.then_ret ?_
    cases so h
    exact AT.retM1 rfl (oi none 0) rfl rfl (fun _ _ h => h)
  · refine CG.skip ?_
    refine AT.next ?_
    refine CG.seq ?_
    refine CG.region ?_
    refine RG.buildOwn (r := rpDValue) (ys := ([] : List DValue)) (xs := []) Tryz.underlying28 ti33 rfl rfl rfl rfl rfl trivial rfl (fun l1 c1 => ?_)
    refine RG.op (ok_move (ht rfl)) rfl ?_
    obtain ⟨x, q_x, h⟩ := bs h
    refine RG.appendV ti33 rfl rfl rfl rfl Tryz.underlying28 rfl rfl (ht rfl) (.tail _ (.head _)) hs (ht rfl) q_x (fun l2 c2 => ?_)
    refine RG.op (ok_assign (ht rfl)) rfl ?_
    refine RG.nil ?_
    refine AT.next ?_
    refine CG.ret ?_
    cases so h
    exact AT.retM1 rfl (oi l2 c2) rfl rfl (fun _ _ h => h)

set_option maxRecDepth 100000 in
theorem f83_c (b : Nat) (l : Option Nat) (c : Nat) (stack : (List DValue)) (k : Int) {R : (List DValue) × (List DValue)} (h : expr_over_1_api_Value stack k = some R) : SpecM Tryz.prog 83 [tD (rI .i64) k, tV (bptr b 0)] [bx rV 28 b (oslV l c stack.length), arr rpDValue 33 l c stack] (fun i : OI => tD (rSl rpDValue) R.1) (fun i => [bx rV 28 b (oslV (i.h 0).1 (i.h 0).2 R.2.length), arr rpDValue 33 (i.h 0).1 (i.h 0).2 R.2]) := by
  refine SpecM.of Tryz.func83 rfl rfl rfl fun w0 S0 => ?_
  refine CG.seq ?_
  refine CG.region ?_
  refine RG.op (ok_assign (show HasTy _ _ _ (tD (rSl rpDValue) ([])) from hNil)) rfl ?_
  refine RG.nil ?_
  refine AT.next ?_
  refine CG.seq ?_
  refine CG.region ?_
  refine RG.op (ok_loadA ti28 (.head _) (ht rfl)) rfl ?_
  refine RG.op (ok_loadA ti28 (.head _) (ht rfl)) rfl ?_
  refine RG.op (ok_lenO Tryz.underlying28 (.tail _ (.head _)) (ht rfl)) rfl ?_
  refine RG.op (ok_move (ht rfl)) rfl ?_
  refine RG.op (ok_sub (ht rfl) (ht rfl)) rfl ?_
  obtain ⟨y, q_y, h⟩ := bs h
  refine RG.op (ok_sliceLoO Tryz.underlying28 ti33 rfl (.tail _ (.head _)) (ht rfl) (ht rfl) q_y) rfl ?_
  refine RG.have_view (.tail _ (.head _)) q_y (fun hv => ?_)
  refine RG.front1 ?_
  obtain ⟨r, q_r, h⟩ := bs h
  refine RG.callM [arr rpDValue 33 l c stack] _ rfl cb84 (f84_v q_y q_r) ⟨(ht rfl), trivial⟩ rfl (fun i => ?_)
  refine (show RG _ _ _ _ [arr rpDValue 33 (i.h 0).1 (i.h 0).2 r, arr rpDValue 33 l c stack, bx rV 28 b (oslV l c stack.length)] _ from ?_)
  refine RG.op (ok_assign (ht rfl)) rfl ?_
  refine RG.nil ?_
  refine AT.next ?_
  refine CG.seq ?_
  refine CG.region ?_
  refine RG.op (ok_loadA ti28 (.tail _ (.tail _ (.head _))) (ht rfl)) rfl ?_
  refine RG.op (ok_loadA ti28 (.tail _ (.tail _ (.head _))) (ht rfl)) rfl ?_
  refine RG.op (ok_lenO Tryz.underlying28 (.tail _ (.head _)) (ht rfl)) rfl ?_
  refine RG.op (ok_move (ht rfl)) rfl ?_
  refine RG.op (ok_sub (ht rfl) (ht rfl)) rfl ?_
  obtain ⟨y1, q_y1, h⟩ := bs h
  refine RG.op (ok_sliceHiO Tryz.underlying28 ti33 rfl (.tail _ (.head _)) (ht rfl) (ht rfl) q_y1) rfl ?_
  refine RG.front1 ?_
  refine RG.cut q_y1 ?_
  refine RG.front2 ?_
  refine RG.storeB ti28 rfl sfld_whole rfl (ht rfl) (hRV (ht rfl)) ?_
  refine RG.nil ?_
  refine AT.next ?_
  refine CG.seq ?_
  refine CG.region ?_
  refine RG.op (ok_move (ht rfl)) rfl ?_
  refine RG.op (ok_assign (ht rfl)) rfl ?_
  refine RG.nil ?_
  refine AT.next ?_
  refine CG.ret ?_
  refine AT.front2 ?_
  refine AT.freeze ?_
  refine AT.tipAt 3 rfl ?_
  refine AT.tipAt 11 rfl ?_
  refine AT.tipAt 4 rfl ?_
  refine AT.tipAt 18 rfl ?_
  refine AT.dataAt 3 rfl ?_
  refine AT.drop ?_
  refine AT.front1 ?_
  refine AT.front1 ?_
  cases so h
  exact AT.retM1 rfl (oi l c) rfl rfl (fun _ _ h => h)

set_option maxRecDepth 100000 in
theorem f45_ok (e : DExpr) (do1 : (DENode → (List DValue) → Option (DValue × Int))) {R : DValue × Int} (h : expr_over_api_Value e do1 = some R) : Spec Tryz.prog 45 [tD rpDExpr e, (tFun Tryz.prog (fun (x : DENode × (List DValue)) => [tD rpDENode x.1, tD (rSl rpDValue) x.2]) (fun (x : DValue × Int) => tT [tD rpDValue x.1, tD (rI .i64) x.2]) (fun (x : DENode × (List DValue)) => do1 x.1 x.2))] (tT [tD rpDValue R.1, tD (rI .i64) R.2]) := by
  refine Spec.of Tryz.func45 rfl rfl rfl fun w0 S0 => ?_
  refine CG.seq ?_
  refine CG.region ?_
  refine RG.op (ok_box (ht rfl)) rfl ?_
  refine RG.alloc (r := rpDValue) (x := (⟨(0 : Int), (0 : Int), (0 : Int), []⟩ : DValue)) ti33 (fun _ => zrDValue _) rfl (fun b => ?_)
  refine RG.op (ok_assign hI) rfl ?_
  refine RG.nil ?_
  refine AT.next ?_
  refine CG.scope ?_
  refine CG.seq ?_
  refine CG.region ?_
  refine RG.fresh false rpDValue 33 ?_
  refine RG.alloc (x := oslV none 0 0) ti28 (fun _ => rV_osl) rfl (fun b1 => ?_)
  refine RG.nil ?_
  refine AT.next ?_
  refine CG.seq ?_
  refine CG.region ?_
  refine RG.alloc (r := rpDValue) (x := (⟨(0 : Int), (0 : Int), (0 : Int), []⟩ : DValue)) ti33 (fun _ => zrDValue _) rfl (fun b2 => ?_)
  refine RG.settleB 7 rfl ?_
  refine RG.nil ?_
  refine AT.next ?_
  refine CG.seq ?_
  refine CG.region ?_
  refine RG.op (ok_makeC (cts := [tV (bptr b1 0)]) (caps := [.tmp 6]) ⟨(ht rfl), trivial⟩) rfl ?_
  refine RG.op (ok_assign (ht rfl)) rfl ?_
  refine RG.nil ?_
  refine AT.next ?_
  refine CG.seq ?_
  refine CG.region ?_
  refine RG.op (ok_assign hI) rfl ?_
  refine RG.nil ?_
  refine AT.next ?_
  refine CG.seq ?_
  refine CG.label ?_
  refine AT.next ?_
  refine CG.seq ?_
  refine CG.seq ?_
  refine CG.region ?_
  refine RG.op (ok_fieldAddr fd24_0 rfl flDExpr_0 rfl (ht rfl)) rfl ?_
  refine RG.op (ok_load ti22 rfl rfl (ht rfl)) rfl ?_
  refine RG.op (ok_lenSl Tryz.underlying22 (ht rfl)) rfl ?_
  refine RG.op (ok_move hI) rfl ?_
  refine RG.nil ?_
  refine AT.next ?_
  refine CG.bjoin4 (Z := fun bad stack l c => expr_over_api_Value_k1 bad stack = some R) (Of := fun bad stack l c => [bx rpDValue 33 b (⟨(0 : Int), (0 : Int), (0 : Int), []⟩ : DValue), bx rV 28 b1 (oslV l c stack.length), arr rpDValue 33 l c stack]) (Gf := fun bad stack l c => [(4, tV (bptr b 0)), (6, tV (bptr b1 0)), (7, tPtr rpDValue (⟨(0 : Int), (0 : Int), (0 : Int), []⟩ : DValue)), (9, tD (rI .i64) bad)]) (fun bad stack l c h => ?_) (fun K => ?_)
  · skip
    refine AT.next ?_
    refine CG.seq ?_
    refine CG.seq ?_
    refine CG.region ?_
    refine RG.op (ok_move (ht rfl)) rfl ?_
    refine RG.op (ok_neqI (ht rfl) hI) rfl ?_
    refine RG.nil ?_
    refine AT.next ?_
    refine CG.cond (ht rfl) (fun hc => ?_) (fun hc => ?_)
    · have h := ct h hc
      refine CG.seq ?_
      refine CG.region ?_
      refine RG.op (ok_load ti33 rfl rfl (ht rfl)) rfl ?_
      refine RG.op (ok_move (ht rfl)) rfl ?_
      refine RG.storeB ti33 rfl sfld_whole rfl (ht rfl) (ht rfl) ?_
      refine RG.op (ok_assign (ht rfl)) rfl ?_
      refine RG.nil ?_
      refine AT.next ?_
      refine CG.ret ?_
      refine AT.then_ret (AT.sc_ret ?_)
      refine AT.settleB 4 rfl ?_
      refine AT.drop ?_
      refine AT.drop ?_
      cases so h
      exact AT.retL (rvs := [.cell 4 33, .tmp 5]) rfl rfl ⟨res_cell ti33 rfl rfl rfl, res_tmp rfl, trivial⟩
    · have h := cf h hc
      refine CG.skip ?_
      refine AT.next ?_
      refine CG.seq ?_
      refine CG.region ?_
      refine RG.op (ok_loadA ti28 (.tail _ (.head _)) (ht rfl)) rfl ?_
      obtain ⟨e1, q_e1, h⟩ := bs h
      refine RG.op (ok_indexAddrO Tryz.underlying28 ti33 (.tail _ (.tail _ (.head _))) (ht rfl) hI q_e1) rfl ?_
      refine RG.op (ok_loadE (r := rpDValue) (i := (0 : Int)) (foff := 0) ti33 rfl rfl fld_whole rfl (.tail _ (.tail _ (.head _))) q_e1 (ht rfl)) rfl ?_
      refine RG.storeB ti33 rfl sfld_whole rfl (ht rfl) (ht rfl) ?_
      refine RG.op (ok_assign hI) rfl ?_
      refine RG.nil ?_
      refine AT.next ?_
      refine CG.ret ?_
      refine AT.sc_ret ?_
      refine AT.settleB 4 rfl ?_
      refine AT.drop ?_
      refine AT.drop ?_
      cases so h
      exact AT.retL (rvs := [.cell 4 33, .tmp 5]) rfl rfl ⟨res_cell ti33 rfl rfl rfl, res_tmp rfl, trivial⟩
  · skip
    refine CG.have_len (k := 16) rfl (fun hN => ?_)
    refine CG.loop ?_
    refine LG.front1 ?_
    refine LG.front1 ?_
    refine LG.front2 ?_
    refine LG.sub (LG.list5 (Z := fun ls i bad1 stack1 l1 c1 => (e.Nodes.drop i = ls) ∧ expr_over_api_Value_l1 do1 ls bad1 stack1 = some R) (Of := fun _ i bad1 stack1 l1 c1 => [bx rpDValue 33 b (⟨(0 : Int), (0 : Int), (0 : Int), []⟩ : DValue), bx rV 28 b1 (oslV l1 c1 stack1.length), arr rpDValue 33 l1 c1 stack1]) (Gf := fun _ i bad1 stack1 l1 c1 => [(1, (tFun Tryz.prog (fun (x : DENode × (List DValue)) => [tD rpDENode x.1, tD (rSl rpDValue) x.2]) (fun (x : DValue × Int) => tT [tD rpDValue x.1, tD (rI .i64) x.2]) (fun (x : DENode × (List DValue)) => do1 x.1 x.2))), (4, tV (bptr b 0)), (6, tV (bptr b1 0)), (7, tPtr rpDValue (⟨(0 : Int), (0 : Int), (0 : Int), []⟩ : DValue)), (8, tC 83 [tV (bptr b1 0)]), (9, tD (rI .i64) bad1), (16, tD (rSl rpDENode) e.Nodes), (17, tD (rI .i64) (e.Nodes.length : Int)), (18, tD (rI .i64) (i : Int))]) (fun i bad1 stack1 l1 c1 h => ?_) (fun e2 tl ih i bad1 stack1 l1 c1 h => ?_) e.Nodes 0 (0 : Int) ([] : List DValue) none 0 ⟨rfl, h⟩) ⟨rfl, rfl, rfl, rfl, rfl, rfl, rfl, rfl, rfl, trivial⟩
    · obtain ⟨hx, h⟩ := h
      refine LG.unfold ?_
      refine CG.seq ?_
      refine CG.region ?_
      refine RG.op (ok_lss (ht rfl) (ht rfl)) rfl ?_
      refine RG.nil ?_
      refine AT.next ?_
      refine CG.seq ?_
      refine CG.condF (ht rfl) (dropF hx) ?_
      refine CG.exit ?_
      refine AT.then_exit (AT.then_exit (AT.in_exit ?_))
      exact AT.sub (K bad1 stack1 l1 c1 h) ⟨rfl, rfl, rfl, rfl, trivial⟩
    · obtain ⟨hx, h⟩ := h
      refine LG.unfold ?_
      refine CG.seq ?_
      refine CG.region ?_
      refine RG.op (ok_lss (ht rfl) (ht rfl)) rfl ?_
      refine RG.nil ?_
      refine AT.next ?_
      refine CG.seq ?_
      refine CG.condT (ht rfl) (dropT hx) ?_
      refine CG.skip ?_
      refine AT.next ?_
      refine CG.seq ?_
      refine CG.block ?_
      refine CG.seq ?_
      refine CG.region ?_
      refine RG.op (ok_indexAddr Tryz.underlying22 ti42 rfl (ht rfl) (ht rfl) (dropI hx)) rfl ?_
      refine RG.op (ok_load ti42 rfl rfl (ht rfl)) rfl ?_
      refine RG.alloc (r := rpDENode) (x := (⟨(0 : Int), (0 : Int), (0 : Int), (0 : Int), (⟨(0 : Int), (0 : Int), (0 : Int), []⟩ : DValue)⟩ : DENode)) ti42 (fun _ => zrDENode _) rfl (fun b3 => ?_)
      refine RG.storeB ti42 rfl sfld_whole rfl (ht rfl) (ht rfl) ?_
      refine RG.settleB 11 rfl ?_
      refine RG.nil ?_
      refine AT.next ?_
      refine CG.seq ?_
      obtain ⟨r, q_r, h⟩ := bs h
      obtain ⟨r1, q_r1, h⟩ := bs h
      obtain ⟨r2, q_r2, h⟩ := bs h
      refine CG.drawU 13 [tc ((tFun Tryz.prog (fun (x : DENode × (List DValue)) => [tD rpDENode x.1, tD (rSl rpDValue) x.2]) (fun (x : DValue × Int) => tT [tD rpDValue x.1, tD (rI .i64) x.2]) (fun (x : DENode × (List DValue)) => do1 x.1 x.2))), tc (tD rpDENode e2), tc (tC 83 [tV (bptr b1 0)]), tc (tPtr (rI .i64) e2.Tag), tc (tD (rI .i64) e2.Tag), tc (tD (rI .i64) r), tc (tD (rSl rpDValue) r1.1), tc (tT [tD rpDValue r2.1, tD (rI .i64) r2.2]), tc (tT [tD rpDValue r2.1, tD (rI .i64) r2.2]), tc (tD rpDValue r2.1), tc (tD (rI .i64) r2.2), ([11], fun s => tV (bptr ((s.getD 0 zoi).h 0).2 0)), tc (tAny)] [false, false, false, false, false, false, true, false, false, false, false, true, true] [([], fun _ => [bx rpDValue 33 b (⟨(0 : Int), (0 : Int), (0 : Int), []⟩ : DValue), bx rV 28 b1 (oslV l1 c1 stack1.length), arr rpDValue 33 l1 c1 stack1]), ([6], fun sg => [bx rV 28 b1 (oslV ((sg 6).h 0).1 ((sg 6).h 0).2 r1.2.length), arr rpDValue 33 ((sg 6).h 0).1 ((sg 6).h 0).2 r1.2, bx rpDValue 33 b (⟨(0 : Int), (0 : Int), (0 : Int), []⟩ : DValue)]), ([11], fun sg => [bx rpDValue 33 ((sg 11).h 0).2 (⟨(0 : Int), (0 : Int), (0 : Int), []⟩ : DValue), bx rpDValue 33 b (⟨(0 : Int), (0 : Int), (0 : Int), []⟩ : DValue), bx rV 28 b1 (oslV l1 c1 stack1.length), arr rpDValue 33 l1 c1 stack1]), ([6, 11], fun sg => [bx rpDValue 33 ((sg 11).h 0).2 (⟨(0 : Int), (0 : Int), (0 : Int), []⟩ : DValue), bx rV 28 b1 (oslV ((sg 6).h 0).1 ((sg 6).h 0).2 r1.2.length), arr rpDValue 33 ((sg 6).h 0).1 ((sg 6).h 0).2 r1.2, bx rpDValue 33 b (⟨(0 : Int), (0 : Int), (0 : Int), []⟩ : DValue)]), ([6, 11, 12], fun sg => [bx rpDValue 33 ((sg 11).h 0).2 r2.1, bx rV 28 b1 (oslV ((sg 6).h 0).1 ((sg 6).h 0).2 r1.2.length), arr rpDValue 33 ((sg 6).h 0).1 ((sg 6).h 0).2 r1.2, bx rpDValue 33 b (⟨(0 : Int), (0 : Int), (0 : Int), []⟩ : DValue)])] (fun _ => rfl) mixed rfl rfl rfl rfl
        ⟨⟨[⟨1, fun _ => (tFun Tryz.prog (fun (x : DENode × (List DValue)) => [tD rpDENode x.1, tD (rSl rpDValue) x.2]) (fun (x : DValue × Int) => tT [tD rpDValue x.1, tD (rI .i64) x.2]) (fun (x : DENode × (List DValue)) => do1 x.1 x.2)), none⟩], _, [[], [6], [11], [6, 11]], rfl, ⟨(fun _ => rfl), trivial⟩, rfl, rfl, rfl, rfl, rfl, ⟨fun sg => OpG.plain rfl (ok_move (ht rfl)), fun sg => OpG.plain rfl (ok_move (ht rfl)), fun sg => OpG.plain rfl (ok_move (ht rfl)), fun sg => OpG.plain rfl (ok_move (ht rfl)), trivial⟩⟩,
        ⟨⟨[⟨11, fun _ => tPtr rpDENode e2, none⟩], _, [[], [6], [11], [6, 11]], rfl, ⟨(fun _ => rfl), trivial⟩, rfl, rfl, rfl, rfl, rfl, ⟨fun sg => OpG.plain rfl (ok_load ti42 rfl rfl (ht rfl)), fun sg => OpG.plain rfl (ok_load ti42 rfl rfl (ht rfl)), fun sg => OpG.plain rfl (ok_load ti42 rfl rfl (ht rfl)), fun sg => OpG.plain rfl (ok_load ti42 rfl rfl (ht rfl)), trivial⟩⟩,
        ⟨⟨[⟨8, fun _ => tC 83 [tV (bptr b1 0)], none⟩], _, [[], [11]], rfl, ⟨(fun _ => rfl), trivial⟩, rfl, rfl, rfl, rfl, rfl, ⟨fun sg => OpG.plain rfl (ok_move (ht rfl)), fun sg => OpG.plain rfl (ok_move (ht rfl)), trivial⟩⟩,
        ⟨⟨[⟨11, fun _ => tPtr rpDENode e2, none⟩], _, [[], [11]], rfl, ⟨(fun _ => rfl), trivial⟩, rfl, rfl, rfl, rfl, rfl, ⟨fun sg => OpG.plain rfl (ok_fieldAddr fd42_0 rfl flDENode_0 rfl (ht rfl)), fun sg => OpG.plain rfl (ok_fieldAddr fd42_0 rfl flDENode_0 rfl (ht rfl)), trivial⟩⟩,
        ⟨⟨[⟨26, fun _ => tPtr (rI .i64) e2.Tag, some 3⟩], _, [[], [11]], rfl, ⟨(fun _ => rfl), trivial⟩, rfl, rfl, rfl, rfl, rfl, ⟨fun sg => OpG.plain rfl (ok_load ti3 rfl rfl (ht rfl)), fun sg => OpG.plain rfl (ok_load ti3 rfl rfl (ht rfl)), trivial⟩⟩,
        ⟨⟨[⟨27, fun _ => tD (rI .i64) e2.Tag, some 4⟩], _, [[], [11]], rfl, ⟨(fun _ => rfl), trivial⟩, rfl, rfl, rfl, rfl, rfl, ⟨fun sg => OpG.plain rfl (ok_call cb85 (f85_ok _ q_r) ⟨(ht rfl), trivial⟩), fun sg => OpG.plain rfl (ok_call cb85 (f85_ok _ q_r) ⟨(ht rfl), trivial⟩), trivial⟩⟩,
        ⟨⟨[⟨25, fun _ => tC 83 [tV (bptr b1 0)], some 2⟩, ⟨28, fun _ => tD (rI .i64) r, some 5⟩], _, [([], [6]), ([11], [6, 11])], rfl, ⟨(fun _ => rfl), (fun _ => rfl), trivial⟩, rfl, rfl, rfl, rfl, rfl, ⟨fun sg => EffG.plain rfl (EffOK.fr2 (EffOK.fr2 (eff_callC (xs := [.tmp 28]) (ts := [tD (rI .i64) r]) (cts := [tV (bptr b1 0)]) [bx rV 28 b1 (oslV l1 c1 stack1.length), arr rpDValue 33 l1 c1 stack1] _ rfl cb83 (f83_c b1 l1 c1 _ _ q_r1) (ht rfl) ⟨(ht rfl), trivial⟩ (fun _ => rfl)))), fun sg => EffG.plain rfl (EffOK.post_imp (post := fun x__ => (fun (sg : Nat → OI) => [bx rV 28 b1 (oslV ((sg 6).h 0).1 ((sg 6).h 0).2 r1.2.length), arr rpDValue 33 ((sg 6).h 0).1 ((sg 6).h 0).2 r1.2, bx rpDValue 33 ((sg 11).h 0).2 (⟨(0 : Int), (0 : Int), (0 : Int), []⟩ : DValue), bx rpDValue 33 b (⟨(0 : Int), (0 : Int), (0 : Int), []⟩ : DValue)]) (upd sg 6 x__)) (EffOK.fr3 (EffOK.fr3 (eff_callC (xs := [.tmp 28]) (ts := [tD (rI .i64) r]) (cts := [tV (bptr b1 0)]) [bx rV 28 b1 (oslV l1 c1 stack1.length), arr rpDValue 33 l1 c1 stack1] _ rfl cb83 (f83_c b1 l1 c1 _ _ q_r1) (ht rfl) ⟨(ht rfl), trivial⟩ (fun _ => rfl)))) (fun h => Own.pick [2, 0, 1, 3] rfl h)), trivial⟩⟩,
        ⟨⟨[⟨23, fun _ => (tFun Tryz.prog (fun (x : DENode × (List DValue)) => [tD rpDENode x.1, tD (rSl rpDValue) x.2]) (fun (x : DValue × Int) => tT [tD rpDValue x.1, tD (rI .i64) x.2]) (fun (x : DENode × (List DValue)) => do1 x.1 x.2)), some 0⟩, ⟨24, fun _ => tD rpDENode e2, some 1⟩, ⟨29, fun _ => tD (rSl rpDValue) r1.1, some 6⟩], _, [[6], [6, 11]], rfl, ⟨(fun _ => rfl), (fun _ => rfl), (fun _ => rfl), trivial⟩, rfl, rfl, rfl, rfl, rfl, ⟨fun sg => OpG.plain rfl (ok_callV (args := (fun (x : DENode × (List DValue)) => [tD rpDENode x.1, tD (rSl rpDValue) x.2])) (res := (fun (x : DValue × Int) => tT [tD rpDValue x.1, tD (rI .i64) x.2])) (f := (fun (x : DENode × (List DValue)) => do1 x.1 x.2)) (x := ((e2, r1.1) : DENode × (List DValue))) (ht rfl) q_r2 ⟨(ht rfl), (ht rfl), trivial⟩), fun sg => OpG.plain rfl (ok_callV (args := (fun (x : DENode × (List DValue)) => [tD rpDENode x.1, tD (rSl rpDValue) x.2])) (res := (fun (x : DValue × Int) => tT [tD rpDValue x.1, tD (rI .i64) x.2])) (f := (fun (x : DENode × (List DValue)) => do1 x.1 x.2)) (x := ((e2, r1.1) : DENode × (List DValue))) (ht rfl) q_r2 ⟨(ht rfl), (ht rfl), trivial⟩), trivial⟩⟩,
        ⟨⟨[⟨30, fun _ => tT [tD rpDValue r2.1, tD (rI .i64) r2.2], some 7⟩], _, [[6], [6, 11]], rfl, ⟨(fun _ => rfl), trivial⟩, rfl, rfl, rfl, rfl, rfl, ⟨fun sg => OpG.plain rfl (ok_move (ht rfl)), fun sg => OpG.plain rfl (ok_move (ht rfl)), trivial⟩⟩,
        ⟨⟨[⟨22, fun _ => tT [tD rpDValue r2.1, tD (rI .i64) r2.2], some 8⟩], _, [[6], [6, 11]], rfl, ⟨(fun _ => rfl), trivial⟩, rfl, rfl, rfl, rfl, rfl, ⟨fun sg => OpG.plain rfl (ok_extract rfl (ht rfl)), fun sg => OpG.plain rfl (ok_extract rfl (ht rfl)), trivial⟩⟩,
        ⟨⟨[⟨22, fun _ => tT [tD rpDValue r2.1, tD (rI .i64) r2.2], some 8⟩], _, [[6], [6, 11], [6, 11, 12]], rfl, ⟨(fun _ => rfl), trivial⟩, rfl, rfl, rfl, rfl, rfl, ⟨fun sg => OpG.plain rfl (ok_extract rfl (ht rfl)), fun sg => OpG.plain rfl (ok_extract rfl (ht rfl)), fun sg => OpG.plain rfl (ok_extract rfl (ht rfl)), trivial⟩⟩,
        ⟨⟨[], _, [([], [11]), ([6], [6, 11])], rfl, trivial, rfl, rfl, rfl, rfl, rfl, ⟨fun sg => EffG.plain rfl (eff_alloc (r := rpDValue) (x := (⟨(0 : Int), (0 : Int), (0 : Int), []⟩ : DValue)) ti33 (fun _ => zrDValue _)), fun sg => EffG.plain rfl (eff_alloc (r := rpDValue) (x := (⟨(0 : Int), (0 : Int), (0 : Int), []⟩ : DValue)) ti33 (fun _ => zrDValue _)), trivial⟩⟩,
        ⟨⟨[⟨12, fun sg => tV (bptr ((sg 11).h 0).2 0), some 11⟩, ⟨31, fun _ => tD rpDValue r2.1, some 9⟩], _, [([6, 11], [6, 11, 12])], rfl, ⟨(fun _ => rfl), (fun _ => rfl), trivial⟩, rfl, rfl, rfl, rfl, rfl, ⟨fun sg => EffG.plain rfl (eff_storeX ti33 rfl (sfx_of sfld_whole) rfl (ht rfl) (ht rfl)), trivial⟩⟩,
        trivial⟩⟩⟩⟩⟩⟩⟩⟩⟩⟩⟩⟩⟩ (fun sg => ?_)
      refine (show RG _ _ _ _ [bx rpDValue 33 ((sg 11).h 0).2 r2.1, bx rV 28 b1 (oslV ((sg 6).h 0).1 ((sg 6).h 0).2 r1.2.length), arr rpDValue 33 ((sg 6).h 0).1 ((sg 6).h 0).2 r1.2, bx rpDValue 33 b (⟨(0 : Int), (0 : Int), (0 : Int), []⟩ : DValue)] _ from ?_)
      refine RG.settleB 12 rfl ?_
      refine RG.op (ok_assign (ht rfl)) rfl ?_
      refine RG.nil ?_
      refine AT.next ?_
      refine CG.seq ?_
      refine CG.seq ?_
      refine CG.region ?_
      refine RG.op (ok_move (ht rfl)) rfl ?_
      refine RG.op (ok_neqI (ht rfl) hI) rfl ?_
      refine RG.nil ?_
      refine AT.next ?_
      refine CG.cond (ht rfl) (fun hc => ?_) (fun hc => ?_)
      · have h := ct h hc
        refine CG.seq ?_
        refine CG.region ?_
        refine RG.op (ok_move (ht rfl)) rfl ?_
        refine RG.op (ok_assign (ht rfl)) rfl ?_
        refine RG.nil ?_
        refine AT.next ?_
        refine CG.exit ?_
        refine AT.then_exit (AT.in_exit_ne rfl (AT.then_exit (AT.then_exit (AT.in_exit ?_))))
        refine AT.front1 ?_
        refine AT.front1 ?_
        refine AT.front2 ?_
        exact AT.sub (K r2.2 r1.2 ((sg 6).h 0).1 ((sg 6).h 0).2 h) ⟨rfl, rfl, rfl, rfl, trivial⟩
      · have h := cf h hc
        refine CG.skip ?_
        refine AT.next ?_
        refine CG.region ?_
        refine RG.op (ok_loadA ti28 (.head _) (ht rfl)) rfl ?_
        refine RG.op (ok_load ti33 rfl rfl (ht rfl)) rfl ?_
        refine RG.op (ok_buildSlice (r := rpDValue) (ys := [r2.1]) (xs := [.tmp 37]) Tryz.underlying28 ti33 rfl rfl rfl rfl rfl ⟨(ht rfl), trivial⟩) rfl ?_
        refine RG.front1 ?_
        obtain ⟨l2, q_l2, h⟩ := bs h
        refine RG.append ti33 rfl rfl rfl rfl Tryz.underlying28 rfl rfl (ht rfl) (ht rfl) q_l2 (fun l3 c2 => ?_)
        refine RG.front1 ?_
        refine RG.storeB ti28 rfl sfld_whole rfl (ht rfl) (hRV (ht rfl)) ?_
        refine RG.nil ?_
        refine AT.in_normal ?_
        refine AT.next ?_
        refine CG.region ?_
        refine RG.op (ok_incN (dropL hx hN) (ht rfl) hI) rfl ?_
        refine RG.op (ok_move (ht rfl)) rfl ?_
        refine RG.nil ?_
        refine AT.front1 ?_
        refine AT.front1 ?_
        refine AT.front2 ?_
        exact AT.round (LG.sub (ih (i + 1) bad1 l2 l3 c2 ⟨dropS hx, h⟩) ⟨rfl, rfl, rfl, rfl, rfl, rfl, rfl, rfl, rfl, trivial⟩)

end Go.Proofs.YtdhledkpgaeoaaaGreatDoor

