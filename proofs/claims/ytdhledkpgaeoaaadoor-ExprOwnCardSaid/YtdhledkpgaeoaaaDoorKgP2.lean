/- Facts of this claim: P2. -/
import Derived.Test.YtdhledkpgaeoaaaDoorKgT
import Derived.Test.YtdhledkpgaeoaaaDoorKgP1
namespace Go.Proofs.YtdhledkpgaeoaaaDoor
open Go

set_option maxRecDepth 100000 in
theorem f68_ok (l : (List Int)) {R : Int} (h : value_Not_1 l = some R) : Spec Tryd.prog 68 [tD (rSl (rI .i64)) l] (tD (rI .i64) R) := by
  refine Spec.of Tryd.func68 rfl rfl rfl fun w0 S0 => ?_
  refine CG.seq ?_
  refine CG.region ?_
  refine RG.op (ok_assign hI) rfl ?_
  refine RG.nil ?_
  refine AT.next ?_
  refine CG.seq ?_
  refine CG.region ?_
  refine RG.op (ok_move (ht rfl)) rfl ?_
  obtain ⟨e, q_e, h⟩ := bs h
  refine RG.op (ok_indexAddr Tryd.underlying33 ti3 rfl (ht rfl) hI q_e) rfl ?_
  refine RG.op (ok_load ti3 rfl rfl (ht rfl)) rfl ?_
  refine RG.op (ok_sub hI (ht rfl)) rfl ?_
  refine RG.op (ok_assign (ht rfl)) rfl ?_
  refine RG.nil ?_
  refine AT.next ?_
  refine CG.ret ?_
  cases so h
  exact AT.ret1 rfl rfl

set_option maxRecDepth 100000 in
theorem f36_ok (a1 : DValue) {R : DValue × Int} (h : value_Not a1 = some R) : Spec Tryd.prog 36 [tD rpDValue a1] (tT [tD rpDValue R.1, tD (rI .i64) R.2]) := by
  refine Spec.of Tryd.func36 rfl rfl rfl fun w0 S0 => ?_
  refine CG.seq ?_
  refine CG.region ?_
  refine RG.op (ok_box (ht rfl)) rfl ?_
  refine RG.alloc (r := rpDValue) (x := (⟨(0 : Int), (0 : Int), (0 : Int), []⟩ : DValue)) ti37 (fun _ => zrDValue _) rfl (fun b => ?_)
  refine RG.op (ok_assign hI) rfl ?_
  refine RG.nil ?_
  refine AT.next ?_
  refine CG.seq ?_
  refine CG.region ?_
  refine RG.op (ok_load ti37 rfl rfl (ht rfl)) rfl ?_
  refine RG.op (ok_buildSlice (r := rpDValue) (ys := [a1]) (xs := [.tmp 4]) Tryd.underlying25 ti37 rfl rfl rfl rfl rfl ⟨(ht rfl), trivial⟩) rfl ?_
  obtain ⟨r, q_r, h⟩ := bs h
  refine RG.op (ok_call cb67 (f67_ok _ _ q_r) ⟨(hFn cb68 fun x y h => f68_ok _ h), (ht rfl), trivial⟩) rfl ?_
  refine RG.op (ok_extract rfl (ht rfl)) rfl ?_
  refine RG.op (ok_extract rfl (ht rfl)) rfl ?_
  refine RG.storeB ti37 rfl sfld_whole rfl (ht rfl) (ht rfl) ?_
  refine RG.settleB 2 rfl ?_
  refine RG.op (ok_assign (ht rfl)) rfl ?_
  refine RG.nil ?_
  refine AT.next ?_
  refine CG.ret ?_
  cases so h
  exact AT.retL (rvs := [.cell 2 37, .tmp 3]) rfl rfl ⟨res_cell ti37 rfl rfl rfl, res_tmp rfl, trivial⟩

set_option maxRecDepth 100000 in
theorem f69_ok (is1 : Bool) (a1 : DValue) (x : DValue) {R : DValue × Int} (h : expr_null_1 is1 a1 x = some R) : Spec Tryd.prog 69 [tD rpDValue a1, tD rpDValue x, tPtr rB is1] (tT [tD rpDValue R.1, tD (rI .i64) R.2]) := by
  refine Spec.of Tryd.func69 rfl rfl rfl fun w0 S0 => ?_
  refine CG.seq ?_
  refine CG.region ?_
  refine RG.op (ok_box (ht rfl)) rfl ?_
  refine RG.op (ok_box (ht rfl)) rfl ?_
  refine RG.alloc (r := rpDValue) (x := (⟨(0 : Int), (0 : Int), (0 : Int), []⟩ : DValue)) ti37 (fun _ => zrDValue _) rfl (fun b => ?_)
  refine RG.op (ok_assign hI) rfl ?_
  refine RG.nil ?_
  refine AT.next ?_
  refine CG.seq ?_
  refine CG.region ?_
  refine RG.op (ok_fieldAddr fd37_0 rfl flDValue_0 rfl (ht rfl)) rfl ?_
  refine RG.op (ok_load ti3 rfl rfl (ht rfl)) rfl ?_
  refine RG.op (ok_eqlI (ht rfl) hI) rfl ?_
  refine RG.op (ok_load ti4 rfl rfl (ht rfl)) rfl ?_
  refine RG.op (ok_eqlB Tryd.underlying4 (ht rfl) (ht rfl)) rfl ?_
  obtain ⟨r, q_r, h⟩ := bs h
  refine RG.op (ok_call cb70 (f70_ok _ q_r) ⟨(ht rfl), trivial⟩) rfl ?_
  refine RG.storeB ti37 rfl sfld_whole rfl (ht rfl) (ht rfl) ?_
  refine RG.settleB 5 rfl ?_
  refine RG.op (ok_assign hI) rfl ?_
  refine RG.nil ?_
  refine AT.next ?_
  refine CG.ret ?_
  cases so h
  exact AT.retL (rvs := [.cell 5 37, .tmp 6]) rfl rfl ⟨res_cell ti37 rfl rfl rfl, res_tmp rfl, trivial⟩

set_option maxRecDepth 100000 in
theorem f37_ok (is1 : Bool) {R : (DValue → DValue → Option (DValue × Int))} (h : expr_null is1 = some R) : Spec Tryd.prog 37 [tD rB is1] ((tFun Tryd.prog (fun (x : DValue × DValue) => [tD rpDValue x.1, tD rpDValue x.2]) (fun (x : DValue × Int) => tT [tD rpDValue x.1, tD (rI .i64) x.2]) (fun (x : DValue × DValue) => R x.1 x.2))) := by
  refine Spec.of Tryd.func37 rfl rfl rfl fun w0 S0 => ?_
  refine CG.seq ?_
  refine CG.region ?_
  refine RG.op (ok_box (ht rfl)) rfl ?_
  refine RG.op (ok_assign hV) rfl ?_
  refine RG.nil ?_
  refine AT.next ?_
  refine CG.seq ?_
  refine CG.region ?_
  refine RG.op ((show OpOK _ _ _ _ ((tFun Tryd.prog (fun (x : DValue × DValue) => [tD rpDValue x.1, tD rpDValue x.2]) (fun (x : DValue × Int) => tT [tD rpDValue x.1, tD (rI .i64) x.2]) (fun (x : DValue × DValue) => (expr_null_1 is1) x.1 x.2))) from ok_makeFunc (cts := [tPtr rB is1]) (caps := [.tmp 1]) cb69 ⟨(ht rfl), trivial⟩ (fun x y h => f69_ok _ _ _ h))) rfl ?_
  refine RG.op (ok_assign (ht rfl)) rfl ?_
  refine RG.nil ?_
  refine AT.next ?_
  refine CG.ret ?_
  cases so h
  exact AT.ret1 rfl rfl

set_option maxRecDepth 100000 in
theorem f72_ok (a1 : Int) (b : Int) {R : Int × Bool} (h : arith_Add_1 a1 b = some R) : Spec Tryd.prog 72 [tD (rI .i64) a1, tD (rI .i64) b] (tT [tD (rI .i64) R.1, tD rB R.2]) := by
  refine Spec.of Tryd.func72 rfl rfl rfl fun w0 S0 => ?_
  refine CG.seq ?_
  refine CG.region ?_
  refine RG.op (ok_assign hI) rfl ?_
  refine RG.op (ok_assign hB) rfl ?_
  refine RG.nil ?_
  refine AT.next ?_
  refine CG.seq ?_
  refine CG.region ?_
  refine RG.op (ok_move (ht rfl)) rfl ?_
  refine RG.op (ok_move (ht rfl)) rfl ?_
  refine RG.op (ok_add (ht rfl) (ht rfl)) rfl ?_
  refine RG.op (ok_assign (ht rfl)) rfl ?_
  refine RG.nil ?_
  refine AT.next ?_
  refine CG.seq ?_
  refine CG.region ?_
  refine RG.op (ok_move (ht rfl)) rfl ?_
  refine RG.op (ok_move (ht rfl)) rfl ?_
  refine RG.op (ok_move (ht rfl)) rfl ?_
  refine RG.op (ok_xor (ht rfl) (ht rfl)) rfl ?_
  refine RG.op (ok_move (ht rfl)) rfl ?_
  refine RG.op (ok_move (ht rfl)) rfl ?_
  refine RG.op (ok_xor (ht rfl) (ht rfl)) rfl ?_
  refine RG.op (ok_and (ht rfl) (ht rfl)) rfl ?_
  refine RG.op (ok_geq (ht rfl) hI) rfl ?_
  refine RG.op (ok_assign (ht rfl)) rfl ?_
  refine RG.op (ok_assign (ht rfl)) rfl ?_
  refine RG.nil ?_
  refine AT.next ?_
  refine CG.ret ?_
  cases so h
  exact AT.ret2 rfl rfl rfl

set_option maxRecDepth 100000 in
theorem f38_ok (a1 : DValue) (b : DValue) {R : DValue × Int} (h : arith_Add a1 b = some R) : Spec Tryd.prog 38 [tD rpDValue a1, tD rpDValue b] (tT [tD rpDValue R.1, tD (rI .i64) R.2]) := by
  refine Spec.of Tryd.func38 rfl rfl rfl fun w0 S0 => ?_
  refine CG.seq ?_
  refine CG.region ?_
  refine RG.op (ok_box (ht rfl)) rfl ?_
  refine RG.op (ok_box (ht rfl)) rfl ?_
  refine RG.alloc (r := rpDValue) (x := (⟨(0 : Int), (0 : Int), (0 : Int), []⟩ : DValue)) ti37 (fun _ => zrDValue _) rfl (fun b1 => ?_)
  refine RG.op (ok_assign hI) rfl ?_
  refine RG.nil ?_
  refine AT.next ?_
  refine CG.seq ?_
  refine CG.region ?_
  refine RG.op (ok_load ti37 rfl rfl (ht rfl)) rfl ?_
  refine RG.op (ok_load ti37 rfl rfl (ht rfl)) rfl ?_
  obtain ⟨r, q_r, h⟩ := bs h
  refine RG.op (ok_call cb71 (f71_ok _ _ _ q_r) ⟨(ht rfl), (ht rfl), (hFn cb72 fun x y h => f72_ok _ _ h), trivial⟩) rfl ?_
  refine RG.op (ok_extract rfl (ht rfl)) rfl ?_
  refine RG.op (ok_extract rfl (ht rfl)) rfl ?_
  refine RG.storeB ti37 rfl sfld_whole rfl (ht rfl) (ht rfl) ?_
  refine RG.settleB 4 rfl ?_
  refine RG.op (ok_assign (ht rfl)) rfl ?_
  refine RG.nil ?_
  refine AT.next ?_
  refine CG.ret ?_
  cases so h
  exact AT.retL (rvs := [.cell 4 37, .tmp 5]) rfl rfl ⟨res_cell ti37 rfl rfl rfl, res_tmp rfl, trivial⟩

set_option maxRecDepth 100000 in
theorem f75_ok (p : Int) (y : Int) {R : Int × Int} (h : math_bits_Mul64 p y = some R) : Spec Tryd.prog 75 [tD (rI .u64) p, tD (rI .u64) y] (tT [tD (rI .u64) R.1, tD (rI .u64) R.2]) := by
  refine Spec.of Tryd.func75 rfl rfl rfl fun w0 S0 => ?_
  refine CG.seq ?_
  refine CG.region ?_
  refine RG.op (ok_assign hI) rfl ?_
  refine RG.op (ok_assign hI) rfl ?_
  refine RG.nil ?_
  refine AT.next ?_
  refine CG.seq ?_
  refine CG.region ?_
  refine RG.op (ok_move (ht rfl)) rfl ?_
  refine RG.op (ok_and (ht rfl) hI) rfl ?_
  refine RG.op (ok_assign (ht rfl)) rfl ?_
  refine RG.nil ?_
  refine AT.next ?_
  refine CG.seq ?_
  refine CG.region ?_
  refine RG.op (ok_move (ht rfl)) rfl ?_
  refine RG.op (ok_shr (ht rfl) hI (by decide)) rfl ?_
  refine RG.op (ok_assign (ht rfl)) rfl ?_
  refine RG.nil ?_
  refine AT.next ?_
  refine CG.seq ?_
  refine CG.region ?_
  refine RG.op (ok_move (ht rfl)) rfl ?_
  refine RG.op (ok_and (ht rfl) hI) rfl ?_
  refine RG.op (ok_assign (ht rfl)) rfl ?_
  refine RG.nil ?_
  refine AT.next ?_
  refine CG.seq ?_
  refine CG.region ?_
  refine RG.op (ok_move (ht rfl)) rfl ?_
  refine RG.op (ok_shr (ht rfl) hI (by decide)) rfl ?_
  refine RG.op (ok_assign (ht rfl)) rfl ?_
  refine RG.nil ?_
  refine AT.next ?_
  refine CG.seq ?_
  refine CG.region ?_
  refine RG.op (ok_move (ht rfl)) rfl ?_
  refine RG.op (ok_move (ht rfl)) rfl ?_
  refine RG.op (ok_mul (ht rfl) (ht rfl)) rfl ?_
  refine RG.op (ok_assign (ht rfl)) rfl ?_
  refine RG.nil ?_
  refine AT.next ?_
  refine CG.seq ?_
  refine CG.region ?_
  refine RG.op (ok_move (ht rfl)) rfl ?_
  refine RG.op (ok_move (ht rfl)) rfl ?_
  refine RG.op (ok_mul (ht rfl) (ht rfl)) rfl ?_
  refine RG.op (ok_move (ht rfl)) rfl ?_
  refine RG.op (ok_shr (ht rfl) hI (by decide)) rfl ?_
  refine RG.op (ok_add (ht rfl) (ht rfl)) rfl ?_
  refine RG.op (ok_assign (ht rfl)) rfl ?_
  refine RG.nil ?_
  refine AT.next ?_
  refine CG.seq ?_
  refine CG.region ?_
  refine RG.op (ok_move (ht rfl)) rfl ?_
  refine RG.op (ok_and (ht rfl) hI) rfl ?_
  refine RG.op (ok_assign (ht rfl)) rfl ?_
  refine RG.nil ?_
  refine AT.next ?_
  refine CG.seq ?_
  refine CG.region ?_
  refine RG.op (ok_move (ht rfl)) rfl ?_
  refine RG.op (ok_shr (ht rfl) hI (by decide)) rfl ?_
  refine RG.op (ok_assign (ht rfl)) rfl ?_
  refine RG.nil ?_
  refine AT.next ?_
  refine CG.seq ?_
  refine CG.region ?_
  refine RG.op (ok_move (ht rfl)) rfl ?_
  refine RG.op (ok_move (ht rfl)) rfl ?_
  refine RG.op (ok_move (ht rfl)) rfl ?_
  refine RG.op (ok_mul (ht rfl) (ht rfl)) rfl ?_
  refine RG.op (ok_add (ht rfl) (ht rfl)) rfl ?_
  refine RG.op (ok_assign (ht rfl)) rfl ?_
  refine RG.nil ?_
  refine AT.next ?_
  refine CG.seq ?_
  refine CG.region ?_
  refine RG.op (ok_move (ht rfl)) rfl ?_
  refine RG.op (ok_move (ht rfl)) rfl ?_
  refine RG.op (ok_mul (ht rfl) (ht rfl)) rfl ?_
  refine RG.op (ok_move (ht rfl)) rfl ?_
  refine RG.op (ok_add (ht rfl) (ht rfl)) rfl ?_
  refine RG.op (ok_move (ht rfl)) rfl ?_
  refine RG.op (ok_shr (ht rfl) hI (by decide)) rfl ?_
  refine RG.op (ok_add (ht rfl) (ht rfl)) rfl ?_
  refine RG.op (ok_assign (ht rfl)) rfl ?_
  refine RG.nil ?_
  refine AT.next ?_
  refine CG.seq ?_
  refine CG.region ?_
  refine RG.op (ok_move (ht rfl)) rfl ?_
  refine RG.op (ok_move (ht rfl)) rfl ?_
  refine RG.op (ok_mul (ht rfl) (ht rfl)) rfl ?_
  refine RG.op (ok_assign (ht rfl)) rfl ?_
  refine RG.nil ?_
  refine AT.next ?_
  refine CG.ret ?_
  cases so h
  exact AT.ret2 rfl rfl rfl

set_option maxRecDepth 100000 in
theorem f76_ok (n : Int) {R : Int} (h : arith_size n = some R) : Spec Tryd.prog 76 [tD (rI .i64) n] (tD (rI .u64) R) := by
  refine Spec.of Tryd.func76 rfl rfl rfl fun w0 S0 => ?_
  refine CG.seq ?_
  refine CG.region ?_
  refine RG.op (ok_assign hI) rfl ?_
  refine RG.nil ?_
  refine AT.next ?_
  refine CG.seq ?_
  refine CG.seq ?_
  refine CG.region ?_
  refine RG.op (ok_move (ht rfl)) rfl ?_
  refine RG.op (ok_lss (ht rfl) hI) rfl ?_
  refine RG.nil ?_
  refine AT.next ?_
  refine CG.cond (ht rfl) (fun hc => ?_) (fun hc => ?_)
  · have h := ct h hc
    refine CG.seq ?_
    refine CG.region ?_
    refine RG.op (ok_move (ht rfl)) rfl ?_
    refine RG.op (ok_conv Tryd.underlying2 Tryd.underlying35 (ht rfl)) rfl ?_
    refine RG.op (ok_neg (ht rfl)) rfl ?_
    refine RG.op (ok_assign (ht rfl)) rfl ?_
    refine RG.nil ?_
    refine AT.next ?_
    refine CG.ret ?_
    refine AT.then_ret ?_
    cases so h
    exact AT.ret1 rfl rfl
  · have h := cf h hc
    refine CG.skip ?_
    refine AT.next ?_
    refine CG.seq ?_
    refine CG.region ?_
    refine RG.op (ok_move (ht rfl)) rfl ?_
    refine RG.op (ok_conv Tryd.underlying2 Tryd.underlying35 (ht rfl)) rfl ?_
    refine RG.op (ok_assign (ht rfl)) rfl ?_
    refine RG.nil ?_
    refine AT.next ?_
    refine CG.ret ?_
    cases so h
    exact AT.ret1 rfl rfl

set_option maxRecDepth 100000 in
theorem f77_ok (u : Int) (below : Bool) {R : Int × Bool} (h : arith_signed u below = some R) : Spec Tryd.prog 77 [tD (rI .u64) u, tD rB below] (tT [tD (rI .i64) R.1, tD rB R.2]) := by
  refine Spec.of Tryd.func77 rfl rfl rfl fun w0 S0 => ?_
  refine CG.seq ?_
  refine CG.region ?_
  refine RG.op (ok_assign hI) rfl ?_
  refine RG.op (ok_assign hB) rfl ?_
  refine RG.nil ?_
  refine AT.next ?_
  refine CG.seq ?_
  refine CG.seq ?_
  refine CG.region ?_
  refine RG.op (ok_move (ht rfl)) rfl ?_
  refine RG.nil ?_
  refine AT.next ?_
  refine CG.cond (ht rfl) (fun hc => ?_) (fun hc => ?_)
  · have h := ct h hc
    refine CG.seq ?_
    refine CG.region ?_
    refine RG.op (ok_move (ht rfl)) rfl ?_
    refine RG.op (ok_neg (ht rfl)) rfl ?_
    refine RG.op (ok_conv Tryd.underlying35 Tryd.underlying2 (ht rfl)) rfl ?_
    refine RG.op (ok_move (ht rfl)) rfl ?_
    refine RG.op (ok_leq (ht rfl) hI) rfl ?_
    refine RG.op (ok_assign (ht rfl)) rfl ?_
    refine RG.op (ok_assign (ht rfl)) rfl ?_
    refine RG.nil ?_
    refine AT.next ?_
    refine CG.ret ?_
    refine AT.then_ret ?_
    cases so h
    exact AT.ret2 rfl rfl rfl
  · have h := cf h hc
    refine CG.skip ?_
    refine AT.next ?_
    refine CG.seq ?_
    refine CG.region ?_
    refine RG.op (ok_move (ht rfl)) rfl ?_
    refine RG.op (ok_conv Tryd.underlying35 Tryd.underlying2 (ht rfl)) rfl ?_
    refine RG.op (ok_move (ht rfl)) rfl ?_
    refine RG.op (ok_leq (ht rfl) hI) rfl ?_
    refine RG.op (ok_assign (ht rfl)) rfl ?_
    refine RG.op (ok_assign (ht rfl)) rfl ?_
    refine RG.nil ?_
    refine AT.next ?_
    refine CG.ret ?_
    cases so h
    exact AT.ret2 rfl rfl rfl

set_option maxRecDepth 100000 in
theorem f74_ok (a1 : Int) (b : Int) {R : Int × Bool} (h : arith_Mul_1 a1 b = some R) : Spec Tryd.prog 74 [tD (rI .i64) a1, tD (rI .i64) b] (tT [tD (rI .i64) R.1, tD rB R.2]) := by
  refine Spec.of Tryd.func74 rfl rfl rfl fun w0 S0 => ?_
  refine CG.seq ?_
  refine CG.region ?_
  refine RG.op (ok_assign hI) rfl ?_
  refine RG.op (ok_assign hB) rfl ?_
  refine RG.nil ?_
  refine AT.next ?_
  refine CG.seq ?_
  refine CG.region ?_
  refine RG.op (ok_move (ht rfl)) rfl ?_
  obtain ⟨r, q_r, h⟩ := bs h
  refine RG.op (ok_call cb76 (f76_ok _ q_r) ⟨(ht rfl), trivial⟩) rfl ?_
  refine RG.op (ok_move (ht rfl)) rfl ?_
  obtain ⟨r1, q_r1, h⟩ := bs h
  refine RG.op (ok_call cb76 (f76_ok _ q_r1) ⟨(ht rfl), trivial⟩) rfl ?_
  obtain ⟨r2, q_r2, h⟩ := bs h
  refine RG.op (ok_call cb75 (f75_ok _ _ q_r2) ⟨(ht rfl), (ht rfl), trivial⟩) rfl ?_
  refine RG.op (ok_move (ht rfl)) rfl ?_
  refine RG.op (ok_extract rfl (ht rfl)) rfl ?_
  refine RG.op (ok_extract rfl (ht rfl)) rfl ?_
  refine RG.op (ok_assign (ht rfl)) rfl ?_
  refine RG.op (ok_assign (ht rfl)) rfl ?_
  refine RG.nil ?_
  refine AT.next ?_
  refine CG.seq ?_
  refine CG.region ?_
  refine RG.op (ok_move (ht rfl)) rfl ?_
  refine RG.op (ok_move (ht rfl)) rfl ?_
  refine RG.op (ok_lss (ht rfl) hI) rfl ?_
  refine RG.op (ok_move (ht rfl)) rfl ?_
  refine RG.op (ok_lss (ht rfl) hI) rfl ?_
  refine RG.op (ok_neqB Tryd.underlying4 (ht rfl) (ht rfl)) rfl ?_
  obtain ⟨r3, q_r3, h⟩ := bs h
  refine RG.op (ok_call cb77 (f77_ok _ _ q_r3) ⟨(ht rfl), (ht rfl), trivial⟩) rfl ?_
  refine RG.op (ok_move (ht rfl)) rfl ?_
  refine RG.op (ok_extract rfl (ht rfl)) rfl ?_
  refine RG.op (ok_extract rfl (ht rfl)) rfl ?_
  refine RG.op (ok_assign (ht rfl)) rfl ?_
  refine RG.op (ok_assign (ht rfl)) rfl ?_
  refine RG.nil ?_
  refine AT.next ?_
  refine CG.seq ?_
  refine CG.region ?_
  refine RG.op (ok_move (ht rfl)) rfl ?_
  refine RG.op (ok_move (ht rfl)) rfl ?_
  refine RG.op (ok_move (ht rfl)) rfl ?_
  refine RG.opGt rfl rfl rfl rfl (fun hg => ok_move (ht rfl)) ?_
  refine RG.opGt rfl rfl rfl rfl (fun hg => ok_eqlI (htO rfl hg) hI) ?_
  refine RG.op (ok_pickAnd (ht rfl) (fun hb => (htO rfl hb))) rfl ?_
  refine RG.op (ok_assign (ht rfl)) rfl ?_
  refine RG.op (ok_assign (ht rfl)) rfl ?_
  refine RG.nil ?_
  refine AT.next ?_
  refine CG.ret ?_
  cases so h
  exact AT.ret2 rfl rfl rfl

set_option maxRecDepth 100000 in
theorem f40_ok (a1 : DValue) (b : DValue) {R : DValue × Int} (h : arith_Mul a1 b = some R) : Spec Tryd.prog 40 [tD rpDValue a1, tD rpDValue b] (tT [tD rpDValue R.1, tD (rI .i64) R.2]) := by
  refine Spec.of Tryd.func40 rfl rfl rfl fun w0 S0 => ?_
  refine CG.seq ?_
  refine CG.region ?_
  refine RG.op (ok_box (ht rfl)) rfl ?_
  refine RG.op (ok_box (ht rfl)) rfl ?_
  refine RG.alloc (r := rpDValue) (x := (⟨(0 : Int), (0 : Int), (0 : Int), []⟩ : DValue)) ti37 (fun _ => zrDValue _) rfl (fun b1 => ?_)
  refine RG.op (ok_assign hI) rfl ?_
  refine RG.nil ?_
  refine AT.next ?_
  refine CG.seq ?_
  refine CG.region ?_
  refine RG.op (ok_load ti37 rfl rfl (ht rfl)) rfl ?_
  refine RG.op (ok_load ti37 rfl rfl (ht rfl)) rfl ?_
  obtain ⟨r, q_r, h⟩ := bs h
  refine RG.op (ok_call cb71 (f71_ok _ _ _ q_r) ⟨(ht rfl), (ht rfl), (hFn cb74 fun x y h => f74_ok _ _ h), trivial⟩) rfl ?_
  refine RG.op (ok_extract rfl (ht rfl)) rfl ?_
  refine RG.op (ok_extract rfl (ht rfl)) rfl ?_
  refine RG.storeB ti37 rfl sfld_whole rfl (ht rfl) (ht rfl) ?_
  refine RG.settleB 4 rfl ?_
  refine RG.op (ok_assign (ht rfl)) rfl ?_
  refine RG.nil ?_
  refine AT.next ?_
  refine CG.ret ?_
  cases so h
  exact AT.retL (rvs := [.cell 4 37, .tmp 5]) rfl rfl ⟨res_cell ti37 rfl rfl rfl, res_tmp rfl, trivial⟩

set_option maxRecDepth 100000 in
theorem f78_ok (a1 : Int) (b : Int) {R : Int × Bool} (h : arith_Div_1 a1 b = some R) : Spec Tryd.prog 78 [tD (rI .i64) a1, tD (rI .i64) b] (tT [tD (rI .i64) R.1, tD rB R.2]) := by
  refine Spec.of Tryd.func78 rfl rfl rfl fun w0 S0 => ?_
  refine CG.seq ?_
  refine CG.region ?_
  refine RG.op (ok_assign hI) rfl ?_
  refine RG.op (ok_assign hB) rfl ?_
  refine RG.nil ?_
  refine AT.next ?_
  refine CG.seq ?_
  refine CG.seq ?_
  refine CG.region ?_
  refine RG.op (ok_move (ht rfl)) rfl ?_
  refine RG.op (ok_eqlI (ht rfl) hI) rfl ?_
  refine RG.nil ?_
  refine AT.next ?_
  refine CG.cond (ht rfl) (fun hc => ?_) (fun hc => ?_)
  · have h := ct h hc
    refine CG.seq ?_
    refine CG.region ?_
    refine RG.op (ok_assign hI) rfl ?_
    refine RG.op (ok_assign hB) rfl ?_
    refine RG.nil ?_
    refine AT.next ?_
    refine CG.ret ?_
    refine AT.then_ret ?_
    cases so h
    exact AT.ret2 rfl rfl rfl
  · have h := cf h hc
    refine CG.skip ?_
    refine AT.next ?_
    refine CG.seq ?_
    refine CG.region ?_
    refine RG.op (ok_move (ht rfl)) rfl ?_
    obtain ⟨r, q_r, h⟩ := bs h
    refine RG.op (ok_call cb76 (f76_ok _ q_r) ⟨(ht rfl), trivial⟩) rfl ?_
    refine RG.op (ok_move (ht rfl)) rfl ?_
    obtain ⟨r1, q_r1, h⟩ := bs h
    refine RG.op (ok_call cb76 (f76_ok _ q_r1) ⟨(ht rfl), trivial⟩) rfl ?_
    obtain ⟨u, q_u, h⟩ := bs h
    refine RG.op (ok_quo (ht rfl) (ht rfl) (nz_some q_u)) rfl ?_
    refine RG.op (ok_move (ht rfl)) rfl ?_
    refine RG.op (ok_lss (ht rfl) hI) rfl ?_
    refine RG.op (ok_move (ht rfl)) rfl ?_
    refine RG.op (ok_lss (ht rfl) hI) rfl ?_
    refine RG.op (ok_neqB Tryd.underlying4 (ht rfl) (ht rfl)) rfl ?_
    obtain ⟨r2, q_r2, h⟩ := bs h
    refine RG.op (ok_call cb77 (f77_ok _ _ q_r2) ⟨(ht rfl), (ht rfl), trivial⟩) rfl ?_
    refine RG.op (ok_extract rfl (ht rfl)) rfl ?_
    refine RG.op (ok_extract rfl (ht rfl)) rfl ?_
    refine RG.op (ok_assign (ht rfl)) rfl ?_
    refine RG.op (ok_assign (ht rfl)) rfl ?_
    refine RG.nil ?_
    refine AT.next ?_
    refine CG.ret ?_
    cases so h
    exact AT.ret2 rfl rfl rfl

set_option maxRecDepth 100000 in
theorem f41_ok (a1 : DValue) (b : DValue) {R : DValue × Int} (h : arith_Div a1 b = some R) : Spec Tryd.prog 41 [tD rpDValue a1, tD rpDValue b] (tT [tD rpDValue R.1, tD (rI .i64) R.2]) := by
  refine Spec.of Tryd.func41 rfl rfl rfl fun w0 S0 => ?_
  refine CG.seq ?_
  refine CG.region ?_
  refine RG.op (ok_box (ht rfl)) rfl ?_
  refine RG.op (ok_box (ht rfl)) rfl ?_
  refine RG.alloc (r := rpDValue) (x := (⟨(0 : Int), (0 : Int), (0 : Int), []⟩ : DValue)) ti37 (fun _ => zrDValue _) rfl (fun b1 => ?_)
  refine RG.op (ok_assign hI) rfl ?_
  refine RG.nil ?_
  refine AT.next ?_
  refine CG.seq ?_
  refine CG.region ?_
  refine RG.op (ok_load ti37 rfl rfl (ht rfl)) rfl ?_
  refine RG.op (ok_load ti37 rfl rfl (ht rfl)) rfl ?_
  obtain ⟨r, q_r, h⟩ := bs h
  refine RG.op (ok_call cb71 (f71_ok _ _ _ q_r) ⟨(ht rfl), (ht rfl), (hFn cb78 fun x y h => f78_ok _ _ h), trivial⟩) rfl ?_
  refine RG.op (ok_extract rfl (ht rfl)) rfl ?_
  refine RG.op (ok_extract rfl (ht rfl)) rfl ?_
  refine RG.storeB ti37 rfl sfld_whole rfl (ht rfl) (ht rfl) ?_
  refine RG.settleB 4 rfl ?_
  refine RG.op (ok_assign (ht rfl)) rfl ?_
  refine RG.nil ?_
  refine AT.next ?_
  refine CG.ret ?_
  cases so h
  exact AT.retL (rvs := [.cell 4 37, .tmp 5]) rfl rfl ⟨res_cell ti37 rfl rfl rfl, res_tmp rfl, trivial⟩

set_option maxRecDepth 100000 in
theorem f79_ok (c : Int) {R : Bool} (h : value_Equal_1 c = some R) : Spec Tryd.prog 79 [tD (rI .i64) c] (tD rB R) := by
  refine Spec.of Tryd.func79 rfl rfl rfl fun w0 S0 => ?_
  refine CG.seq ?_
  refine CG.region ?_
  refine RG.op (ok_assign hB) rfl ?_
  refine RG.nil ?_
  refine AT.next ?_
  refine CG.seq ?_
  refine CG.region ?_
  refine RG.op (ok_move (ht rfl)) rfl ?_
  refine RG.op (ok_eqlI (ht rfl) hI) rfl ?_
  refine RG.op (ok_assign (ht rfl)) rfl ?_
  refine RG.nil ?_
  refine AT.next ?_
  refine CG.ret ?_
  cases so h
  exact AT.ret1 rfl rfl

set_option maxRecDepth 100000 in
theorem f42_ok (a1 : DValue) (b : DValue) {R : DValue × Int} (h : value_Equal a1 b = some R) : Spec Tryd.prog 42 [tD rpDValue a1, tD rpDValue b] (tT [tD rpDValue R.1, tD (rI .i64) R.2]) := by
  refine Spec.of Tryd.func42 rfl rfl rfl fun w0 S0 => ?_
  refine CG.seq ?_
  refine CG.region ?_
  refine RG.op (ok_box (ht rfl)) rfl ?_
  refine RG.op (ok_box (ht rfl)) rfl ?_
  refine RG.alloc (r := rpDValue) (x := (⟨(0 : Int), (0 : Int), (0 : Int), []⟩ : DValue)) ti37 (fun _ => zrDValue _) rfl (fun b1 => ?_)
  refine RG.op (ok_assign hI) rfl ?_
  refine RG.nil ?_
  refine AT.next ?_
  refine CG.seq ?_
  refine CG.region ?_
  refine RG.op (ok_load ti37 rfl rfl (ht rfl)) rfl ?_
  refine RG.op (ok_load ti37 rfl rfl (ht rfl)) rfl ?_
  obtain ⟨r, q_r, h⟩ := bs h
  refine RG.op (ok_call cb63 (f63_ok _ _ _ q_r) ⟨(ht rfl), (ht rfl), (hFn cb79 fun x y h => f79_ok _ h), trivial⟩) rfl ?_
  refine RG.op (ok_extract rfl (ht rfl)) rfl ?_
  refine RG.op (ok_extract rfl (ht rfl)) rfl ?_
  refine RG.storeB ti37 rfl sfld_whole rfl (ht rfl) (ht rfl) ?_
  refine RG.settleB 4 rfl ?_
  refine RG.op (ok_assign (ht rfl)) rfl ?_
  refine RG.nil ?_
  refine AT.next ?_
  refine CG.ret ?_
  cases so h
  exact AT.retL (rvs := [.cell 4 37, .tmp 5]) rfl rfl ⟨res_cell ti37 rfl rfl rfl, res_tmp rfl, trivial⟩

set_option maxRecDepth 100000 in
theorem f80_ok (do1 : (DValue → DValue → Option (DValue × Int))) (a1 : DValue) (b : DValue) {R : DValue × Int} (h : expr_not_1 do1 a1 b = some R) : Spec Tryd.prog 80 [tD rpDValue a1, tD rpDValue b, tPtr (rT ((tFun Tryd.prog (fun (x : DValue × DValue) => [tD rpDValue x.1, tD rpDValue x.2]) (fun (x : DValue × Int) => tT [tD rpDValue x.1, tD (rI .i64) x.2]) (fun (x : DValue × DValue) => do1 x.1 x.2)))) ()] (tT [tD rpDValue R.1, tD (rI .i64) R.2]) := by
  refine Spec.of Tryd.func80 rfl rfl rfl fun w0 S0 => ?_
  refine CG.seq ?_
  refine CG.region ?_
  refine RG.op (ok_box (ht rfl)) rfl ?_
  refine RG.op (ok_box (ht rfl)) rfl ?_
  refine RG.alloc (r := rpDValue) (x := (⟨(0 : Int), (0 : Int), (0 : Int), []⟩ : DValue)) ti37 (fun _ => zrDValue _) rfl (fun b1 => ?_)
  refine RG.op (ok_assign hI) rfl ?_
  refine RG.nil ?_
  refine AT.next ?_
  refine CG.seq ?_
  refine CG.region ?_
  refine RG.op (ok_loadF ti61 (ht rfl)) rfl ?_
  refine RG.op (ok_load ti37 rfl rfl (ht rfl)) rfl ?_
  refine RG.op (ok_load ti37 rfl rfl (ht rfl)) rfl ?_
  obtain ⟨r, q_r, h⟩ := bs h
  refine RG.op (ok_callV (args := (fun (x : DValue × DValue) => [tD rpDValue x.1, tD rpDValue x.2])) (res := (fun (x : DValue × Int) => tT [tD rpDValue x.1, tD (rI .i64) x.2])) (f := (fun (x : DValue × DValue) => do1 x.1 x.2)) (x := ((a1, b) : DValue × DValue)) (ht rfl) q_r ⟨(ht rfl), (ht rfl), trivial⟩) rfl ?_
  refine RG.op (ok_move (ht rfl)) rfl ?_
  refine RG.op (ok_extract rfl (ht rfl)) rfl ?_
  refine RG.op (ok_extract rfl (ht rfl)) rfl ?_
  refine RG.alloc (r := rpDValue) (x := (⟨(0 : Int), (0 : Int), (0 : Int), []⟩ : DValue)) ti37 (fun _ => zrDValue _) rfl (fun b2 => ?_)
  refine RG.storeB ti37 rfl sfld_whole rfl (ht rfl) (ht rfl) ?_
  refine RG.settleB 7 rfl ?_
  refine RG.op (ok_assign (ht rfl)) rfl ?_
  refine RG.nil ?_
  refine AT.next ?_
  refine CG.seq ?_
  refine CG.seq ?_
  refine CG.region ?_
  refine RG.op (ok_move (ht rfl)) rfl ?_
  refine RG.op (ok_neqI (ht rfl) hI) rfl ?_
  refine RG.nil ?_
  refine AT.next ?_
  refine CG.cond (ht rfl) (fun hc => ?_) (fun hc => ?_)
  · have h := ct h hc
    refine CG.seq ?_
    refine CG.region ?_
    refine RG.op (ok_load ti37 rfl rfl (ht rfl)) rfl ?_
    refine RG.op (ok_move (ht rfl)) rfl ?_
    refine RG.storeB ti37 rfl sfld_whole rfl (ht rfl) (ht rfl) ?_
    refine RG.op (ok_assign (ht rfl)) rfl ?_
    refine RG.nil ?_
    refine AT.next ?_
    refine CG.ret ?_
    refine AT.then_ret ?_
    refine AT.settleB 5 rfl ?_
    cases so h
    exact AT.retL (rvs := [.cell 5 37, .tmp 6]) rfl rfl ⟨res_cell ti37 rfl rfl rfl, res_tmp rfl, trivial⟩
  · have h := cf h hc
    refine CG.skip ?_
    refine AT.next ?_
    refine CG.seq ?_
    refine CG.region ?_
    refine RG.op (ok_load ti37 rfl rfl (ht rfl)) rfl ?_
    obtain ⟨r1, q_r1, h⟩ := bs h
    refine RG.op (ok_call cb36 (f36_ok _ q_r1) ⟨(ht rfl), trivial⟩) rfl ?_
    refine RG.op (ok_extract rfl (ht rfl)) rfl ?_
    refine RG.op (ok_extract rfl (ht rfl)) rfl ?_
    refine RG.storeB ti37 rfl sfld_whole rfl (ht rfl) (ht rfl) ?_
    refine RG.op (ok_assign (ht rfl)) rfl ?_
    refine RG.nil ?_
    refine AT.next ?_
    refine CG.ret ?_
    refine AT.settleB 5 rfl ?_
    cases so h
    exact AT.retL (rvs := [.cell 5 37, .tmp 6]) rfl rfl ⟨res_cell ti37 rfl rfl rfl, res_tmp rfl, trivial⟩

set_option maxRecDepth 100000 in
theorem f43_ok (do1 : (DValue → DValue → Option (DValue × Int))) {R : (DValue → DValue → Option (DValue × Int))} (h : expr_not do1 = some R) : Spec Tryd.prog 43 [(tFun Tryd.prog (fun (x : DValue × DValue) => [tD rpDValue x.1, tD rpDValue x.2]) (fun (x : DValue × Int) => tT [tD rpDValue x.1, tD (rI .i64) x.2]) (fun (x : DValue × DValue) => do1 x.1 x.2))] ((tFun Tryd.prog (fun (x : DValue × DValue) => [tD rpDValue x.1, tD rpDValue x.2]) (fun (x : DValue × Int) => tT [tD rpDValue x.1, tD (rI .i64) x.2]) (fun (x : DValue × DValue) => R x.1 x.2))) := by
  refine Spec.of Tryd.func43 rfl rfl rfl fun w0 S0 => ?_
  refine CG.seq ?_
  refine CG.region ?_
  refine RG.op (ok_boxF (ht rfl)) rfl ?_
  refine RG.op (ok_assign hV) rfl ?_
  refine RG.nil ?_
  refine AT.next ?_
  refine CG.seq ?_
  refine CG.region ?_
  refine RG.op ((show OpOK _ _ _ _ ((tFun Tryd.prog (fun (x : DValue × DValue) => [tD rpDValue x.1, tD rpDValue x.2]) (fun (x : DValue × Int) => tT [tD rpDValue x.1, tD (rI .i64) x.2]) (fun (x : DValue × DValue) => (expr_not_1 do1) x.1 x.2))) from ok_makeFunc (cts := [tPtr (rT ((tFun Tryd.prog (fun (x : DValue × DValue) => [tD rpDValue x.1, tD rpDValue x.2]) (fun (x : DValue × Int) => tT [tD rpDValue x.1, tD (rI .i64) x.2]) (fun (x : DValue × DValue) => do1 x.1 x.2)))) ()]) (caps := [.tmp 1]) cb80 ⟨(ht rfl), trivial⟩ (fun x y h => f80_ok _ _ _ h))) rfl ?_
  refine RG.op (ok_assign (ht rfl)) rfl ?_
  refine RG.nil ?_
  refine AT.next ?_
  refine CG.ret ?_
  cases so h
  exact AT.ret1 rfl rfl

set_option maxRecDepth 100000 in
theorem f81_ok (l : (List Int)) {R : Int} (h : value_And_1 l = some R) : Spec Tryd.prog 81 [tD (rSl (rI .i64)) l] (tD (rI .i64) R) := by
  refine Spec.of Tryd.func81 rfl rfl rfl fun w0 S0 => ?_
  refine CG.seq ?_
  refine CG.region ?_
  refine RG.op (ok_assign hI) rfl ?_
  refine RG.nil ?_
  refine AT.next ?_
  refine CG.seq ?_
  obtain ⟨e, q_e, h⟩ := bs h
  obtain ⟨e1, q_e1, h⟩ := bs h
  refine CG.draw (ts := [tD (rSl (rI .i64)) l, tPtr (rI .i64) e, tD (rI .i64) e, tD (rSl (rI .i64)) l, tPtr (rI .i64) e1, tD (rI .i64) e1, tD (rI .i64) (min e e1), tD (rI .i64) (min e e1)]) mixed rfl rfl
    ⟨⟨[⟨0, _, none⟩], _, rfl, ⟨rfl, trivial⟩, rfl, rfl, OpG.plain rfl (ok_move (ht rfl))⟩,
    ⟨⟨[⟨3, _, some 0⟩], _, rfl, ⟨rfl, trivial⟩, rfl, rfl, OpG.plain rfl (ok_indexAddr Tryd.underlying33 ti3 rfl (ht rfl) hI q_e)⟩,
    ⟨⟨[⟨4, _, some 1⟩], _, rfl, ⟨rfl, trivial⟩, rfl, rfl, OpG.plain rfl (ok_load ti3 rfl rfl (ht rfl))⟩,
    ⟨⟨[⟨0, _, none⟩], _, rfl, ⟨rfl, trivial⟩, rfl, rfl, OpG.plain rfl (ok_move (ht rfl))⟩,
    ⟨⟨[⟨6, _, some 3⟩], _, rfl, ⟨rfl, trivial⟩, rfl, rfl, OpG.plain rfl (ok_indexAddr Tryd.underlying33 ti3 rfl (ht rfl) hI q_e1)⟩,
    ⟨⟨[⟨7, _, some 4⟩], _, rfl, ⟨rfl, trivial⟩, rfl, rfl, OpG.plain rfl (ok_load ti3 rfl rfl (ht rfl))⟩,
    ⟨⟨[⟨5, _, some 2⟩, ⟨8, _, some 5⟩], _, rfl, ⟨rfl, rfl, trivial⟩, rfl, rfl, OpG.plain rfl (ok_min2 (ht rfl) (ht rfl))⟩,
    ⟨⟨[⟨9, _, some 6⟩], _, rfl, ⟨rfl, trivial⟩, rfl, rfl, OpG.plain rfl (ok_assign (ht rfl))⟩,
    trivial⟩⟩⟩⟩⟩⟩⟩⟩ ?_
  refine AT.next ?_
  refine CG.ret ?_
  cases so h
  exact AT.ret1 rfl rfl

set_option maxRecDepth 100000 in
theorem f44_ok (a1 : DValue) (b : DValue) {R : DValue × Int} (h : value_And a1 b = some R) : Spec Tryd.prog 44 [tD rpDValue a1, tD rpDValue b] (tT [tD rpDValue R.1, tD (rI .i64) R.2]) := by
  refine Spec.of Tryd.func44 rfl rfl rfl fun w0 S0 => ?_
  refine CG.seq ?_
  refine CG.region ?_
  refine RG.op (ok_box (ht rfl)) rfl ?_
  refine RG.op (ok_box (ht rfl)) rfl ?_
  refine RG.alloc (r := rpDValue) (x := (⟨(0 : Int), (0 : Int), (0 : Int), []⟩ : DValue)) ti37 (fun _ => zrDValue _) rfl (fun b1 => ?_)
  refine RG.op (ok_assign hI) rfl ?_
  refine RG.nil ?_
  refine AT.next ?_
  refine CG.seq ?_
  refine CG.region ?_
  refine RG.op (ok_load ti37 rfl rfl (ht rfl)) rfl ?_
  refine RG.op (ok_load ti37 rfl rfl (ht rfl)) rfl ?_
  refine RG.op (ok_buildSlice (r := rpDValue) (ys := [a1, b]) (xs := [.tmp 6, .tmp 7]) Tryd.underlying25 ti37 rfl rfl rfl rfl rfl ⟨(ht rfl), (ht rfl), trivial⟩) rfl ?_
  obtain ⟨r, q_r, h⟩ := bs h
  refine RG.op (ok_call cb67 (f67_ok _ _ q_r) ⟨(hFn cb81 fun x y h => f81_ok _ h), (ht rfl), trivial⟩) rfl ?_
  refine RG.op (ok_extract rfl (ht rfl)) rfl ?_
  refine RG.op (ok_extract rfl (ht rfl)) rfl ?_
  refine RG.storeB ti37 rfl sfld_whole rfl (ht rfl) (ht rfl) ?_
  refine RG.settleB 4 rfl ?_
  refine RG.op (ok_assign (ht rfl)) rfl ?_
  refine RG.nil ?_
  refine AT.next ?_
  refine CG.ret ?_
  cases so h
  exact AT.retL (rvs := [.cell 4 37, .tmp 5]) rfl rfl ⟨res_cell ti37 rfl rfl rfl, res_tmp rfl, trivial⟩

set_option maxRecDepth 100000 in
theorem f82_ok (l : (List Int)) {R : Int} (h : value_Or_1 l = some R) : Spec Tryd.prog 82 [tD (rSl (rI .i64)) l] (tD (rI .i64) R) := by
  refine Spec.of Tryd.func82 rfl rfl rfl fun w0 S0 => ?_
  refine CG.seq ?_
  refine CG.region ?_
  refine RG.op (ok_assign hI) rfl ?_
  refine RG.nil ?_
  refine AT.next ?_
  refine CG.seq ?_
  obtain ⟨e, q_e, h⟩ := bs h
  obtain ⟨e1, q_e1, h⟩ := bs h
  refine CG.draw (ts := [tD (rSl (rI .i64)) l, tPtr (rI .i64) e, tD (rI .i64) e, tD (rSl (rI .i64)) l, tPtr (rI .i64) e1, tD (rI .i64) e1, tD (rI .i64) (max e e1), tD (rI .i64) (max e e1)]) mixed rfl rfl
    ⟨⟨[⟨0, _, none⟩], _, rfl, ⟨rfl, trivial⟩, rfl, rfl, OpG.plain rfl (ok_move (ht rfl))⟩,
    ⟨⟨[⟨3, _, some 0⟩], _, rfl, ⟨rfl, trivial⟩, rfl, rfl, OpG.plain rfl (ok_indexAddr Tryd.underlying33 ti3 rfl (ht rfl) hI q_e)⟩,
    ⟨⟨[⟨4, _, some 1⟩], _, rfl, ⟨rfl, trivial⟩, rfl, rfl, OpG.plain rfl (ok_load ti3 rfl rfl (ht rfl))⟩,
    ⟨⟨[⟨0, _, none⟩], _, rfl, ⟨rfl, trivial⟩, rfl, rfl, OpG.plain rfl (ok_move (ht rfl))⟩,
    ⟨⟨[⟨6, _, some 3⟩], _, rfl, ⟨rfl, trivial⟩, rfl, rfl, OpG.plain rfl (ok_indexAddr Tryd.underlying33 ti3 rfl (ht rfl) hI q_e1)⟩,
    ⟨⟨[⟨7, _, some 4⟩], _, rfl, ⟨rfl, trivial⟩, rfl, rfl, OpG.plain rfl (ok_load ti3 rfl rfl (ht rfl))⟩,
    ⟨⟨[⟨5, _, some 2⟩, ⟨8, _, some 5⟩], _, rfl, ⟨rfl, rfl, trivial⟩, rfl, rfl, OpG.plain rfl (ok_max2 (ht rfl) (ht rfl))⟩,
    ⟨⟨[⟨9, _, some 6⟩], _, rfl, ⟨rfl, trivial⟩, rfl, rfl, OpG.plain rfl (ok_assign (ht rfl))⟩,
    trivial⟩⟩⟩⟩⟩⟩⟩⟩ ?_
  refine AT.next ?_
  refine CG.ret ?_
  cases so h
  exact AT.ret1 rfl rfl

set_option maxRecDepth 100000 in
theorem f45_ok (a1 : DValue) (b : DValue) {R : DValue × Int} (h : value_Or a1 b = some R) : Spec Tryd.prog 45 [tD rpDValue a1, tD rpDValue b] (tT [tD rpDValue R.1, tD (rI .i64) R.2]) := by
  refine Spec.of Tryd.func45 rfl rfl rfl fun w0 S0 => ?_
  refine CG.seq ?_
  refine CG.region ?_
  refine RG.op (ok_box (ht rfl)) rfl ?_
  refine RG.op (ok_box (ht rfl)) rfl ?_
  refine RG.alloc (r := rpDValue) (x := (⟨(0 : Int), (0 : Int), (0 : Int), []⟩ : DValue)) ti37 (fun _ => zrDValue _) rfl (fun b1 => ?_)
  refine RG.op (ok_assign hI) rfl ?_
  refine RG.nil ?_
  refine AT.next ?_
  refine CG.seq ?_
  refine CG.region ?_
  refine RG.op (ok_load ti37 rfl rfl (ht rfl)) rfl ?_
  refine RG.op (ok_load ti37 rfl rfl (ht rfl)) rfl ?_
  refine RG.op (ok_buildSlice (r := rpDValue) (ys := [a1, b]) (xs := [.tmp 6, .tmp 7]) Tryd.underlying25 ti37 rfl rfl rfl rfl rfl ⟨(ht rfl), (ht rfl), trivial⟩) rfl ?_
  obtain ⟨r, q_r, h⟩ := bs h
  refine RG.op (ok_call cb67 (f67_ok _ _ q_r) ⟨(hFn cb82 fun x y h => f82_ok _ h), (ht rfl), trivial⟩) rfl ?_
  refine RG.op (ok_extract rfl (ht rfl)) rfl ?_
  refine RG.op (ok_extract rfl (ht rfl)) rfl ?_
  refine RG.storeB ti37 rfl sfld_whole rfl (ht rfl) (ht rfl) ?_
  refine RG.settleB 4 rfl ?_
  refine RG.op (ok_assign (ht rfl)) rfl ?_
  refine RG.nil ?_
  refine AT.next ?_
  refine CG.ret ?_
  cases so h
  exact AT.retL (rvs := [.cell 4 37, .tmp 5]) rfl rfl ⟨res_cell ti37 rfl rfl rfl, res_tmp rfl, trivial⟩

set_option maxRecDepth 100000 in
theorem f20_ok {R : (List (Int × (DValue → DValue → Option (DValue × Int))))} (h : expr_does = some R) : Spec Tryd.prog 20 [] (tMp (fun y : (DValue → DValue → Option (DValue × Int)) => tFn Tryd.prog (fun (x : DValue × DValue) => [tD rpDValue x.1, tD rpDValue x.2]) (fun (x : DValue × Int) => tT [tD rpDValue x.1, tD (rI .i64) x.2]) (fun (x : DValue × DValue) => y x.1 x.2)) (kvI .i64) R) := by
  refine Spec.of Tryd.func20 rfl rfl rfl fun w0 S0 => ?_
  refine CG.seq ?_
  refine CG.region ?_
  refine RG.op (ok_assign (show HasTy _ _ (.const (.map none)) (tV (.map none)) from fun _ _ _ => rfl)) rfl ?_
  refine RG.nil ?_
  refine AT.next ?_
  refine CG.seq ?_
  refine CG.region ?_
  obtain ⟨r, q_r, h⟩ := bs h
  refine RG.op (ok_call cb32 (f32_ok _ q_r) ⟨(hFn cb33 fun x y h => f33_ok _ _ h), trivial⟩) rfl ?_
  refine RG.op (ok_assign (ht rfl)) rfl ?_
  refine RG.nil ?_
  refine AT.next ?_
  refine CG.seq ?_
  refine CG.region ?_
  refine RG.makeMap (mvY (fun y : (DValue → DValue → Option (DValue × Int)) => tFn Tryd.prog (fun (x : DValue × DValue) => [tD rpDValue x.1, tD rpDValue x.2]) (fun (x : DValue × Int) => tT [tD rpDValue x.1, tD (rI .i64) x.2]) (fun (x : DValue × DValue) => y x.1 x.2))) (kvI .i64) rfl (fun b => ?_)
  obtain ⟨r1, q_r1, h⟩ := bs h
  refine RG.op (ok_call cb34 (f34_ok _ q_r1) ⟨(hFn cb35 fun x y h => f35_ok _ h), trivial⟩) rfl ?_
  refine RG.insY (γ := (fun y : (DValue → DValue → Option (DValue × Int)) => tFn Tryd.prog (fun (x : DValue × DValue) => [tD rpDValue x.1, tD rpDValue x.2]) (fun (x : DValue × Int) => tT [tD rpDValue x.1, tD (rI .i64) x.2]) (fun (x : DValue × DValue) => y x.1 x.2))) (y := r1) Tryd.underlying57 (key_int Tryd.underlying3) (ht rfl) (keyI hI) (tFn_of (ht rfl)) (fun os => ?_)
  obtain ⟨r2, q_r2, h⟩ := bs h
  refine RG.op (ok_call cb34 (f34_ok _ q_r2) ⟨(hFn cb36 fun x y h => f36_ok _ h), trivial⟩) rfl ?_
  refine RG.insY (γ := (fun y : (DValue → DValue → Option (DValue × Int)) => tFn Tryd.prog (fun (x : DValue × DValue) => [tD rpDValue x.1, tD rpDValue x.2]) (fun (x : DValue × Int) => tT [tD rpDValue x.1, tD (rI .i64) x.2]) (fun (x : DValue × DValue) => y x.1 x.2))) (y := r2) Tryd.underlying57 (key_int Tryd.underlying3) (ht rfl) (keyI hI) (tFn_of (ht rfl)) (fun os1 => ?_)
  obtain ⟨r3, q_r3, h⟩ := bs h
  refine RG.op (ok_call cb37 (f37_ok _ q_r3) ⟨hB, trivial⟩) rfl ?_
  refine RG.insY (γ := (fun y : (DValue → DValue → Option (DValue × Int)) => tFn Tryd.prog (fun (x : DValue × DValue) => [tD rpDValue x.1, tD rpDValue x.2]) (fun (x : DValue × Int) => tT [tD rpDValue x.1, tD (rI .i64) x.2]) (fun (x : DValue × DValue) => y x.1 x.2))) (y := r3) Tryd.underlying57 (key_int Tryd.underlying3) (ht rfl) (keyI hI) (tFn_of (ht rfl)) (fun os2 => ?_)
  obtain ⟨r4, q_r4, h⟩ := bs h
  refine RG.op (ok_call cb37 (f37_ok _ q_r4) ⟨hB, trivial⟩) rfl ?_
  refine RG.insY (γ := (fun y : (DValue → DValue → Option (DValue × Int)) => tFn Tryd.prog (fun (x : DValue × DValue) => [tD rpDValue x.1, tD rpDValue x.2]) (fun (x : DValue × Int) => tT [tD rpDValue x.1, tD (rI .i64) x.2]) (fun (x : DValue × DValue) => y x.1 x.2))) (y := r4) Tryd.underlying57 (key_int Tryd.underlying3) (ht rfl) (keyI hI) (tFn_of (ht rfl)) (fun os3 => ?_)
  refine RG.insY (γ := (fun y : (DValue → DValue → Option (DValue × Int)) => tFn Tryd.prog (fun (x : DValue × DValue) => [tD rpDValue x.1, tD rpDValue x.2]) (fun (x : DValue × Int) => tT [tD rpDValue x.1, tD (rI .i64) x.2]) (fun (x : DValue × DValue) => y x.1 x.2))) (y := arith_Add) Tryd.underlying57 (key_int Tryd.underlying3) (ht rfl) (keyI hI) (tFn_of (hFn cb38 fun x y h => f38_ok _ _ h)) (fun os4 => ?_)
  refine RG.insY (γ := (fun y : (DValue → DValue → Option (DValue × Int)) => tFn Tryd.prog (fun (x : DValue × DValue) => [tD rpDValue x.1, tD rpDValue x.2]) (fun (x : DValue × Int) => tT [tD rpDValue x.1, tD (rI .i64) x.2]) (fun (x : DValue × DValue) => y x.1 x.2))) (y := arith_Sub) Tryd.underlying57 (key_int Tryd.underlying3) (ht rfl) (keyI hI) (tFn_of (hFn cb39 fun x y h => f39_ok _ _ h)) (fun os5 => ?_)
  refine RG.insY (γ := (fun y : (DValue → DValue → Option (DValue × Int)) => tFn Tryd.prog (fun (x : DValue × DValue) => [tD rpDValue x.1, tD rpDValue x.2]) (fun (x : DValue × Int) => tT [tD rpDValue x.1, tD (rI .i64) x.2]) (fun (x : DValue × DValue) => y x.1 x.2))) (y := arith_Mul) Tryd.underlying57 (key_int Tryd.underlying3) (ht rfl) (keyI hI) (tFn_of (hFn cb40 fun x y h => f40_ok _ _ h)) (fun os6 => ?_)
  refine RG.insY (γ := (fun y : (DValue → DValue → Option (DValue × Int)) => tFn Tryd.prog (fun (x : DValue × DValue) => [tD rpDValue x.1, tD rpDValue x.2]) (fun (x : DValue × Int) => tT [tD rpDValue x.1, tD (rI .i64) x.2]) (fun (x : DValue × DValue) => y x.1 x.2))) (y := arith_Div) Tryd.underlying57 (key_int Tryd.underlying3) (ht rfl) (keyI hI) (tFn_of (hFn cb41 fun x y h => f41_ok _ _ h)) (fun os7 => ?_)
  refine RG.insY (γ := (fun y : (DValue → DValue → Option (DValue × Int)) => tFn Tryd.prog (fun (x : DValue × DValue) => [tD rpDValue x.1, tD rpDValue x.2]) (fun (x : DValue × Int) => tT [tD rpDValue x.1, tD (rI .i64) x.2]) (fun (x : DValue × DValue) => y x.1 x.2))) (y := value_Equal) Tryd.underlying57 (key_int Tryd.underlying3) (ht rfl) (keyI hI) (tFn_of (hFn cb42 fun x y h => f42_ok _ _ h)) (fun os8 => ?_)
  obtain ⟨r5, q_r5, h⟩ := bs h
  refine RG.op (ok_call cb43 (f43_ok _ q_r5) ⟨(hFn cb42 fun x y h => f42_ok _ _ h), trivial⟩) rfl ?_
  refine RG.insY (γ := (fun y : (DValue → DValue → Option (DValue × Int)) => tFn Tryd.prog (fun (x : DValue × DValue) => [tD rpDValue x.1, tD rpDValue x.2]) (fun (x : DValue × Int) => tT [tD rpDValue x.1, tD (rI .i64) x.2]) (fun (x : DValue × DValue) => y x.1 x.2))) (y := r5) Tryd.underlying57 (key_int Tryd.underlying3) (ht rfl) (keyI hI) (tFn_of (ht rfl)) (fun os9 => ?_)
  refine RG.insY (γ := (fun y : (DValue → DValue → Option (DValue × Int)) => tFn Tryd.prog (fun (x : DValue × DValue) => [tD rpDValue x.1, tD rpDValue x.2]) (fun (x : DValue × Int) => tT [tD rpDValue x.1, tD (rI .i64) x.2]) (fun (x : DValue × DValue) => y x.1 x.2))) (y := value_Less) Tryd.underlying57 (key_int Tryd.underlying3) (ht rfl) (keyI hI) (tFn_of (hFn cb33 fun x y h => f33_ok _ _ h)) (fun os10 => ?_)
  refine RG.op (ok_move (ht rfl)) rfl ?_
  refine RG.insY (γ := (fun y : (DValue → DValue → Option (DValue × Int)) => tFn Tryd.prog (fun (x : DValue × DValue) => [tD rpDValue x.1, tD rpDValue x.2]) (fun (x : DValue × Int) => tT [tD rpDValue x.1, tD (rI .i64) x.2]) (fun (x : DValue × DValue) => y x.1 x.2))) (y := r) Tryd.underlying57 (key_int Tryd.underlying3) (ht rfl) (keyI hI) (tFn_of (ht rfl)) (fun os11 => ?_)
  refine RG.op (ok_move (ht rfl)) rfl ?_
  obtain ⟨r6, q_r6, h⟩ := bs h
  refine RG.op (ok_call cb43 (f43_ok _ q_r6) ⟨(ht rfl), trivial⟩) rfl ?_
  refine RG.insY (γ := (fun y : (DValue → DValue → Option (DValue × Int)) => tFn Tryd.prog (fun (x : DValue × DValue) => [tD rpDValue x.1, tD rpDValue x.2]) (fun (x : DValue × Int) => tT [tD rpDValue x.1, tD (rI .i64) x.2]) (fun (x : DValue × DValue) => y x.1 x.2))) (y := r6) Tryd.underlying57 (key_int Tryd.underlying3) (ht rfl) (keyI hI) (tFn_of (ht rfl)) (fun os12 => ?_)
  obtain ⟨r7, q_r7, h⟩ := bs h
  refine RG.op (ok_call cb43 (f43_ok _ q_r7) ⟨(hFn cb33 fun x y h => f33_ok _ _ h), trivial⟩) rfl ?_
  refine RG.insY (γ := (fun y : (DValue → DValue → Option (DValue × Int)) => tFn Tryd.prog (fun (x : DValue × DValue) => [tD rpDValue x.1, tD rpDValue x.2]) (fun (x : DValue × Int) => tT [tD rpDValue x.1, tD (rI .i64) x.2]) (fun (x : DValue × DValue) => y x.1 x.2))) (y := r7) Tryd.underlying57 (key_int Tryd.underlying3) (ht rfl) (keyI hI) (tFn_of (ht rfl)) (fun os13 => ?_)
  refine RG.insY (γ := (fun y : (DValue → DValue → Option (DValue × Int)) => tFn Tryd.prog (fun (x : DValue × DValue) => [tD rpDValue x.1, tD rpDValue x.2]) (fun (x : DValue × Int) => tT [tD rpDValue x.1, tD (rI .i64) x.2]) (fun (x : DValue × DValue) => y x.1 x.2))) (y := value_And) Tryd.underlying57 (key_int Tryd.underlying3) (ht rfl) (keyI hI) (tFn_of (hFn cb44 fun x y h => f44_ok _ _ h)) (fun os14 => ?_)
  refine RG.insY (γ := (fun y : (DValue → DValue → Option (DValue × Int)) => tFn Tryd.prog (fun (x : DValue × DValue) => [tD rpDValue x.1, tD rpDValue x.2]) (fun (x : DValue × Int) => tT [tD rpDValue x.1, tD (rI .i64) x.2]) (fun (x : DValue × DValue) => y x.1 x.2))) (y := value_Or) Tryd.underlying57 (key_int Tryd.underlying3) (ht rfl) (keyI hI) (tFn_of (hFn cb45 fun x y h => f45_ok _ _ h)) (fun os15 => ?_)
  refine RG.op (ok_move (ht rfl)) rfl ?_
  refine RG.op (ok_assign (ht rfl)) rfl ?_
  refine RG.nil ?_
  refine AT.next ?_
  refine CG.ret ?_
  refine AT.settleMp 0 rfl ?_
  cases so h
  exact AT.ret1 rfl rfl

set_option maxRecDepth 100000 in
theorem f47_v {l : Option Nat} {c : Nat} {xs s : List DValue} {lo : Int} {R : List DValue} (hs : sliceF xs lo (xs.length : Int) = some s) (h : slices_Clone_api_Value_api_Value s = some R) : SpecM Tryd.prog 47 [tV (vslV 4 l c lo.toNat s.length)] [arr rpDValue 37 l c xs] (fun i : OI => tV (oslV (i.h 0).1 (i.h 0).2 R.length)) (fun i => [arr rpDValue 37 (i.h 0).1 (i.h 0).2 R, arr rpDValue 37 l c xs]) := by
  refine SpecM.of Tryd.func47 rfl rfl rfl fun w0 S0 => ?_
  refine CG.seq ?_
  refine CG.region ?_
  refine RG.op (ok_assign hVn) rfl ?_
  refine RG.nil ?_
  refine AT.next ?_
  refine CG.seq ?_
  refine CG.seq ?_
  refine CG.region ?_
  refine RG.op (ok_move (ht rfl)) rfl ?_
  refine RG.isNilV (r := rpDValue) Tryd.underlying25 (.head _) hs (ht rfl) rfl (fun isnil hisnil => ?_)
  refine RG.nil ?_
  refine AT.next ?_
  refine CG.cond (ht rfl) (fun hc => ?_) (fun hc => ?_)
  · have hx := hisnil hc
    have h : some ([] : List DValue) = some R := by simpa [slices_Clone_api_Value_api_Value, app, hx] using h
    refine CG.seq ?_
    refine CG.region ?_
    refine RG.fresh false rpDValue 37 ?_
    refine RG.op (ok_assign hVn) rfl ?_
    refine RG.nil ?_
    refine AT.next ?_
    refine CG.ret ?_
    refine AT.then_ret ?_
    cases so h
    exact AT.retM1 rfl (oi none 0) rfl rfl (fun _ _ h => h)
  · refine CG.skip ?_
    refine AT.next ?_
    refine CG.seq ?_
    refine CG.region ?_
    refine RG.buildOwn (r := rpDValue) (ys := ([] : List DValue)) (xs := []) Tryd.underlying25 ti37 rfl rfl rfl rfl rfl trivial rfl (fun l1 c1 => ?_)
    refine RG.op (ok_move (ht rfl)) rfl ?_
    obtain ⟨x, q_x, h⟩ := bs h
    refine RG.appendV ti37 rfl rfl rfl rfl Tryd.underlying25 rfl rfl (ht rfl) (.tail _ (.head _)) hs (ht rfl) q_x (fun l2 c2 => ?_)
    refine RG.op (ok_assign (ht rfl)) rfl ?_
    refine RG.nil ?_
    refine AT.next ?_
    refine CG.ret ?_
    cases so h
    exact AT.retM1 rfl (oi l2 c2) rfl rfl (fun _ _ h => h)

set_option maxRecDepth 100000 in
theorem f46_c (b : Nat) (l : Option Nat) (c : Nat) (stack : (List DValue)) (k : Int) {R : (List DValue) × (List DValue)} (h : expr_over_1_api_Value stack k = some R) : SpecM Tryd.prog 46 [tD (rI .i64) k, tV (bptr b 0)] [bx rV 25 b (oslV l c stack.length), arr rpDValue 37 l c stack] (fun i : OI => tD (rSl rpDValue) R.1) (fun i => [bx rV 25 b (oslV (i.h 0).1 (i.h 0).2 R.2.length), arr rpDValue 37 (i.h 0).1 (i.h 0).2 R.2]) := by
  refine SpecM.of Tryd.func46 rfl rfl rfl fun w0 S0 => ?_
  refine CG.seq ?_
  refine CG.region ?_
  refine RG.op (ok_assign (show HasTy _ _ _ (tD (rSl rpDValue) ([])) from hNil)) rfl ?_
  refine RG.nil ?_
  refine AT.next ?_
  refine CG.seq ?_
  refine CG.region ?_
  refine RG.op (ok_loadA ti25 (.head _) (ht rfl)) rfl ?_
  refine RG.op (ok_loadA ti25 (.head _) (ht rfl)) rfl ?_
  refine RG.op (ok_lenO Tryd.underlying25 (.tail _ (.head _)) (ht rfl)) rfl ?_
  refine RG.op (ok_move (ht rfl)) rfl ?_
  refine RG.op (ok_sub (ht rfl) (ht rfl)) rfl ?_
  obtain ⟨y, q_y, h⟩ := bs h
  refine RG.op (ok_sliceLoO Tryd.underlying25 ti37 rfl (.tail _ (.head _)) (ht rfl) (ht rfl) q_y) rfl ?_
  refine RG.have_view (.tail _ (.head _)) q_y (fun hv => ?_)
  refine RG.front1 ?_
  obtain ⟨r, q_r, h⟩ := bs h
  refine RG.callM [arr rpDValue 37 l c stack] _ rfl cb47 (f47_v q_y q_r) ⟨(ht rfl), trivial⟩ rfl (fun i => ?_)
  refine (show RG _ _ _ _ [arr rpDValue 37 (i.h 0).1 (i.h 0).2 r, arr rpDValue 37 l c stack, bx rV 25 b (oslV l c stack.length)] _ from ?_)
  refine RG.op (ok_assign (ht rfl)) rfl ?_
  refine RG.nil ?_
  refine AT.next ?_
  refine CG.seq ?_
  refine CG.region ?_
  refine RG.op (ok_loadA ti25 (.tail _ (.tail _ (.head _))) (ht rfl)) rfl ?_
  refine RG.op (ok_loadA ti25 (.tail _ (.tail _ (.head _))) (ht rfl)) rfl ?_
  refine RG.op (ok_lenO Tryd.underlying25 (.tail _ (.head _)) (ht rfl)) rfl ?_
  refine RG.op (ok_move (ht rfl)) rfl ?_
  refine RG.op (ok_sub (ht rfl) (ht rfl)) rfl ?_
  obtain ⟨y1, q_y1, h⟩ := bs h
  refine RG.op (ok_sliceHiO Tryd.underlying25 ti37 rfl (.tail _ (.head _)) (ht rfl) (ht rfl) q_y1) rfl ?_
  refine RG.front1 ?_
  refine RG.cut q_y1 ?_
  refine RG.front2 ?_
  refine RG.storeB ti25 rfl sfld_whole rfl (ht rfl) (hRV (ht rfl)) ?_
  refine RG.nil ?_
  refine AT.next ?_
  refine CG.seq ?_
  refine CG.region ?_
  refine RG.op (ok_move (ht rfl)) rfl ?_
  refine RG.op (ok_assign (ht rfl)) rfl ?_
  refine RG.nil ?_
  refine AT.next ?_
  refine CG.ret ?_
  refine AT.front2 ?_
  refine AT.freeze ?_
  refine AT.tipAt 3 rfl ?_
  refine AT.tipAt 11 rfl ?_
  refine AT.tipAt 4 rfl ?_
  refine AT.tipAt 18 rfl ?_
  refine AT.dataAt 3 rfl ?_
  refine AT.drop ?_
  refine AT.front1 ?_
  refine AT.front1 ?_
  cases so h
  exact AT.retM1 rfl (oi l c) rfl rfl (fun _ _ h => h)

set_option maxRecDepth 100000 in
theorem f21_ok (e : DExpr) (do1 : (DENode → (List DValue) → Option (DValue × Int))) {R : DValue × Int} (h : expr_over_api_Value e do1 = some R) : Spec Tryd.prog 21 [tD rpDExpr e, (tFun Tryd.prog (fun (x : DENode × (List DValue)) => [tD rpDENode x.1, tD (rSl rpDValue) x.2]) (fun (x : DValue × Int) => tT [tD rpDValue x.1, tD (rI .i64) x.2]) (fun (x : DENode × (List DValue)) => do1 x.1 x.2))] (tT [tD rpDValue R.1, tD (rI .i64) R.2]) := by
  refine Spec.of Tryd.func21 rfl rfl rfl fun w0 S0 => ?_
  refine CG.seq ?_
  refine CG.region ?_
  refine RG.op (ok_box (ht rfl)) rfl ?_
  refine RG.alloc (r := rpDValue) (x := (⟨(0 : Int), (0 : Int), (0 : Int), []⟩ : DValue)) ti37 (fun _ => zrDValue _) rfl (fun b => ?_)
  refine RG.op (ok_assign hI) rfl ?_
  refine RG.nil ?_
  refine AT.next ?_
  refine CG.scope ?_
  refine CG.seq ?_
  refine CG.region ?_
  refine RG.fresh false rpDValue 37 ?_
  refine RG.alloc (x := oslV none 0 0) ti25 (fun _ => rV_osl) rfl (fun b1 => ?_)
  refine RG.nil ?_
  refine AT.next ?_
  refine CG.seq ?_
  refine CG.region ?_
  refine RG.alloc (r := rpDValue) (x := (⟨(0 : Int), (0 : Int), (0 : Int), []⟩ : DValue)) ti37 (fun _ => zrDValue _) rfl (fun b2 => ?_)
  refine RG.settleB 7 rfl ?_
  refine RG.nil ?_
  refine AT.next ?_
  refine CG.seq ?_
  refine CG.region ?_
  refine RG.op (ok_makeC (cts := [tV (bptr b1 0)]) (caps := [.tmp 6]) ⟨(ht rfl), trivial⟩) rfl ?_
  refine RG.op (ok_assign (ht rfl)) rfl ?_
  refine RG.nil ?_
  refine AT.next ?_
  refine CG.seq ?_
  refine CG.region ?_
  refine RG.op (ok_assign hI) rfl ?_
  refine RG.nil ?_
  refine AT.next ?_
  refine CG.seq ?_
  refine CG.label ?_
  refine AT.next ?_
  refine CG.seq ?_
  refine CG.seq ?_
  refine CG.region ?_
  refine RG.op (ok_fieldAddr fd24_0 rfl flDExpr_0 rfl (ht rfl)) rfl ?_
  refine RG.op (ok_load ti22 rfl rfl (ht rfl)) rfl ?_
  refine RG.op (ok_lenSl Tryd.underlying22 (ht rfl)) rfl ?_
  refine RG.op (ok_move hI) rfl ?_
  refine RG.nil ?_
  refine AT.next ?_
  refine CG.bjoin4 (Z := fun bad stack l c => expr_over_api_Value_k1 bad stack = some R) (Of := fun bad stack l c => [bx rpDValue 37 b (⟨(0 : Int), (0 : Int), (0 : Int), []⟩ : DValue), bx rV 25 b1 (oslV l c stack.length), arr rpDValue 37 l c stack]) (Gf := fun bad stack l c => [(4, tV (bptr b 0)), (6, tV (bptr b1 0)), (7, tPtr rpDValue (⟨(0 : Int), (0 : Int), (0 : Int), []⟩ : DValue)), (9, tD (rI .i64) bad)]) (fun bad stack l c h => ?_) (fun K => ?_)
  · skip
    refine AT.next ?_
    refine CG.seq ?_
    refine CG.seq ?_
    refine CG.region ?_
    refine RG.op (ok_move (ht rfl)) rfl ?_
    refine RG.op (ok_neqI (ht rfl) hI) rfl ?_
    refine RG.nil ?_
    refine AT.next ?_
    refine CG.cond (ht rfl) (fun hc => ?_) (fun hc => ?_)
    · have h := ct h hc
      refine CG.seq ?_
      refine CG.region ?_
      refine RG.op (ok_load ti37 rfl rfl (ht rfl)) rfl ?_
      refine RG.op (ok_move (ht rfl)) rfl ?_
      refine RG.storeB ti37 rfl sfld_whole rfl (ht rfl) (ht rfl) ?_
      refine RG.op (ok_assign (ht rfl)) rfl ?_
      refine RG.nil ?_
      refine AT.next ?_
      refine CG.ret ?_
      refine AT.then_ret (AT.sc_ret ?_)
      refine AT.settleB 4 rfl ?_
      refine AT.drop ?_
      refine AT.drop ?_
      cases so h
      exact AT.retL (rvs := [.cell 4 37, .tmp 5]) rfl rfl ⟨res_cell ti37 rfl rfl rfl, res_tmp rfl, trivial⟩
    · have h := cf h hc
      refine CG.skip ?_
      refine AT.next ?_
      refine CG.seq ?_
      refine CG.region ?_
      refine RG.op (ok_loadA ti25 (.tail _ (.head _)) (ht rfl)) rfl ?_
      obtain ⟨e1, q_e1, h⟩ := bs h
      refine RG.op (ok_indexAddrO Tryd.underlying25 ti37 (.tail _ (.tail _ (.head _))) (ht rfl) hI q_e1) rfl ?_
      refine RG.op (ok_loadE (r := rpDValue) (i := (0 : Int)) (foff := 0) ti37 rfl rfl fld_whole rfl (.tail _ (.tail _ (.head _))) q_e1 (ht rfl)) rfl ?_
      refine RG.storeB ti37 rfl sfld_whole rfl (ht rfl) (ht rfl) ?_
      refine RG.op (ok_assign hI) rfl ?_
      refine RG.nil ?_
      refine AT.next ?_
      refine CG.ret ?_
      refine AT.sc_ret ?_
      refine AT.settleB 4 rfl ?_
      refine AT.drop ?_
      refine AT.drop ?_
      cases so h
      exact AT.retL (rvs := [.cell 4 37, .tmp 5]) rfl rfl ⟨res_cell ti37 rfl rfl rfl, res_tmp rfl, trivial⟩
  · skip
    refine CG.have_len (k := 16) rfl (fun hN => ?_)
    refine CG.loop ?_
    refine LG.front1 ?_
    refine LG.front1 ?_
    refine LG.front2 ?_
    refine LG.sub (LG.list5 (Z := fun ls i bad1 stack1 l1 c1 => (e.Nodes.drop i = ls) ∧ expr_over_api_Value_l1 do1 ls bad1 stack1 = some R) (Of := fun _ i bad1 stack1 l1 c1 => [bx rpDValue 37 b (⟨(0 : Int), (0 : Int), (0 : Int), []⟩ : DValue), bx rV 25 b1 (oslV l1 c1 stack1.length), arr rpDValue 37 l1 c1 stack1]) (Gf := fun _ i bad1 stack1 l1 c1 => [(1, (tFun Tryd.prog (fun (x : DENode × (List DValue)) => [tD rpDENode x.1, tD (rSl rpDValue) x.2]) (fun (x : DValue × Int) => tT [tD rpDValue x.1, tD (rI .i64) x.2]) (fun (x : DENode × (List DValue)) => do1 x.1 x.2))), (4, tV (bptr b 0)), (6, tV (bptr b1 0)), (7, tPtr rpDValue (⟨(0 : Int), (0 : Int), (0 : Int), []⟩ : DValue)), (8, tC 46 [tV (bptr b1 0)]), (9, tD (rI .i64) bad1), (16, tD (rSl rpDENode) e.Nodes), (17, tD (rI .i64) (e.Nodes.length : Int)), (18, tD (rI .i64) (i : Int))]) (fun i bad1 stack1 l1 c1 h => ?_) (fun e2 tl ih i bad1 stack1 l1 c1 h => ?_) e.Nodes 0 (0 : Int) ([] : List DValue) none 0 ⟨rfl, h⟩) ⟨rfl, rfl, rfl, rfl, rfl, rfl, rfl, rfl, rfl, trivial⟩
    · obtain ⟨hx, h⟩ := h
      refine LG.unfold ?_
      refine CG.seq ?_
      refine CG.region ?_
      refine RG.op (ok_lss (ht rfl) (ht rfl)) rfl ?_
      refine RG.nil ?_
      refine AT.next ?_
      refine CG.seq ?_
      refine CG.condF (ht rfl) (dropF hx) ?_
      refine CG.exit ?_
      refine AT.then_exit (AT.then_exit (AT.in_exit ?_))
      exact AT.sub (K bad1 stack1 l1 c1 h) ⟨rfl, rfl, rfl, rfl, trivial⟩
    · obtain ⟨hx, h⟩ := h
      refine LG.unfold ?_
      refine CG.seq ?_
      refine CG.region ?_
      refine RG.op (ok_lss (ht rfl) (ht rfl)) rfl ?_
      refine RG.nil ?_
      refine AT.next ?_
      refine CG.seq ?_
      refine CG.condT (ht rfl) (dropT hx) ?_
      refine CG.skip ?_
      refine AT.next ?_
      refine CG.seq ?_
      refine CG.block ?_
      refine CG.seq ?_
      refine CG.region ?_
      refine RG.op (ok_indexAddr Tryd.underlying22 ti49 rfl (ht rfl) (ht rfl) (dropI hx)) rfl ?_
      refine RG.op (ok_load ti49 rfl rfl (ht rfl)) rfl ?_
      refine RG.alloc (r := rpDENode) (x := (⟨(0 : Int), (0 : Int), (0 : Int), (0 : Int), (⟨(0 : Int), (0 : Int), (0 : Int), []⟩ : DValue)⟩ : DENode)) ti49 (fun _ => zrDENode _) rfl (fun b3 => ?_)
      refine RG.storeB ti49 rfl sfld_whole rfl (ht rfl) (ht rfl) ?_
      refine RG.settleB 11 rfl ?_
      refine RG.nil ?_
      refine AT.next ?_
      refine CG.seq ?_
      obtain ⟨r, q_r, h⟩ := bs h
      obtain ⟨r1, q_r1, h⟩ := bs h
      obtain ⟨r2, q_r2, h⟩ := bs h
      refine CG.drawU 13 [tc ((tFun Tryd.prog (fun (x : DENode × (List DValue)) => [tD rpDENode x.1, tD (rSl rpDValue) x.2]) (fun (x : DValue × Int) => tT [tD rpDValue x.1, tD (rI .i64) x.2]) (fun (x : DENode × (List DValue)) => do1 x.1 x.2))), tc (tD rpDENode e2), tc (tC 46 [tV (bptr b1 0)]), tc (tPtr (rI .i64) e2.Tag), tc (tD (rI .i64) e2.Tag), tc (tD (rI .i64) r), tc (tD (rSl rpDValue) r1.1), tc (tT [tD rpDValue r2.1, tD (rI .i64) r2.2]), tc (tT [tD rpDValue r2.1, tD (rI .i64) r2.2]), tc (tD rpDValue r2.1), tc (tD (rI .i64) r2.2), ([11], fun s => tV (bptr ((s.getD 0 zoi).h 0).2 0)), tc (tAny)] [false, false, false, false, false, false, true, false, false, false, false, true, true] [([], fun _ => [bx rpDValue 37 b (⟨(0 : Int), (0 : Int), (0 : Int), []⟩ : DValue), bx rV 25 b1 (oslV l1 c1 stack1.length), arr rpDValue 37 l1 c1 stack1]), ([6], fun sg => [bx rV 25 b1 (oslV ((sg 6).h 0).1 ((sg 6).h 0).2 r1.2.length), arr rpDValue 37 ((sg 6).h 0).1 ((sg 6).h 0).2 r1.2, bx rpDValue 37 b (⟨(0 : Int), (0 : Int), (0 : Int), []⟩ : DValue)]), ([11], fun sg => [bx rpDValue 37 ((sg 11).h 0).2 (⟨(0 : Int), (0 : Int), (0 : Int), []⟩ : DValue), bx rpDValue 37 b (⟨(0 : Int), (0 : Int), (0 : Int), []⟩ : DValue), bx rV 25 b1 (oslV l1 c1 stack1.length), arr rpDValue 37 l1 c1 stack1]), ([6, 11], fun sg => [bx rpDValue 37 ((sg 11).h 0).2 (⟨(0 : Int), (0 : Int), (0 : Int), []⟩ : DValue), bx rV 25 b1 (oslV ((sg 6).h 0).1 ((sg 6).h 0).2 r1.2.length), arr rpDValue 37 ((sg 6).h 0).1 ((sg 6).h 0).2 r1.2, bx rpDValue 37 b (⟨(0 : Int), (0 : Int), (0 : Int), []⟩ : DValue)]), ([6, 11, 12], fun sg => [bx rpDValue 37 ((sg 11).h 0).2 r2.1, bx rV 25 b1 (oslV ((sg 6).h 0).1 ((sg 6).h 0).2 r1.2.length), arr rpDValue 37 ((sg 6).h 0).1 ((sg 6).h 0).2 r1.2, bx rpDValue 37 b (⟨(0 : Int), (0 : Int), (0 : Int), []⟩ : DValue)])] (fun _ => rfl) mixed rfl rfl rfl rfl
        ⟨⟨[⟨1, fun _ => (tFun Tryd.prog (fun (x : DENode × (List DValue)) => [tD rpDENode x.1, tD (rSl rpDValue) x.2]) (fun (x : DValue × Int) => tT [tD rpDValue x.1, tD (rI .i64) x.2]) (fun (x : DENode × (List DValue)) => do1 x.1 x.2)), none⟩], _, [[], [6], [11], [6, 11]], rfl, ⟨(fun _ => rfl), trivial⟩, rfl, rfl, rfl, rfl, rfl, ⟨fun sg => OpG.plain rfl (ok_move (ht rfl)), fun sg => OpG.plain rfl (ok_move (ht rfl)), fun sg => OpG.plain rfl (ok_move (ht rfl)), fun sg => OpG.plain rfl (ok_move (ht rfl)), trivial⟩⟩,
        ⟨⟨[⟨11, fun _ => tPtr rpDENode e2, none⟩], _, [[], [6], [11], [6, 11]], rfl, ⟨(fun _ => rfl), trivial⟩, rfl, rfl, rfl, rfl, rfl, ⟨fun sg => OpG.plain rfl (ok_load ti49 rfl rfl (ht rfl)), fun sg => OpG.plain rfl (ok_load ti49 rfl rfl (ht rfl)), fun sg => OpG.plain rfl (ok_load ti49 rfl rfl (ht rfl)), fun sg => OpG.plain rfl (ok_load ti49 rfl rfl (ht rfl)), trivial⟩⟩,
        ⟨⟨[⟨8, fun _ => tC 46 [tV (bptr b1 0)], none⟩], _, [[], [11]], rfl, ⟨(fun _ => rfl), trivial⟩, rfl, rfl, rfl, rfl, rfl, ⟨fun sg => OpG.plain rfl (ok_move (ht rfl)), fun sg => OpG.plain rfl (ok_move (ht rfl)), trivial⟩⟩,
        ⟨⟨[⟨11, fun _ => tPtr rpDENode e2, none⟩], _, [[], [11]], rfl, ⟨(fun _ => rfl), trivial⟩, rfl, rfl, rfl, rfl, rfl, ⟨fun sg => OpG.plain rfl (ok_fieldAddr fd49_0 rfl flDENode_0 rfl (ht rfl)), fun sg => OpG.plain rfl (ok_fieldAddr fd49_0 rfl flDENode_0 rfl (ht rfl)), trivial⟩⟩,
        ⟨⟨[⟨26, fun _ => tPtr (rI .i64) e2.Tag, some 3⟩], _, [[], [11]], rfl, ⟨(fun _ => rfl), trivial⟩, rfl, rfl, rfl, rfl, rfl, ⟨fun sg => OpG.plain rfl (ok_load ti3 rfl rfl (ht rfl)), fun sg => OpG.plain rfl (ok_load ti3 rfl rfl (ht rfl)), trivial⟩⟩,
        ⟨⟨[⟨27, fun _ => tD (rI .i64) e2.Tag, some 4⟩], _, [[], [11]], rfl, ⟨(fun _ => rfl), trivial⟩, rfl, rfl, rfl, rfl, rfl, ⟨fun sg => OpG.plain rfl (ok_call cb27 (f27_ok _ q_r) ⟨(ht rfl), trivial⟩), fun sg => OpG.plain rfl (ok_call cb27 (f27_ok _ q_r) ⟨(ht rfl), trivial⟩), trivial⟩⟩,
        ⟨⟨[⟨25, fun _ => tC 46 [tV (bptr b1 0)], some 2⟩, ⟨28, fun _ => tD (rI .i64) r, some 5⟩], _, [([], [6]), ([11], [6, 11])], rfl, ⟨(fun _ => rfl), (fun _ => rfl), trivial⟩, rfl, rfl, rfl, rfl, rfl, ⟨fun sg => EffG.plain rfl (EffOK.fr2 (EffOK.fr2 (eff_callC (xs := [.tmp 28]) (ts := [tD (rI .i64) r]) (cts := [tV (bptr b1 0)]) [bx rV 25 b1 (oslV l1 c1 stack1.length), arr rpDValue 37 l1 c1 stack1] _ rfl cb46 (f46_c b1 l1 c1 _ _ q_r1) (ht rfl) ⟨(ht rfl), trivial⟩ (fun _ => rfl)))), fun sg => EffG.plain rfl (EffOK.post_imp (post := fun x__ => (fun (sg : Nat → OI) => [bx rV 25 b1 (oslV ((sg 6).h 0).1 ((sg 6).h 0).2 r1.2.length), arr rpDValue 37 ((sg 6).h 0).1 ((sg 6).h 0).2 r1.2, bx rpDValue 37 ((sg 11).h 0).2 (⟨(0 : Int), (0 : Int), (0 : Int), []⟩ : DValue), bx rpDValue 37 b (⟨(0 : Int), (0 : Int), (0 : Int), []⟩ : DValue)]) (upd sg 6 x__)) (EffOK.fr3 (EffOK.fr3 (eff_callC (xs := [.tmp 28]) (ts := [tD (rI .i64) r]) (cts := [tV (bptr b1 0)]) [bx rV 25 b1 (oslV l1 c1 stack1.length), arr rpDValue 37 l1 c1 stack1] _ rfl cb46 (f46_c b1 l1 c1 _ _ q_r1) (ht rfl) ⟨(ht rfl), trivial⟩ (fun _ => rfl)))) (fun h => Own.pick [2, 0, 1, 3] rfl h)), trivial⟩⟩,
        ⟨⟨[⟨23, fun _ => (tFun Tryd.prog (fun (x : DENode × (List DValue)) => [tD rpDENode x.1, tD (rSl rpDValue) x.2]) (fun (x : DValue × Int) => tT [tD rpDValue x.1, tD (rI .i64) x.2]) (fun (x : DENode × (List DValue)) => do1 x.1 x.2)), some 0⟩, ⟨24, fun _ => tD rpDENode e2, some 1⟩, ⟨29, fun _ => tD (rSl rpDValue) r1.1, some 6⟩], _, [[6], [6, 11]], rfl, ⟨(fun _ => rfl), (fun _ => rfl), (fun _ => rfl), trivial⟩, rfl, rfl, rfl, rfl, rfl, ⟨fun sg => OpG.plain rfl (ok_callV (args := (fun (x : DENode × (List DValue)) => [tD rpDENode x.1, tD (rSl rpDValue) x.2])) (res := (fun (x : DValue × Int) => tT [tD rpDValue x.1, tD (rI .i64) x.2])) (f := (fun (x : DENode × (List DValue)) => do1 x.1 x.2)) (x := ((e2, r1.1) : DENode × (List DValue))) (ht rfl) q_r2 ⟨(ht rfl), (ht rfl), trivial⟩), fun sg => OpG.plain rfl (ok_callV (args := (fun (x : DENode × (List DValue)) => [tD rpDENode x.1, tD (rSl rpDValue) x.2])) (res := (fun (x : DValue × Int) => tT [tD rpDValue x.1, tD (rI .i64) x.2])) (f := (fun (x : DENode × (List DValue)) => do1 x.1 x.2)) (x := ((e2, r1.1) : DENode × (List DValue))) (ht rfl) q_r2 ⟨(ht rfl), (ht rfl), trivial⟩), trivial⟩⟩,
        ⟨⟨[⟨30, fun _ => tT [tD rpDValue r2.1, tD (rI .i64) r2.2], some 7⟩], _, [[6], [6, 11]], rfl, ⟨(fun _ => rfl), trivial⟩, rfl, rfl, rfl, rfl, rfl, ⟨fun sg => OpG.plain rfl (ok_move (ht rfl)), fun sg => OpG.plain rfl (ok_move (ht rfl)), trivial⟩⟩,
        ⟨⟨[⟨22, fun _ => tT [tD rpDValue r2.1, tD (rI .i64) r2.2], some 8⟩], _, [[6], [6, 11]], rfl, ⟨(fun _ => rfl), trivial⟩, rfl, rfl, rfl, rfl, rfl, ⟨fun sg => OpG.plain rfl (ok_extract rfl (ht rfl)), fun sg => OpG.plain rfl (ok_extract rfl (ht rfl)), trivial⟩⟩,
        ⟨⟨[⟨22, fun _ => tT [tD rpDValue r2.1, tD (rI .i64) r2.2], some 8⟩], _, [[6], [6, 11], [6, 11, 12]], rfl, ⟨(fun _ => rfl), trivial⟩, rfl, rfl, rfl, rfl, rfl, ⟨fun sg => OpG.plain rfl (ok_extract rfl (ht rfl)), fun sg => OpG.plain rfl (ok_extract rfl (ht rfl)), fun sg => OpG.plain rfl (ok_extract rfl (ht rfl)), trivial⟩⟩,
        ⟨⟨[], _, [([], [11]), ([6], [6, 11])], rfl, trivial, rfl, rfl, rfl, rfl, rfl, ⟨fun sg => EffG.plain rfl (eff_alloc (r := rpDValue) (x := (⟨(0 : Int), (0 : Int), (0 : Int), []⟩ : DValue)) ti37 (fun _ => zrDValue _)), fun sg => EffG.plain rfl (eff_alloc (r := rpDValue) (x := (⟨(0 : Int), (0 : Int), (0 : Int), []⟩ : DValue)) ti37 (fun _ => zrDValue _)), trivial⟩⟩,
        ⟨⟨[⟨12, fun sg => tV (bptr ((sg 11).h 0).2 0), some 11⟩, ⟨31, fun _ => tD rpDValue r2.1, some 9⟩], _, [([6, 11], [6, 11, 12])], rfl, ⟨(fun _ => rfl), (fun _ => rfl), trivial⟩, rfl, rfl, rfl, rfl, rfl, ⟨fun sg => EffG.plain rfl (eff_storeX ti37 rfl (sfx_of sfld_whole) rfl (ht rfl) (ht rfl)), trivial⟩⟩,
        trivial⟩⟩⟩⟩⟩⟩⟩⟩⟩⟩⟩⟩⟩ (fun sg => ?_)
      refine (show RG _ _ _ _ [bx rpDValue 37 ((sg 11).h 0).2 r2.1, bx rV 25 b1 (oslV ((sg 6).h 0).1 ((sg 6).h 0).2 r1.2.length), arr rpDValue 37 ((sg 6).h 0).1 ((sg 6).h 0).2 r1.2, bx rpDValue 37 b (⟨(0 : Int), (0 : Int), (0 : Int), []⟩ : DValue)] _ from ?_)
      refine RG.settleB 12 rfl ?_
      refine RG.op (ok_assign (ht rfl)) rfl ?_
      refine RG.nil ?_
      refine AT.next ?_
      refine CG.seq ?_
      refine CG.seq ?_
      refine CG.region ?_
      refine RG.op (ok_move (ht rfl)) rfl ?_
      refine RG.op (ok_neqI (ht rfl) hI) rfl ?_
      refine RG.nil ?_
      refine AT.next ?_
      refine CG.cond (ht rfl) (fun hc => ?_) (fun hc => ?_)
      · have h := ct h hc
        refine CG.seq ?_
        refine CG.region ?_
        refine RG.op (ok_move (ht rfl)) rfl ?_
        refine RG.op (ok_assign (ht rfl)) rfl ?_
        refine RG.nil ?_
        refine AT.next ?_
        refine CG.exit ?_
        refine AT.then_exit (AT.in_exit_ne rfl (AT.then_exit (AT.then_exit (AT.in_exit ?_))))
        refine AT.front1 ?_
        refine AT.front1 ?_
        refine AT.front2 ?_
        exact AT.sub (K r2.2 r1.2 ((sg 6).h 0).1 ((sg 6).h 0).2 h) ⟨rfl, rfl, rfl, rfl, trivial⟩
      · have h := cf h hc
        refine CG.skip ?_
        refine AT.next ?_
        refine CG.region ?_
        refine RG.op (ok_loadA ti25 (.head _) (ht rfl)) rfl ?_
        refine RG.op (ok_load ti37 rfl rfl (ht rfl)) rfl ?_
        refine RG.op (ok_buildSlice (r := rpDValue) (ys := [r2.1]) (xs := [.tmp 37]) Tryd.underlying25 ti37 rfl rfl rfl rfl rfl ⟨(ht rfl), trivial⟩) rfl ?_
        refine RG.front1 ?_
        obtain ⟨l2, q_l2, h⟩ := bs h
        refine RG.append ti37 rfl rfl rfl rfl Tryd.underlying25 rfl rfl (ht rfl) (ht rfl) q_l2 (fun l3 c2 => ?_)
        refine RG.front1 ?_
        refine RG.storeB ti25 rfl sfld_whole rfl (ht rfl) (hRV (ht rfl)) ?_
        refine RG.nil ?_
        refine AT.in_normal ?_
        refine AT.next ?_
        refine CG.region ?_
        refine RG.op (ok_incN (dropL hx hN) (ht rfl) hI) rfl ?_
        refine RG.op (ok_move (ht rfl)) rfl ?_
        refine RG.nil ?_
        refine AT.front1 ?_
        refine AT.front1 ?_
        refine AT.front2 ?_
        exact AT.round (LG.sub (ih (i + 1) bad1 l2 l3 c2 ⟨dropS hx, h⟩) ⟨rfl, rfl, rfl, rfl, rfl, rfl, rfl, rfl, rfl, trivial⟩)

end Go.Proofs.YtdhledkpgaeoaaaDoor

