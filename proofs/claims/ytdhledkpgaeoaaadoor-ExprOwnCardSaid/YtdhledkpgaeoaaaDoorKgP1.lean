/- Facts of this claim: P1. -/
import Derived.Test.YtdhledkpgaeoaaaDoorKgT
import Derived.Test.YtdhledkpgaeoaaaDoorKgP0
namespace Go.Proofs.YtdhledkpgaeoaaaDoor
open Go

set_option maxRecDepth 100000 in
theorem f32_ok (do1 : (DValue → DValue → Option (DValue × Int))) {R : (DValue → DValue → Option (DValue × Int))} (h : expr_turned do1 = some R) : Spec Tryd.prog 32 [(tFun Tryd.prog (fun (x : DValue × DValue) => [tD rpDValue x.1, tD rpDValue x.2]) (fun (x : DValue × Int) => tT [tD rpDValue x.1, tD (rI .i64) x.2]) (fun (x : DValue × DValue) => do1 x.1 x.2))] ((tFun Tryd.prog (fun (x : DValue × DValue) => [tD rpDValue x.1, tD rpDValue x.2]) (fun (x : DValue × Int) => tT [tD rpDValue x.1, tD (rI .i64) x.2]) (fun (x : DValue × DValue) => R x.1 x.2))) := by
  refine Spec.of Tryd.func32 rfl rfl rfl fun w0 S0 => ?_
  refine CG.seq ?_
  refine CG.region ?_
  refine RG.op (ok_boxF (ht rfl)) rfl ?_
  refine RG.op (ok_assign hV) rfl ?_
  refine RG.nil ?_
  refine AT.next ?_
  refine CG.seq ?_
  refine CG.region ?_
  refine RG.op ((show OpOK _ _ _ _ ((tFun Tryd.prog (fun (x : DValue × DValue) => [tD rpDValue x.1, tD rpDValue x.2]) (fun (x : DValue × Int) => tT [tD rpDValue x.1, tD (rI .i64) x.2]) (fun (x : DValue × DValue) => (expr_turned_1 do1) x.1 x.2))) from ok_makeFunc (cts := [tPtr (rT ((tFun Tryd.prog (fun (x : DValue × DValue) => [tD rpDValue x.1, tD rpDValue x.2]) (fun (x : DValue × Int) => tT [tD rpDValue x.1, tD (rI .i64) x.2]) (fun (x : DValue × DValue) => do1 x.1 x.2)))) ()]) (caps := [.tmp 1]) cb62 ⟨(ht rfl), trivial⟩ (fun x y h => f62_ok _ _ _ h))) rfl ?_
  refine RG.op (ok_assign (ht rfl)) rfl ?_
  refine RG.nil ?_
  refine AT.next ?_
  refine CG.ret ?_
  cases so h
  exact AT.ret1 rfl rfl

set_option maxRecDepth 100000 in
theorem f70_ok (b : Bool) {R : DValue} (h : value_Bool b = some R) : Spec Tryd.prog 70 [tD rB b] (tD rpDValue R) := by
  refine Spec.of Tryd.func70 rfl rfl rfl fun w0 S0 => ?_
  refine CG.seq ?_
  refine CG.region ?_
  refine RG.alloc (r := rpDValue) (x := (⟨(0 : Int), (0 : Int), (0 : Int), []⟩ : DValue)) ti37 (fun _ => zrDValue _) rfl (fun b1 => ?_)
  refine RG.nil ?_
  refine AT.next ?_
  refine CG.seq ?_
  refine CG.region ?_
  refine RG.op (ok_build (y := (⟨(1 : Int), (0 : Int), (0 : Int), []⟩ : DValue)) ti37 fs37 zrDValue (⟨_, _, _, _, _, rfl, sfDValue_0, rfl, hI, rfl⟩)) rfl ?_
  refine RG.alloc (r := rpDValue) (x := (⟨(0 : Int), (0 : Int), (0 : Int), []⟩ : DValue)) ti37 (fun _ => zrDValue _) rfl (fun b2 => ?_)
  refine RG.storeB ti37 rfl sfld_whole rfl (ht rfl) (ht rfl) ?_
  refine RG.nil ?_
  refine AT.next ?_
  refine CG.sjoin1 (Z := fun v => value_Bool_k1 v = some R) (Of := fun v => [bx rpDValue 37 b1 (⟨(0 : Int), (0 : Int), (0 : Int), []⟩ : DValue), bx rpDValue 37 b2 v]) (Gf := fun v => [(2, tV (bptr b1 0)), (3, tV (bptr b2 0))]) (fun v h => ?_) (fun K => ?_)
  · skip
    refine CG.seq ?_
    refine CG.region ?_
    refine RG.op (ok_loadB ti37 rfl rfl fld_whole (.tail _ (.head _)) (ht rfl)) rfl ?_
    refine RG.storeB ti37 rfl sfld_whole rfl (ht rfl) (ht rfl) ?_
    refine RG.settleB 2 rfl ?_
    refine RG.nil ?_
    refine AT.next ?_
    refine CG.ret ?_
    refine AT.drop ?_
    cases so h
    exact AT.ret1c rfl ti37 rfl rfl rfl
  · skip
    refine CG.seq ?_
    refine CG.region ?_
    refine RG.op (ok_move (ht rfl)) rfl ?_
    refine RG.nil ?_
    refine AT.next ?_
    refine CG.cond (ht rfl) (fun hc => ?_) (fun hc => ?_)
    · have h := ct h hc
      refine CG.region ?_
      refine RG.op (ok_fieldAddrC (n := 1) fd37_1 rfl (ht rfl) rfl) rfl ?_
      refine RG.storeB ti2 rfl sfDValue_1 rfl (ht rfl) hI ?_
      refine RG.nil ?_
      refine AT.front1 ?_
      exact AT.sub (K (DValue.mk (⟨(1 : Int), (0 : Int), (0 : Int), []⟩ : DValue).Kind (1 : Int) (⟨(1 : Int), (0 : Int), (0 : Int), []⟩ : DValue).U (⟨(1 : Int), (0 : Int), (0 : Int), []⟩ : DValue).S) h) ⟨rfl, rfl, trivial⟩
    · have h := cf h hc
      refine CG.skip ?_
      refine AT.front1 ?_
      exact AT.sub (K (⟨(1 : Int), (0 : Int), (0 : Int), []⟩ : DValue) h) ⟨rfl, rfl, trivial⟩

set_option maxRecDepth 100000 in
theorem f90_ok (l : (List DValue)) {R : Int} (h : value_right l = some R) : Spec Tryd.prog 90 [tD (rSl rpDValue) l] (tD (rI .i64) R) := by
  refine Spec.of Tryd.func90 rfl rfl rfl fun w0 S0 => ?_
  refine CG.seq ?_
  refine CG.region ?_
  refine RG.op (ok_assign hI) rfl ?_
  refine RG.nil ?_
  refine AT.next ?_
  refine CG.seq ?_
  refine CG.seq ?_
  refine CG.region ?_
  refine RG.op (ok_move (ht rfl)) rfl ?_
  refine RG.op (ok_lenSl Tryd.underlying25 (ht rfl)) rfl ?_
  refine RG.op (ok_move hI) rfl ?_
  refine RG.nil ?_
  refine AT.next ?_
  refine CG.block ?_
  refine CG.have_len (k := 6) rfl (fun hN => ?_)
  refine CG.loop ?_
  refine LG.sub (LG.list1 (Z := fun ls i  => (l.drop i = ls) ∧ value_right_l1 ls  = some R) (Of := fun _ i  => []) (Gf := fun _ i  => [(6, tD (rSl rpDValue) l), (7, tD (rI .i64) (l.length : Int)), (8, tD (rI .i64) (i : Int))]) (fun i  h => ?_) (fun e tl ih i  h => ?_) l 0  ⟨rfl, h⟩) ⟨rfl, rfl, rfl, trivial⟩
  · obtain ⟨hx, h⟩ := h
    refine LG.unfold ?_
    refine CG.seq ?_
    refine CG.region ?_
    refine RG.op (ok_lss (ht rfl) (ht rfl)) rfl ?_
    refine RG.nil ?_
    refine AT.next ?_
    refine CG.seq ?_
    refine CG.condF (ht rfl) (dropF hx) ?_
    refine CG.exit ?_
    refine AT.then_exit (AT.then_exit (AT.in_exit ?_))
    refine AT.next ?_
    refine CG.seq ?_
    refine CG.region ?_
    refine RG.op (ok_assign hI) rfl ?_
    refine RG.nil ?_
    refine AT.next ?_
    refine CG.ret ?_
    cases so h
    exact AT.ret1 rfl rfl
  · obtain ⟨hx, h⟩ := h
    refine LG.unfold ?_
    refine CG.seq ?_
    refine CG.region ?_
    refine RG.op (ok_lss (ht rfl) (ht rfl)) rfl ?_
    refine RG.nil ?_
    refine AT.next ?_
    refine CG.seq ?_
    refine CG.condT (ht rfl) (dropT hx) ?_
    refine CG.skip ?_
    refine AT.next ?_
    refine CG.seq ?_
    refine CG.block ?_
    refine CG.seq ?_
    refine CG.region ?_
    refine RG.op (ok_indexAddr Tryd.underlying25 ti37 rfl (ht rfl) (ht rfl) (dropI hx)) rfl ?_
    refine RG.op (ok_load ti37 rfl rfl (ht rfl)) rfl ?_
    refine RG.alloc (r := rpDValue) (x := (⟨(0 : Int), (0 : Int), (0 : Int), []⟩ : DValue)) ti37 (fun _ => zrDValue _) rfl (fun b => ?_)
    refine RG.storeB ti37 rfl sfld_whole rfl (ht rfl) (ht rfl) ?_
    refine RG.settleB 4 rfl ?_
    refine RG.nil ?_
    refine AT.next ?_
    refine CG.seq ?_
    refine CG.region ?_
    refine RG.op (ok_load ti37 rfl rfl (ht rfl)) rfl ?_
    obtain ⟨r, q_r, h⟩ := bs h
    refine RG.op (ok_call cb31 (f31_ok _ q_r) ⟨(ht rfl), trivial⟩) rfl ?_
    refine RG.op (ok_assign (ht rfl)) rfl ?_
    refine RG.nil ?_
    refine AT.next ?_
    refine CG.seq ?_
    refine CG.region ?_
    refine RG.op (ok_move (ht rfl)) rfl ?_
    refine RG.op (ok_neqI (ht rfl) hI) rfl ?_
    refine RG.nil ?_
    refine AT.next ?_
    refine CG.cond (ht rfl) (fun hc => ?_) (fun hc => ?_)
    · have h := ct h hc
      refine CG.seq ?_
      refine CG.region ?_
      refine RG.op (ok_move (ht rfl)) rfl ?_
      refine RG.op (ok_assign (ht rfl)) rfl ?_
      refine RG.nil ?_
      refine AT.next ?_
      refine CG.ret ?_
      refine AT.in_ret (AT.then_ret (AT.then_ret (AT.in_ret (AT.then_ret ?_))))
      cases so h
      exact AT.ret1 rfl rfl
    · have h := cf h hc
      refine CG.skip ?_
      refine AT.in_normal ?_
      refine AT.next ?_
      refine CG.region ?_
      refine RG.op (ok_incN (dropL hx hN) (ht rfl) hI) rfl ?_
      refine RG.op (ok_move (ht rfl)) rfl ?_
      refine RG.nil ?_
      exact AT.round (LG.sub (ih (i + 1)  ⟨dropS hx, h⟩) ⟨rfl, rfl, rfl, trivial⟩)

set_option maxRecDepth 100000 in
theorem f91_ok {R : DValue} (h : value_Null = some R) : Spec Tryd.prog 91 [] (tD rpDValue R) := by
  refine Spec.of Tryd.func91 rfl rfl rfl fun w0 S0 => ?_
  refine CG.seq ?_
  refine CG.region ?_
  refine RG.alloc (r := rpDValue) (x := (⟨(0 : Int), (0 : Int), (0 : Int), []⟩ : DValue)) ti37 (fun _ => zrDValue _) rfl (fun b => ?_)
  refine RG.nil ?_
  refine AT.next ?_
  refine CG.seq ?_
  refine CG.region ?_
  refine RG.op (ok_build (y := (⟨(0 : Int), (0 : Int), (0 : Int), []⟩ : DValue)) ti37 fs37 zrDValue (rfl)) rfl ?_
  refine RG.storeB ti37 rfl sfld_whole rfl (ht rfl) (ht rfl) ?_
  refine RG.settleB 0 rfl ?_
  refine RG.nil ?_
  refine AT.next ?_
  refine CG.ret ?_
  cases so h
  exact AT.ret1c rfl ti37 rfl rfl rfl

set_option maxRecDepth 100000 in
theorem f96_ok (vals : (List Int)) {R : Int} (h : cmp_Or_int vals = some R) : Spec Tryd.prog 96 [tD (rSl (rI .i64)) vals] (tD (rI .i64) R) := by
  refine Spec.of Tryd.func96 rfl rfl rfl fun w0 S0 => ?_
  refine CG.seq ?_
  refine CG.region ?_
  refine RG.op (ok_assign hI) rfl ?_
  refine RG.nil ?_
  refine AT.next ?_
  refine CG.seq ?_
  refine CG.region ?_
  refine RG.op (ok_assign hI) rfl ?_
  refine RG.nil ?_
  refine AT.next ?_
  refine CG.seq ?_
  refine CG.seq ?_
  refine CG.region ?_
  refine RG.op (ok_move (ht rfl)) rfl ?_
  refine RG.op (ok_lenSl Tryd.underlying33 (ht rfl)) rfl ?_
  refine RG.op (ok_move hI) rfl ?_
  refine RG.nil ?_
  refine AT.next ?_
  refine CG.block ?_
  refine CG.have_len (k := 6) rfl (fun hN => ?_)
  refine CG.loop ?_
  refine LG.sub (LG.list1 (Z := fun ls i  => (vals.drop i = ls) ∧ cmp_Or_int_l1 ls  = some R) (Of := fun _ i  => []) (Gf := fun _ i  => [(3, tD (rI .i64) (0 : Int)), (6, tD (rSl (rI .i64)) vals), (7, tD (rI .i64) (vals.length : Int)), (8, tD (rI .i64) (i : Int))]) (fun i  h => ?_) (fun e tl ih i  h => ?_) vals 0  ⟨rfl, h⟩) ⟨rfl, rfl, rfl, rfl, trivial⟩
  · obtain ⟨hx, h⟩ := h
    refine LG.unfold ?_
    refine CG.seq ?_
    refine CG.region ?_
    refine RG.op (ok_lss (ht rfl) (ht rfl)) rfl ?_
    refine RG.nil ?_
    refine AT.next ?_
    refine CG.seq ?_
    refine CG.condF (ht rfl) (dropF hx) ?_
    refine CG.exit ?_
    refine AT.then_exit (AT.then_exit (AT.in_exit ?_))
    refine AT.next ?_
    refine CG.seq ?_
    refine CG.region ?_
    refine RG.op (ok_move (ht rfl)) rfl ?_
    refine RG.op (ok_assign (ht rfl)) rfl ?_
    refine RG.nil ?_
    refine AT.next ?_
    refine CG.ret ?_
    cases so h
    exact AT.ret1 rfl rfl
  · obtain ⟨hx, h⟩ := h
    refine LG.unfold ?_
    refine CG.seq ?_
    refine CG.region ?_
    refine RG.op (ok_lss (ht rfl) (ht rfl)) rfl ?_
    refine RG.nil ?_
    refine AT.next ?_
    refine CG.seq ?_
    refine CG.condT (ht rfl) (dropT hx) ?_
    refine CG.skip ?_
    refine AT.next ?_
    refine CG.seq ?_
    refine CG.block ?_
    refine CG.seq ?_
    refine CG.region ?_
    refine RG.op (ok_indexAddr Tryd.underlying33 ti3 rfl (ht rfl) (ht rfl) (dropI hx)) rfl ?_
    refine RG.op (ok_load ti3 rfl rfl (ht rfl)) rfl ?_
    refine RG.op (ok_assign (ht rfl)) rfl ?_
    refine RG.nil ?_
    refine AT.next ?_
    refine CG.seq ?_
    refine CG.region ?_
    refine RG.op (ok_move (ht rfl)) rfl ?_
    refine RG.op (ok_move (ht rfl)) rfl ?_
    refine RG.op (ok_neqI (ht rfl) (ht rfl)) rfl ?_
    refine RG.nil ?_
    refine AT.next ?_
    refine CG.cond (ht rfl) (fun hc => ?_) (fun hc => ?_)
    · have h := ct h hc
      refine CG.seq ?_
      refine CG.region ?_
      refine RG.op (ok_move (ht rfl)) rfl ?_
      refine RG.op (ok_assign (ht rfl)) rfl ?_
      refine RG.nil ?_
      refine AT.next ?_
      refine CG.ret ?_
      refine AT.in_ret (AT.then_ret (AT.then_ret (AT.in_ret (AT.then_ret ?_))))
      cases so h
      exact AT.ret1 rfl rfl
    · have h := cf h hc
      refine CG.skip ?_
      refine AT.in_normal ?_
      refine AT.next ?_
      refine CG.region ?_
      refine RG.op (ok_incN (dropL hx hN) (ht rfl) hI) rfl ?_
      refine RG.op (ok_move (ht rfl)) rfl ?_
      refine RG.nil ?_
      exact AT.round (LG.sub (ih (i + 1)  ⟨dropS hx, h⟩) ⟨rfl, rfl, rfl, rfl, trivial⟩)

set_option maxRecDepth 100000 in
theorem f89_ok (p : Int) {R : Bool} (h : cmp_isNaN_int p = some R) : Spec Tryd.prog 89 [tD (rI .i64) p] (tD rB R) := by
  refine Spec.of Tryd.func89 rfl rfl rfl fun w0 S0 => ?_
  refine CG.seq ?_
  refine CG.region ?_
  refine RG.op (ok_assign hB) rfl ?_
  refine RG.nil ?_
  refine AT.next ?_
  refine CG.seq ?_
  refine CG.region ?_
  refine RG.op (ok_move (ht rfl)) rfl ?_
  refine RG.op (ok_move (ht rfl)) rfl ?_
  refine RG.op (ok_neqI (ht rfl) (ht rfl)) rfl ?_
  refine RG.op (ok_assign (ht rfl)) rfl ?_
  refine RG.nil ?_
  refine AT.next ?_
  refine CG.ret ?_
  cases so h
  exact AT.ret1 rfl rfl

set_option maxRecDepth 100000 in
theorem f97_ok (p : Int) (y : Int) {R : Int} (h : cmp_Compare_int p y = some R) : Spec Tryd.prog 97 [tD (rI .i64) p, tD (rI .i64) y] (tD (rI .i64) R) := by
  refine Spec.of Tryd.func97 rfl rfl rfl fun w0 S0 => ?_
  refine CG.seq ?_
  refine CG.region ?_
  refine RG.op (ok_assign hI) rfl ?_
  refine RG.nil ?_
  refine AT.next ?_
  refine CG.seq ?_
  refine CG.region ?_
  refine RG.op (ok_move (ht rfl)) rfl ?_
  obtain ⟨r, q_r, h⟩ := bs h
  refine RG.op (ok_call cb89 (f89_ok _ q_r) ⟨(ht rfl), trivial⟩) rfl ?_
  refine RG.op (ok_assign (ht rfl)) rfl ?_
  refine RG.nil ?_
  refine AT.next ?_
  refine CG.seq ?_
  refine CG.region ?_
  refine RG.op (ok_move (ht rfl)) rfl ?_
  obtain ⟨r1, q_r1, h⟩ := bs h
  refine RG.op (ok_call cb89 (f89_ok _ q_r1) ⟨(ht rfl), trivial⟩) rfl ?_
  refine RG.op (ok_assign (ht rfl)) rfl ?_
  refine RG.nil ?_
  refine AT.next ?_
  refine CG.seq ?_
  refine CG.seq ?_
  refine CG.region ?_
  refine RG.op (ok_move (ht rfl)) rfl ?_
  refine RG.nil ?_
  refine AT.next ?_
  refine CG.cond (ht rfl) (fun hc => ?_) (fun hc => ?_)
  · have h := ct h hc
    refine CG.seq ?_
    refine CG.seq ?_
    refine CG.region ?_
    refine RG.op (ok_move (ht rfl)) rfl ?_
    refine RG.nil ?_
    refine AT.next ?_
    refine CG.cond (ht rfl) (fun hc => ?_) (fun hc => ?_)
    · have h := ct h hc
      refine CG.seq ?_
      refine CG.region ?_
      refine RG.op (ok_assign hI) rfl ?_
      refine RG.nil ?_
      refine AT.next ?_
      refine CG.ret ?_
      refine AT.then_ret (AT.then_ret ?_)
      cases so h
      exact AT.ret1 rfl rfl
    · have h := cf h hc
      refine CG.skip ?_
      refine AT.next ?_
      refine CG.seq ?_
      refine CG.region ?_
      refine RG.op (ok_assign hI) rfl ?_
      refine RG.nil ?_
      refine AT.next ?_
      refine CG.ret ?_
      refine AT.then_ret ?_
      cases so h
      exact AT.ret1 rfl rfl
  · have h := cf h hc
    refine CG.skip ?_
    refine AT.next ?_
    refine CG.seq ?_
    refine CG.seq ?_
    refine CG.region ?_
    refine RG.op (ok_move (ht rfl)) rfl ?_
    refine RG.nil ?_
    refine AT.next ?_
    refine CG.cond (ht rfl) (fun hc => ?_) (fun hc => ?_)
    · have h := ct h hc
      refine CG.seq ?_
      refine CG.region ?_
      refine RG.op (ok_assign hI) rfl ?_
      refine RG.nil ?_
      refine AT.next ?_
      refine CG.ret ?_
      refine AT.then_ret ?_
      cases so h
      exact AT.ret1 rfl rfl
    · have h := cf h hc
      refine CG.skip ?_
      refine AT.next ?_
      refine CG.seq ?_
      refine CG.seq ?_
      refine CG.region ?_
      refine RG.op (ok_move (ht rfl)) rfl ?_
      refine RG.op (ok_move (ht rfl)) rfl ?_
      refine RG.op (ok_lss (ht rfl) (ht rfl)) rfl ?_
      refine RG.nil ?_
      refine AT.next ?_
      refine CG.cond (ht rfl) (fun hc => ?_) (fun hc => ?_)
      · have h := ct h hc
        refine CG.seq ?_
        refine CG.region ?_
        refine RG.op (ok_assign hI) rfl ?_
        refine RG.nil ?_
        refine AT.next ?_
        refine CG.ret ?_
        refine AT.then_ret ?_
        cases so h
        exact AT.ret1 rfl rfl
      · have h := cf h hc
        refine CG.skip ?_
        refine AT.next ?_
        refine CG.seq ?_
        refine CG.seq ?_
        refine CG.region ?_
        refine RG.op (ok_move (ht rfl)) rfl ?_
        refine RG.op (ok_move (ht rfl)) rfl ?_
        refine RG.op (ok_gtr (ht rfl) (ht rfl)) rfl ?_
        refine RG.nil ?_
        refine AT.next ?_
        refine CG.cond (ht rfl) (fun hc => ?_) (fun hc => ?_)
        · have h := ct h hc
          refine CG.seq ?_
          refine CG.region ?_
          refine RG.op (ok_assign hI) rfl ?_
          refine RG.nil ?_
          refine AT.next ?_
          refine CG.ret ?_
          refine AT.then_ret ?_
          cases so h
          exact AT.ret1 rfl rfl
        · have h := cf h hc
          refine CG.skip ?_
          refine AT.next ?_
          refine CG.seq ?_
          refine CG.region ?_
          refine RG.op (ok_assign hI) rfl ?_
          refine RG.nil ?_
          refine AT.next ?_
          refine CG.ret ?_
          cases so h
          exact AT.ret1 rfl rfl

set_option maxRecDepth 100000 in
theorem f100_ok (p : Int) {R : Bool} (h : cmp_isNaN_int64 p = some R) : Spec Tryd.prog 100 [tD (rI .i64) p] (tD rB R) := by
  refine Spec.of Tryd.func100 rfl rfl rfl fun w0 S0 => ?_
  refine CG.seq ?_
  refine CG.region ?_
  refine RG.op (ok_assign hB) rfl ?_
  refine RG.nil ?_
  refine AT.next ?_
  refine CG.seq ?_
  refine CG.region ?_
  refine RG.op (ok_move (ht rfl)) rfl ?_
  refine RG.op (ok_move (ht rfl)) rfl ?_
  refine RG.op (ok_neqI (ht rfl) (ht rfl)) rfl ?_
  refine RG.op (ok_assign (ht rfl)) rfl ?_
  refine RG.nil ?_
  refine AT.next ?_
  refine CG.ret ?_
  cases so h
  exact AT.ret1 rfl rfl

set_option maxRecDepth 100000 in
theorem f98_ok (p : Int) (y : Int) {R : Int} (h : cmp_Compare_int64 p y = some R) : Spec Tryd.prog 98 [tD (rI .i64) p, tD (rI .i64) y] (tD (rI .i64) R) := by
  refine Spec.of Tryd.func98 rfl rfl rfl fun w0 S0 => ?_
  refine CG.seq ?_
  refine CG.region ?_
  refine RG.op (ok_assign hI) rfl ?_
  refine RG.nil ?_
  refine AT.next ?_
  refine CG.seq ?_
  refine CG.region ?_
  refine RG.op (ok_move (ht rfl)) rfl ?_
  obtain ⟨r, q_r, h⟩ := bs h
  refine RG.op (ok_call cb100 (f100_ok _ q_r) ⟨(ht rfl), trivial⟩) rfl ?_
  refine RG.op (ok_assign (ht rfl)) rfl ?_
  refine RG.nil ?_
  refine AT.next ?_
  refine CG.seq ?_
  refine CG.region ?_
  refine RG.op (ok_move (ht rfl)) rfl ?_
  obtain ⟨r1, q_r1, h⟩ := bs h
  refine RG.op (ok_call cb100 (f100_ok _ q_r1) ⟨(ht rfl), trivial⟩) rfl ?_
  refine RG.op (ok_assign (ht rfl)) rfl ?_
  refine RG.nil ?_
  refine AT.next ?_
  refine CG.seq ?_
  refine CG.seq ?_
  refine CG.region ?_
  refine RG.op (ok_move (ht rfl)) rfl ?_
  refine RG.nil ?_
  refine AT.next ?_
  refine CG.cond (ht rfl) (fun hc => ?_) (fun hc => ?_)
  · have h := ct h hc
    refine CG.seq ?_
    refine CG.seq ?_
    refine CG.region ?_
    refine RG.op (ok_move (ht rfl)) rfl ?_
    refine RG.nil ?_
    refine AT.next ?_
    refine CG.cond (ht rfl) (fun hc => ?_) (fun hc => ?_)
    · have h := ct h hc
      refine CG.seq ?_
      refine CG.region ?_
      refine RG.op (ok_assign hI) rfl ?_
      refine RG.nil ?_
      refine AT.next ?_
      refine CG.ret ?_
      refine AT.then_ret (AT.then_ret ?_)
      cases so h
      exact AT.ret1 rfl rfl
    · have h := cf h hc
      refine CG.skip ?_
      refine AT.next ?_
      refine CG.seq ?_
      refine CG.region ?_
      refine RG.op (ok_assign hI) rfl ?_
      refine RG.nil ?_
      refine AT.next ?_
      refine CG.ret ?_
      refine AT.then_ret ?_
      cases so h
      exact AT.ret1 rfl rfl
  · have h := cf h hc
    refine CG.skip ?_
    refine AT.next ?_
    refine CG.seq ?_
    refine CG.seq ?_
    refine CG.region ?_
    refine RG.op (ok_move (ht rfl)) rfl ?_
    refine RG.nil ?_
    refine AT.next ?_
    refine CG.cond (ht rfl) (fun hc => ?_) (fun hc => ?_)
    · have h := ct h hc
      refine CG.seq ?_
      refine CG.region ?_
      refine RG.op (ok_assign hI) rfl ?_
      refine RG.nil ?_
      refine AT.next ?_
      refine CG.ret ?_
      refine AT.then_ret ?_
      cases so h
      exact AT.ret1 rfl rfl
    · have h := cf h hc
      refine CG.skip ?_
      refine AT.next ?_
      refine CG.seq ?_
      refine CG.seq ?_
      refine CG.region ?_
      refine RG.op (ok_move (ht rfl)) rfl ?_
      refine RG.op (ok_move (ht rfl)) rfl ?_
      refine RG.op (ok_lss (ht rfl) (ht rfl)) rfl ?_
      refine RG.nil ?_
      refine AT.next ?_
      refine CG.cond (ht rfl) (fun hc => ?_) (fun hc => ?_)
      · have h := ct h hc
        refine CG.seq ?_
        refine CG.region ?_
        refine RG.op (ok_assign hI) rfl ?_
        refine RG.nil ?_
        refine AT.next ?_
        refine CG.ret ?_
        refine AT.then_ret ?_
        cases so h
        exact AT.ret1 rfl rfl
      · have h := cf h hc
        refine CG.skip ?_
        refine AT.next ?_
        refine CG.seq ?_
        refine CG.seq ?_
        refine CG.region ?_
        refine RG.op (ok_move (ht rfl)) rfl ?_
        refine RG.op (ok_move (ht rfl)) rfl ?_
        refine RG.op (ok_gtr (ht rfl) (ht rfl)) rfl ?_
        refine RG.nil ?_
        refine AT.next ?_
        refine CG.cond (ht rfl) (fun hc => ?_) (fun hc => ?_)
        · have h := ct h hc
          refine CG.seq ?_
          refine CG.region ?_
          refine RG.op (ok_assign hI) rfl ?_
          refine RG.nil ?_
          refine AT.next ?_
          refine CG.ret ?_
          refine AT.then_ret ?_
          cases so h
          exact AT.ret1 rfl rfl
        · have h := cf h hc
          refine CG.skip ?_
          refine AT.next ?_
          refine CG.seq ?_
          refine CG.region ?_
          refine RG.op (ok_assign hI) rfl ?_
          refine RG.nil ?_
          refine AT.next ?_
          refine CG.ret ?_
          cases so h
          exact AT.ret1 rfl rfl

set_option maxRecDepth 100000 in
theorem f101_ok (a1 : Str) (b : Str) {R : Int} (h : internal_bytealg_CompareString a1 b = some R) : Spec Tryd.prog 101 [tD rS a1, tD rS b] (tD (rI .i64) R) := by
  refine Spec.of Tryd.func101 rfl rfl rfl fun w0 S0 => ?_
  refine CG.seq ?_
  refine CG.region ?_
  refine RG.op (ok_assign hI) rfl ?_
  refine RG.nil ?_
  refine AT.next ?_
  refine CG.seq ?_
  refine CG.region ?_
  refine RG.op (ok_move (ht rfl)) rfl ?_
  refine RG.op (ok_move (ht rfl)) rfl ?_
  refine RG.op (ok_cmpX Tryd.func102 (by kernel_rfl) (by kernel_rfl) (by kernel_rfl) (by kernel_rfl) (ht rfl) (ht rfl)) rfl ?_
  refine RG.op (ok_assign (ht rfl)) rfl ?_
  refine RG.nil ?_
  refine AT.next ?_
  refine CG.ret ?_
  cases so h
  exact AT.ret1 rfl rfl

set_option maxRecDepth 100000 in
theorem f99_ok (a1 : Str) (b : Str) {R : Int} (h : strings_Compare a1 b = some R) : Spec Tryd.prog 99 [tD rS a1, tD rS b] (tD (rI .i64) R) := by
  refine Spec.of Tryd.func99 rfl rfl rfl fun w0 S0 => ?_
  refine CG.seq ?_
  refine CG.region ?_
  refine RG.op (ok_assign hI) rfl ?_
  refine RG.nil ?_
  refine AT.next ?_
  refine CG.seq ?_
  refine CG.region ?_
  refine RG.op (ok_move (ht rfl)) rfl ?_
  refine RG.op (ok_move (ht rfl)) rfl ?_
  obtain ⟨r, q_r, h⟩ := bs h
  refine RG.op (ok_call cb101 (f101_ok _ _ q_r) ⟨(ht rfl), (ht rfl), trivial⟩) rfl ?_
  refine RG.op (ok_assign (ht rfl)) rfl ?_
  refine RG.nil ?_
  refine AT.next ?_
  refine CG.ret ?_
  cases so h
  exact AT.ret1 rfl rfl

set_option maxRecDepth 100000 in
theorem f92_ok (a1 : DValue) (b : DValue) {R : Int} (h : value_Compare a1 b = some R) : Spec Tryd.prog 92 [tD rpDValue a1, tD rpDValue b] (tD (rI .i64) R) := by
  refine Spec.of Tryd.func92 rfl rfl rfl fun w0 S0 => ?_
  refine CG.seq ?_
  refine CG.region ?_
  refine RG.op (ok_box (ht rfl)) rfl ?_
  refine RG.op (ok_box (ht rfl)) rfl ?_
  refine RG.op (ok_assign hI) rfl ?_
  refine RG.nil ?_
  refine AT.next ?_
  refine CG.seq ?_
  refine CG.seq ?_
  refine CG.region ?_
  refine RG.op (ok_load ti37 rfl rfl (ht rfl)) rfl ?_
  obtain ⟨r, q_r, h⟩ := bs h
  refine RG.op (ok_call cb19 (f19_ok _ q_r) ⟨(ht rfl), trivial⟩) rfl ?_
  refine RG.op (ok_not (ht rfl)) rfl ?_
  refine RG.op (ok_move (ht rfl)) rfl ?_
  obtain ⟨t, q_t, h⟩ := bs h
  refine RG.opGf rfl rfl rfl rfl (fun hg => ok_load ti37 rfl rfl (ht rfl)) ?_
  obtain ⟨r1, h1t, h0t⟩ := og q_t
  have q_r1g := fun hb => (h1t hb).1
  refine RG.opGf rfl rfl rfl rfl (fun hg => ok_call cb19 (f19_ok _ (q_r1g hg)) ⟨(htO rfl hg), trivial⟩) ?_
  refine RG.opGf rfl rfl rfl rfl (fun hg => ok_not (htO rfl hg)) ?_
  refine RG.op (ok_pickOrM (ht rfl) (fun hb => (htO rfl (noti hb))) (fun hb => (h1t hb).2) h0t) rfl ?_
  refine RG.nil ?_
  refine AT.next ?_
  refine CG.cond (ht rfl) (fun hc => ?_) (fun hc => ?_)
  · have h := ct h hc
    refine CG.seq ?_
    refine CG.region ?_
    refine RG.op (ok_assign hI) rfl ?_
    refine RG.nil ?_
    refine AT.next ?_
    refine CG.ret ?_
    refine AT.then_ret ?_
    cases so h
    exact AT.ret1 rfl rfl
  · have h := cf h hc
    refine CG.skip ?_
    refine AT.next ?_
    refine CG.seq ?_
    obtain ⟨r2, q_r2, h⟩ := bs h
    obtain ⟨r3, q_r3, h⟩ := bs h
    obtain ⟨r4, q_r4, h⟩ := bs h
    obtain ⟨r5, q_r5, h⟩ := bs h
    refine CG.draw (ts := [tPtr (rI .i64) a1.Kind, tD (rI .i64) a1.Kind, tPtr (rI .i64) b.Kind, tD (rI .i64) b.Kind, tD (rI .i64) r2, tPtr (rI .i64) a1.N, tD (rI .i64) a1.N, tPtr (rI .i64) b.N, tD (rI .i64) b.N, tD (rI .i64) r3, tPtr rS a1.S, tD rS a1.S, tPtr rS b.S, tD rS b.S, tD (rI .i64) r4, tD (rSl (rI .i64)) ([r2, r3, r4]), tD (rI .i64) r5, tD (rI .i64) r5]) mixed rfl rfl
      ⟨⟨[⟨2, _, none⟩], _, rfl, ⟨rfl, trivial⟩, rfl, rfl, OpG.plain rfl (ok_fieldAddr fd37_0 rfl flDValue_0 rfl (ht rfl))⟩,
      ⟨⟨[⟨13, _, some 0⟩], _, rfl, ⟨rfl, trivial⟩, rfl, rfl, OpG.plain rfl (ok_load ti3 rfl rfl (ht rfl))⟩,
      ⟨⟨[⟨3, _, none⟩], _, rfl, ⟨rfl, trivial⟩, rfl, rfl, OpG.plain rfl (ok_fieldAddr fd37_0 rfl flDValue_0 rfl (ht rfl))⟩,
      ⟨⟨[⟨15, _, some 2⟩], _, rfl, ⟨rfl, trivial⟩, rfl, rfl, OpG.plain rfl (ok_load ti3 rfl rfl (ht rfl))⟩,
      ⟨⟨[⟨14, _, some 1⟩, ⟨16, _, some 3⟩], _, rfl, ⟨rfl, rfl, trivial⟩, rfl, rfl, OpG.plain rfl (ok_call cb97 (f97_ok _ _ q_r2) ⟨(ht rfl), (ht rfl), trivial⟩)⟩,
      ⟨⟨[⟨2, _, none⟩], _, rfl, ⟨rfl, trivial⟩, rfl, rfl, OpG.plain rfl (ok_fieldAddr fd37_1 rfl flDValue_1 rfl (ht rfl))⟩,
      ⟨⟨[⟨18, _, some 5⟩], _, rfl, ⟨rfl, trivial⟩, rfl, rfl, OpG.plain rfl (ok_load ti2 rfl rfl (ht rfl))⟩,
      ⟨⟨[⟨3, _, none⟩], _, rfl, ⟨rfl, trivial⟩, rfl, rfl, OpG.plain rfl (ok_fieldAddr fd37_1 rfl flDValue_1 rfl (ht rfl))⟩,
      ⟨⟨[⟨20, _, some 7⟩], _, rfl, ⟨rfl, trivial⟩, rfl, rfl, OpG.plain rfl (ok_load ti2 rfl rfl (ht rfl))⟩,
      ⟨⟨[⟨19, _, some 6⟩, ⟨21, _, some 8⟩], _, rfl, ⟨rfl, rfl, trivial⟩, rfl, rfl, OpG.plain rfl (ok_call cb98 (f98_ok _ _ q_r3) ⟨(ht rfl), (ht rfl), trivial⟩)⟩,
      ⟨⟨[⟨2, _, none⟩], _, rfl, ⟨rfl, trivial⟩, rfl, rfl, OpG.plain rfl (ok_fieldAddr fd37_3 rfl flDValue_3 rfl (ht rfl))⟩,
      ⟨⟨[⟨23, _, some 10⟩], _, rfl, ⟨rfl, trivial⟩, rfl, rfl, OpG.plain rfl (ok_load ti9 rfl rfl (ht rfl))⟩,
      ⟨⟨[⟨3, _, none⟩], _, rfl, ⟨rfl, trivial⟩, rfl, rfl, OpG.plain rfl (ok_fieldAddr fd37_3 rfl flDValue_3 rfl (ht rfl))⟩,
      ⟨⟨[⟨25, _, some 12⟩], _, rfl, ⟨rfl, trivial⟩, rfl, rfl, OpG.plain rfl (ok_load ti9 rfl rfl (ht rfl))⟩,
      ⟨⟨[⟨24, _, some 11⟩, ⟨26, _, some 13⟩], _, rfl, ⟨rfl, rfl, trivial⟩, rfl, rfl, OpG.plain rfl (ok_call cb99 (f99_ok _ _ q_r4) ⟨(ht rfl), (ht rfl), trivial⟩)⟩,
      ⟨⟨[⟨17, _, some 4⟩, ⟨22, _, some 9⟩, ⟨27, _, some 14⟩], _, rfl, ⟨rfl, rfl, rfl, trivial⟩, rfl, rfl, OpG.plain rfl (ok_buildSlice (r := (rI .i64)) (ys := [r2, r3, r4]) (xs := [.tmp 17, .tmp 22, .tmp 27]) Tryd.underlying33 ti3 rfl rfl rfl rfl rfl ⟨(ht rfl), (ht rfl), (ht rfl), trivial⟩)⟩,
      ⟨⟨[⟨28, _, some 15⟩], _, rfl, ⟨rfl, trivial⟩, rfl, rfl, OpG.plain rfl (ok_call cb96 (f96_ok _ q_r5) ⟨(ht rfl), trivial⟩)⟩,
      ⟨⟨[⟨29, _, some 16⟩], _, rfl, ⟨rfl, trivial⟩, rfl, rfl, OpG.plain rfl (ok_assign (ht rfl))⟩,
      trivial⟩⟩⟩⟩⟩⟩⟩⟩⟩⟩⟩⟩⟩⟩⟩⟩⟩⟩ ?_
    refine AT.next ?_
    refine CG.ret ?_
    cases so h
    exact AT.ret1 rfl rfl

set_option maxRecDepth 100000 in
theorem f63_ok (a1 : DValue) (b : DValue) (is1 : (Int → Option Bool)) {R : DValue × Int} (h : value_held a1 b is1 = some R) : Spec Tryd.prog 63 [tD rpDValue a1, tD rpDValue b, (tFun Tryd.prog (fun (x : Int) => [tD (rI .i64) x]) (fun (x : Bool) => tD rB x) (fun (x : Int) => is1 x))] (tT [tD rpDValue R.1, tD (rI .i64) R.2]) := by
  refine Spec.of Tryd.func63 rfl rfl rfl fun w0 S0 => ?_
  refine CG.seq ?_
  refine CG.region ?_
  refine RG.op (ok_box (ht rfl)) rfl ?_
  refine RG.op (ok_box (ht rfl)) rfl ?_
  refine RG.alloc (r := rpDValue) (x := (⟨(0 : Int), (0 : Int), (0 : Int), []⟩ : DValue)) ti37 (fun _ => zrDValue _) rfl (fun b1 => ?_)
  refine RG.op (ok_assign hI) rfl ?_
  refine RG.nil ?_
  refine AT.next ?_
  refine CG.seq ?_
  refine CG.seq ?_
  refine CG.region ?_
  refine RG.op (ok_load ti37 rfl rfl (ht rfl)) rfl ?_
  refine RG.op (ok_load ti37 rfl rfl (ht rfl)) rfl ?_
  refine RG.op (ok_buildSlice (r := rpDValue) (ys := [a1, b]) (xs := [.tmp 10, .tmp 11]) Tryd.underlying25 ti37 rfl rfl rfl rfl rfl ⟨(ht rfl), (ht rfl), trivial⟩) rfl ?_
  obtain ⟨r, q_r, h⟩ := bs h
  refine RG.op (ok_call cb90 (f90_ok _ q_r) ⟨(ht rfl), trivial⟩) rfl ?_
  refine RG.op (ok_assign (ht rfl)) rfl ?_
  refine RG.nil ?_
  refine AT.next ?_
  refine CG.seq ?_
  refine CG.region ?_
  refine RG.op (ok_move (ht rfl)) rfl ?_
  refine RG.op (ok_neqI (ht rfl) hI) rfl ?_
  refine RG.nil ?_
  refine AT.next ?_
  refine CG.cond (ht rfl) (fun hc => ?_) (fun hc => ?_)
  · have h := ct h hc
    refine CG.seq ?_
    refine CG.region ?_
    refine RG.op (ok_build (y := (⟨(0 : Int), (0 : Int), (0 : Int), []⟩ : DValue)) ti37 fs37 zrDValue (rfl)) rfl ?_
    refine RG.op (ok_move (ht rfl)) rfl ?_
    refine RG.storeB ti37 rfl sfld_whole rfl (ht rfl) (ht rfl) ?_
    refine RG.op (ok_assign (ht rfl)) rfl ?_
    refine RG.nil ?_
    refine AT.next ?_
    refine CG.ret ?_
    refine AT.then_ret ?_
    refine AT.settleB 6 rfl ?_
    cases so h
    exact AT.retL (rvs := [.cell 6 37, .tmp 7]) rfl rfl ⟨res_cell ti37 rfl rfl rfl, res_tmp rfl, trivial⟩
  · have h := cf h hc
    refine CG.skip ?_
    refine AT.next ?_
    refine CG.seq ?_
    refine CG.region ?_
    refine RG.op (ok_fieldAddr fd37_0 rfl flDValue_0 rfl (ht rfl)) rfl ?_
    refine RG.op (ok_load ti3 rfl rfl (ht rfl)) rfl ?_
    refine RG.op (ok_eqlI (ht rfl) hI) rfl ?_
    refine RG.op (ok_move (ht rfl)) rfl ?_
    refine RG.opGf rfl rfl rfl rfl (fun hg => ok_fieldAddr fd37_0 rfl flDValue_0 rfl (ht rfl)) ?_
    refine RG.opGf rfl rfl rfl rfl (fun hg => ok_load ti3 rfl rfl (htO rfl hg)) ?_
    refine RG.opGf rfl rfl rfl rfl (fun hg => ok_eqlI (htO rfl hg) hI) ?_
    refine RG.op (ok_pickOr (ht rfl) (fun hb => (htO rfl (noti hb)))) rfl ?_
    refine RG.op (ok_assign (ht rfl)) rfl ?_
    refine RG.nil ?_
    refine AT.next ?_
    refine CG.seq ?_
    refine CG.block ?_
    refine CG.seq ?_
    refine CG.region ?_
    refine RG.op (ok_fieldAddr fd37_0 rfl flDValue_0 rfl (ht rfl)) rfl ?_
    refine RG.op (ok_load ti3 rfl rfl (ht rfl)) rfl ?_
    refine RG.op (ok_eqlI (ht rfl) hI) rfl ?_
    refine RG.op (ok_move (ht rfl)) rfl ?_
    refine RG.opGf rfl rfl rfl rfl (fun hg => ok_fieldAddr fd37_0 rfl flDValue_0 rfl (ht rfl)) ?_
    refine RG.opGf rfl rfl rfl rfl (fun hg => ok_load ti3 rfl rfl (htO rfl hg)) ?_
    refine RG.opGf rfl rfl rfl rfl (fun hg => ok_eqlI (htO rfl hg) hI) ?_
    refine RG.op (ok_pickOr (ht rfl) (fun hb => (htO rfl (noti hb)))) rfl ?_
    refine RG.op (ok_move (ht rfl)) rfl ?_
    refine RG.opGf rfl rfl rfl rfl (fun hg => ok_move (ht rfl)) ?_
    refine RG.opGf rfl rfl rfl rfl (fun hg => ok_not (htO rfl hg)) ?_
    refine RG.opGf rfl rfl rfl rfl (fun hg => ok_move (htO rfl hg)) ?_
    refine RG.opGot rfl rfl rfl rfl (fun hg => ok_fieldAddr fd37_0 rfl flDValue_0 rfl (ht rfl)) ?_
    refine RG.opGot rfl rfl rfl rfl (fun hg => ok_load ti3 rfl rfl (htO rfl hg)) ?_
    refine RG.opGot rfl rfl rfl rfl (fun hg => ok_fieldAddr fd37_0 rfl flDValue_0 rfl (ht rfl)) ?_
    refine RG.opGot rfl rfl rfl rfl (fun hg => ok_load ti3 rfl rfl (htO rfl hg)) ?_
    refine RG.opGot rfl rfl rfl rfl (fun hg => ok_neqI (htO rfl hg) (htO rfl hg)) ?_
    refine RG.opGf rfl rfl rfl rfl (fun hg => ok_pickAnd (htO rfl hg) (fun hb => (htO rfl (andi hg hb)))) ?_
    refine RG.op (ok_pickOr (ht rfl) (fun hb => (htO rfl (noti hb)))) rfl ?_
    refine RG.op (ok_assign (ht rfl)) rfl ?_
    refine RG.nil ?_
    refine AT.next ?_
    refine CG.cond (ht rfl) (fun hc => ?_) (fun hc => ?_)
    · have h := ct h hc
      refine CG.seq ?_
      refine CG.region ?_
      refine RG.op (ok_build (y := (⟨(0 : Int), (0 : Int), (0 : Int), []⟩ : DValue)) ti37 fs37 zrDValue (rfl)) rfl ?_
      refine RG.storeB ti37 rfl sfld_whole rfl (ht rfl) (ht rfl) ?_
      refine RG.op (ok_assign hI) rfl ?_
      refine RG.nil ?_
      refine AT.next ?_
      refine CG.ret ?_
      refine AT.in_ret (AT.then_ret ?_)
      refine AT.settleB 6 rfl ?_
      cases so h
      exact AT.retL (rvs := [.cell 6 37, .tmp 7]) rfl rfl ⟨res_cell ti37 rfl rfl rfl, res_tmp rfl, trivial⟩
    · have h := cf h hc
      refine CG.seq ?_
      refine CG.region ?_
      refine RG.op (ok_move (ht rfl)) rfl ?_
      refine RG.op (ok_assign (ht rfl)) rfl ?_
      refine RG.nil ?_
      refine AT.next ?_
      refine CG.cond (ht rfl) (fun hc => ?_) (fun hc => ?_)
      · have h := ct h hc
        refine CG.seq ?_
        refine CG.region ?_
        obtain ⟨r1, q_r1, h⟩ := bs h
        refine RG.op (ok_call cb91 (f91_ok  q_r1) trivial) rfl ?_
        refine RG.storeB ti37 rfl sfld_whole rfl (ht rfl) (ht rfl) ?_
        refine RG.op (ok_assign hI) rfl ?_
        refine RG.nil ?_
        refine AT.next ?_
        refine CG.ret ?_
        refine AT.in_ret (AT.then_ret ?_)
        refine AT.settleB 6 rfl ?_
        cases so h
        exact AT.retL (rvs := [.cell 6 37, .tmp 7]) rfl rfl ⟨res_cell ti37 rfl rfl rfl, res_tmp rfl, trivial⟩
      · have h := cf h hc
        refine CG.skip ?_
        refine AT.in_normal ?_
        refine AT.next ?_
        refine CG.seq ?_
        refine CG.region ?_
        refine RG.op (ok_move (ht rfl)) rfl ?_
        refine RG.op (ok_load ti37 rfl rfl (ht rfl)) rfl ?_
        refine RG.op (ok_load ti37 rfl rfl (ht rfl)) rfl ?_
        obtain ⟨r2, q_r2, h⟩ := bs h
        refine RG.op (ok_call cb92 (f92_ok _ _ q_r2) ⟨(ht rfl), (ht rfl), trivial⟩) rfl ?_
        obtain ⟨r3, q_r3, h⟩ := bs h
        refine RG.op (ok_callV (args := (fun (x : Int) => [tD (rI .i64) x])) (res := (fun (x : Bool) => tD rB x)) (f := (fun (x : Int) => is1 x)) (x := ((r2) : Int)) (ht rfl) q_r3 ⟨(ht rfl), trivial⟩) rfl ?_
        obtain ⟨r4, q_r4, h⟩ := bs h
        refine RG.op (ok_call cb70 (f70_ok _ q_r4) ⟨(ht rfl), trivial⟩) rfl ?_
        refine RG.storeB ti37 rfl sfld_whole rfl (ht rfl) (ht rfl) ?_
        refine RG.op (ok_assign hI) rfl ?_
        refine RG.nil ?_
        refine AT.next ?_
        refine CG.ret ?_
        refine AT.settleB 6 rfl ?_
        cases so h
        exact AT.retL (rvs := [.cell 6 37, .tmp 7]) rfl rfl ⟨res_cell ti37 rfl rfl rfl, res_tmp rfl, trivial⟩

set_option maxRecDepth 100000 in
theorem f64_ok (c : Int) {R : Bool} (h : value_Less_1 c = some R) : Spec Tryd.prog 64 [tD (rI .i64) c] (tD rB R) := by
  refine Spec.of Tryd.func64 rfl rfl rfl fun w0 S0 => ?_
  refine CG.seq ?_
  refine CG.region ?_
  refine RG.op (ok_assign hB) rfl ?_
  refine RG.nil ?_
  refine AT.next ?_
  refine CG.seq ?_
  refine CG.region ?_
  refine RG.op (ok_move (ht rfl)) rfl ?_
  refine RG.op (ok_lss (ht rfl) hI) rfl ?_
  refine RG.op (ok_assign (ht rfl)) rfl ?_
  refine RG.nil ?_
  refine AT.next ?_
  refine CG.ret ?_
  cases so h
  exact AT.ret1 rfl rfl

set_option maxRecDepth 100000 in
theorem f33_ok (a1 : DValue) (b : DValue) {R : DValue × Int} (h : value_Less a1 b = some R) : Spec Tryd.prog 33 [tD rpDValue a1, tD rpDValue b] (tT [tD rpDValue R.1, tD (rI .i64) R.2]) := by
  refine Spec.of Tryd.func33 rfl rfl rfl fun w0 S0 => ?_
  refine CG.seq ?_
  refine CG.region ?_
  refine RG.op (ok_box (ht rfl)) rfl ?_
  refine RG.op (ok_box (ht rfl)) rfl ?_
  refine RG.alloc (r := rpDValue) (x := (⟨(0 : Int), (0 : Int), (0 : Int), []⟩ : DValue)) ti37 (fun _ => zrDValue _) rfl (fun b1 => ?_)
  refine RG.op (ok_assign hI) rfl ?_
  refine RG.nil ?_
  refine AT.next ?_
  refine CG.seq ?_
  refine CG.region ?_
  refine RG.op (ok_load ti37 rfl rfl (ht rfl)) rfl ?_
  refine RG.op (ok_load ti37 rfl rfl (ht rfl)) rfl ?_
  obtain ⟨r, q_r, h⟩ := bs h
  refine RG.op (ok_call cb63 (f63_ok _ _ _ q_r) ⟨(ht rfl), (ht rfl), (hFn cb64 fun x y h => f64_ok _ h), trivial⟩) rfl ?_
  refine RG.op (ok_extract rfl (ht rfl)) rfl ?_
  refine RG.op (ok_extract rfl (ht rfl)) rfl ?_
  refine RG.storeB ti37 rfl sfld_whole rfl (ht rfl) (ht rfl) ?_
  refine RG.settleB 4 rfl ?_
  refine RG.op (ok_assign (ht rfl)) rfl ?_
  refine RG.nil ?_
  refine AT.next ?_
  refine CG.ret ?_
  cases so h
  exact AT.retL (rvs := [.cell 4 37, .tmp 5]) rfl rfl ⟨res_cell ti37 rfl rfl rfl, res_tmp rfl, trivial⟩

set_option maxRecDepth 100000 in
theorem f65_ok (do1 : (DValue → Option (DValue × Int))) (a1 : DValue) (x : DValue) {R : DValue × Int} (h : expr_first_1 do1 a1 x = some R) : Spec Tryd.prog 65 [tD rpDValue a1, tD rpDValue x, tPtr (rT ((tFun Tryd.prog (fun (x : DValue) => [tD rpDValue x]) (fun (x : DValue × Int) => tT [tD rpDValue x.1, tD (rI .i64) x.2]) (fun (x : DValue) => do1 x)))) ()] (tT [tD rpDValue R.1, tD (rI .i64) R.2]) := by
  refine Spec.of Tryd.func65 rfl rfl rfl fun w0 S0 => ?_
  refine CG.seq ?_
  refine CG.region ?_
  refine RG.op (ok_box (ht rfl)) rfl ?_
  refine RG.op (ok_box (ht rfl)) rfl ?_
  refine RG.alloc (r := rpDValue) (x := (⟨(0 : Int), (0 : Int), (0 : Int), []⟩ : DValue)) ti37 (fun _ => zrDValue _) rfl (fun b => ?_)
  refine RG.op (ok_assign hI) rfl ?_
  refine RG.nil ?_
  refine AT.next ?_
  refine CG.seq ?_
  refine CG.region ?_
  refine RG.op (ok_loadF ti75 (ht rfl)) rfl ?_
  refine RG.op (ok_load ti37 rfl rfl (ht rfl)) rfl ?_
  obtain ⟨r, q_r, h⟩ := bs h
  refine RG.op (ok_callV (args := (fun (x : DValue) => [tD rpDValue x])) (res := (fun (x : DValue × Int) => tT [tD rpDValue x.1, tD (rI .i64) x.2])) (f := (fun (x : DValue) => do1 x)) (x := ((a1) : DValue)) (ht rfl) q_r ⟨(ht rfl), trivial⟩) rfl ?_
  refine RG.op (ok_extract rfl (ht rfl)) rfl ?_
  refine RG.op (ok_extract rfl (ht rfl)) rfl ?_
  refine RG.storeB ti37 rfl sfld_whole rfl (ht rfl) (ht rfl) ?_
  refine RG.settleB 5 rfl ?_
  refine RG.op (ok_assign (ht rfl)) rfl ?_
  refine RG.nil ?_
  refine AT.next ?_
  refine CG.ret ?_
  cases so h
  exact AT.retL (rvs := [.cell 5 37, .tmp 6]) rfl rfl ⟨res_cell ti37 rfl rfl rfl, res_tmp rfl, trivial⟩

set_option maxRecDepth 100000 in
theorem f34_ok (do1 : (DValue → Option (DValue × Int))) {R : (DValue → DValue → Option (DValue × Int))} (h : expr_first do1 = some R) : Spec Tryd.prog 34 [(tFun Tryd.prog (fun (x : DValue) => [tD rpDValue x]) (fun (x : DValue × Int) => tT [tD rpDValue x.1, tD (rI .i64) x.2]) (fun (x : DValue) => do1 x))] ((tFun Tryd.prog (fun (x : DValue × DValue) => [tD rpDValue x.1, tD rpDValue x.2]) (fun (x : DValue × Int) => tT [tD rpDValue x.1, tD (rI .i64) x.2]) (fun (x : DValue × DValue) => R x.1 x.2))) := by
  refine Spec.of Tryd.func34 rfl rfl rfl fun w0 S0 => ?_
  refine CG.seq ?_
  refine CG.region ?_
  refine RG.op (ok_boxF (ht rfl)) rfl ?_
  refine RG.op (ok_assign hV) rfl ?_
  refine RG.nil ?_
  refine AT.next ?_
  refine CG.seq ?_
  refine CG.region ?_
  refine RG.op ((show OpOK _ _ _ _ ((tFun Tryd.prog (fun (x : DValue × DValue) => [tD rpDValue x.1, tD rpDValue x.2]) (fun (x : DValue × Int) => tT [tD rpDValue x.1, tD (rI .i64) x.2]) (fun (x : DValue × DValue) => (expr_first_1 do1) x.1 x.2))) from ok_makeFunc (cts := [tPtr (rT ((tFun Tryd.prog (fun (x : DValue) => [tD rpDValue x]) (fun (x : DValue × Int) => tT [tD rpDValue x.1, tD (rI .i64) x.2]) (fun (x : DValue) => do1 x)))) ()]) (caps := [.tmp 1]) cb65 ⟨(ht rfl), trivial⟩ (fun x y h => f65_ok _ _ _ h))) rfl ?_
  refine RG.op (ok_assign (ht rfl)) rfl ?_
  refine RG.nil ?_
  refine AT.next ?_
  refine CG.ret ?_
  cases so h
  exact AT.ret1 rfl rfl

set_option maxRecDepth 100000 in
theorem f66_ok (n : Int) {R : DValue} (h : value_Int n = some R) : Spec Tryd.prog 66 [tD (rI .i64) n] (tD rpDValue R) := by
  refine Spec.of Tryd.func66 rfl rfl rfl fun w0 S0 => ?_
  refine CG.seq ?_
  refine CG.region ?_
  refine RG.alloc (r := rpDValue) (x := (⟨(0 : Int), (0 : Int), (0 : Int), []⟩ : DValue)) ti37 (fun _ => zrDValue _) rfl (fun b => ?_)
  refine RG.nil ?_
  refine AT.next ?_
  refine CG.seq ?_
  refine CG.region ?_
  refine RG.op (ok_move (ht rfl)) rfl ?_
  refine RG.op (ok_build (y := (⟨(2 : Int), n, (0 : Int), []⟩ : DValue)) ti37 fs37 zrDValue (⟨_, _, _, _, _, rfl, sfDValue_0, rfl, hI, ⟨_, _, _, _, _, rfl, sfDValue_1, rfl, (ht rfl), rfl⟩⟩)) rfl ?_
  refine RG.storeB ti37 rfl sfld_whole rfl (ht rfl) (ht rfl) ?_
  refine RG.settleB 2 rfl ?_
  refine RG.nil ?_
  refine AT.next ?_
  refine CG.ret ?_
  cases so h
  exact AT.ret1c rfl ti37 rfl rfl rfl

set_option maxRecDepth 100000 in
theorem f94_ok (kind : Int) (l : (List DValue)) {R : Int} (h : arith_are kind l = some R) : Spec Tryd.prog 94 [tD (rI .i64) kind, tD (rSl rpDValue) l] (tD (rI .i64) R) := by
  refine Spec.of Tryd.func94 rfl rfl rfl fun w0 S0 => ?_
  refine CG.seq ?_
  refine CG.region ?_
  refine RG.op (ok_assign hI) rfl ?_
  refine RG.nil ?_
  refine AT.next ?_
  refine CG.seq ?_
  refine CG.region ?_
  refine RG.op (ok_assign hI) rfl ?_
  refine RG.nil ?_
  refine AT.next ?_
  refine CG.seq ?_
  refine CG.seq ?_
  refine CG.region ?_
  refine RG.op (ok_move (ht rfl)) rfl ?_
  refine RG.op (ok_lenSl Tryd.underlying25 (ht rfl)) rfl ?_
  refine RG.op (ok_move hI) rfl ?_
  refine RG.nil ?_
  refine AT.next ?_
  refine CG.block ?_
  refine CG.have_len (k := 8) rfl (fun hN => ?_)
  refine CG.loop ?_
  refine LG.sub (LG.list2 (Z := fun ls i e => (l.drop i = ls) ∧ arith_are_l1 kind ls e = some R) (Of := fun _ i e => []) (Gf := fun _ i e => [(0, tD (rI .i64) kind), (5, tD (rI .i64) e), (8, tD (rSl rpDValue) l), (9, tD (rI .i64) (l.length : Int)), (10, tD (rI .i64) (i : Int))]) (fun i e h => ?_) (fun e1 tl ih i e h => ?_) l 0 (0 : Int) ⟨rfl, h⟩) ⟨rfl, rfl, rfl, rfl, rfl, trivial⟩
  · obtain ⟨hx, h⟩ := h
    refine LG.unfold ?_
    refine CG.seq ?_
    refine CG.region ?_
    refine RG.op (ok_lss (ht rfl) (ht rfl)) rfl ?_
    refine RG.nil ?_
    refine AT.next ?_
    refine CG.seq ?_
    refine CG.condF (ht rfl) (dropF hx) ?_
    refine CG.exit ?_
    refine AT.then_exit (AT.then_exit (AT.in_exit ?_))
    refine AT.next ?_
    refine CG.seq ?_
    refine CG.region ?_
    refine RG.op (ok_move (ht rfl)) rfl ?_
    refine RG.op (ok_assign (ht rfl)) rfl ?_
    refine RG.nil ?_
    refine AT.next ?_
    refine CG.ret ?_
    cases so h
    exact AT.ret1 rfl rfl
  · obtain ⟨hx, h⟩ := h
    refine LG.unfold ?_
    refine CG.seq ?_
    refine CG.region ?_
    refine RG.op (ok_lss (ht rfl) (ht rfl)) rfl ?_
    refine RG.nil ?_
    refine AT.next ?_
    refine CG.seq ?_
    refine CG.condT (ht rfl) (dropT hx) ?_
    refine CG.skip ?_
    refine AT.next ?_
    refine CG.seq ?_
    refine CG.block ?_
    refine CG.seq ?_
    refine CG.region ?_
    refine RG.op (ok_indexAddr Tryd.underlying25 ti37 rfl (ht rfl) (ht rfl) (dropI hx)) rfl ?_
    refine RG.op (ok_load ti37 rfl rfl (ht rfl)) rfl ?_
    refine RG.alloc (r := rpDValue) (x := (⟨(0 : Int), (0 : Int), (0 : Int), []⟩ : DValue)) ti37 (fun _ => zrDValue _) rfl (fun b => ?_)
    refine RG.storeB ti37 rfl sfld_whole rfl (ht rfl) (ht rfl) ?_
    refine RG.settleB 7 rfl ?_
    refine RG.nil ?_
    refine AT.next ?_
    refine CG.seq ?_
    refine CG.seq ?_
    refine CG.region ?_
    refine RG.op (ok_load ti37 rfl rfl (ht rfl)) rfl ?_
    obtain ⟨r, q_r, h⟩ := bs h
    refine RG.op (ok_call cb31 (f31_ok _ q_r) ⟨(ht rfl), trivial⟩) rfl ?_
    refine RG.op (ok_neqI (ht rfl) hI) rfl ?_
    refine RG.nil ?_
    refine AT.next ?_
    refine CG.cond (ht rfl) (fun hc => ?_) (fun hc => ?_)
    · have h := ct h hc
      refine CG.seq ?_
      refine CG.region ?_
      refine RG.op (ok_assign hI) rfl ?_
      refine RG.nil ?_
      refine AT.next ?_
      refine CG.ret ?_
      refine AT.then_ret (AT.in_ret (AT.then_ret (AT.then_ret (AT.in_ret (AT.then_ret ?_)))))
      cases so h
      exact AT.ret1 rfl rfl
    · have h := cf h hc
      refine CG.skip ?_
      refine AT.next ?_
      refine CG.seq ?_
      refine CG.region ?_
      refine RG.op (ok_fieldAddr fd37_0 rfl flDValue_0 rfl (ht rfl)) rfl ?_
      refine RG.op (ok_load ti3 rfl rfl (ht rfl)) rfl ?_
      refine RG.op (ok_neqI (ht rfl) hI) rfl ?_
      refine RG.op (ok_move (ht rfl)) rfl ?_
      refine RG.opGt rfl rfl rfl rfl (fun hg => ok_fieldAddr fd37_0 rfl flDValue_0 rfl (ht rfl)) ?_
      refine RG.opGt rfl rfl rfl rfl (fun hg => ok_load ti3 rfl rfl (htO rfl hg)) ?_
      refine RG.opGt rfl rfl rfl rfl (fun hg => ok_move (ht rfl)) ?_
      refine RG.opGt rfl rfl rfl rfl (fun hg => ok_neqI (htO rfl hg) (htO rfl hg)) ?_
      refine RG.op (ok_pickAnd (ht rfl) (fun hb => (htO rfl hb))) rfl ?_
      refine RG.nil ?_
      refine AT.next ?_
      refine CG.cond (ht rfl) (fun hc => ?_) (fun hc => ?_)
      · have h := ct h hc
        refine CG.region ?_
        refine RG.op (ok_assign hI) rfl ?_
        refine RG.nil ?_
        refine AT.in_normal ?_
        refine AT.next ?_
        refine CG.region ?_
        refine RG.op (ok_incN (dropL hx hN) (ht rfl) hI) rfl ?_
        refine RG.op (ok_move (ht rfl)) rfl ?_
        refine RG.nil ?_
        exact AT.round (LG.sub (ih (i + 1) (2 : Int) ⟨dropS hx, h⟩) ⟨rfl, rfl, rfl, rfl, rfl, trivial⟩)
      · have h := cf h hc
        refine CG.skip ?_
        refine AT.in_normal ?_
        refine AT.next ?_
        refine CG.region ?_
        refine RG.op (ok_incN (dropL hx hN) (ht rfl) hI) rfl ?_
        refine RG.op (ok_move (ht rfl)) rfl ?_
        refine RG.nil ?_
        exact AT.round (LG.sub (ih (i + 1) e ⟨dropS hx, h⟩) ⟨rfl, rfl, rfl, rfl, rfl, trivial⟩)

set_option maxRecDepth 100000 in
theorem f71_ok (a1 : DValue) (b : DValue) (to : (Int → Int → Option (Int × Bool))) {R : DValue × Int} (h : arith_do a1 b to = some R) : Spec Tryd.prog 71 [tD rpDValue a1, tD rpDValue b, (tFun Tryd.prog (fun (x : Int × Int) => [tD (rI .i64) x.1, tD (rI .i64) x.2]) (fun (x : Int × Bool) => tT [tD (rI .i64) x.1, tD rB x.2]) (fun (x : Int × Int) => to x.1 x.2))] (tT [tD rpDValue R.1, tD (rI .i64) R.2]) := by
  refine Spec.of Tryd.func71 rfl rfl rfl fun w0 S0 => ?_
  refine CG.seq ?_
  refine CG.region ?_
  refine RG.op (ok_box (ht rfl)) rfl ?_
  refine RG.op (ok_box (ht rfl)) rfl ?_
  refine RG.alloc (r := rpDValue) (x := (⟨(0 : Int), (0 : Int), (0 : Int), []⟩ : DValue)) ti37 (fun _ => zrDValue _) rfl (fun b1 => ?_)
  refine RG.op (ok_assign hI) rfl ?_
  refine RG.nil ?_
  refine AT.next ?_
  refine CG.seq ?_
  refine CG.seq ?_
  refine CG.region ?_
  refine RG.op (ok_load ti37 rfl rfl (ht rfl)) rfl ?_
  refine RG.op (ok_load ti37 rfl rfl (ht rfl)) rfl ?_
  refine RG.op (ok_buildSlice (r := rpDValue) (ys := [a1, b]) (xs := [.tmp 11, .tmp 12]) Tryd.underlying25 ti37 rfl rfl rfl rfl rfl ⟨(ht rfl), (ht rfl), trivial⟩) rfl ?_
  obtain ⟨r, q_r, h⟩ := bs h
  refine RG.op (ok_call cb94 (f94_ok _ _ q_r) ⟨hI, (ht rfl), trivial⟩) rfl ?_
  refine RG.op (ok_assign (ht rfl)) rfl ?_
  refine RG.nil ?_
  refine AT.next ?_
  refine CG.seq ?_
  refine CG.region ?_
  refine RG.op (ok_move (ht rfl)) rfl ?_
  refine RG.op (ok_neqI (ht rfl) hI) rfl ?_
  refine RG.nil ?_
  refine AT.next ?_
  refine CG.cond (ht rfl) (fun hc => ?_) (fun hc => ?_)
  · have h := ct h hc
    refine CG.seq ?_
    refine CG.region ?_
    refine RG.op (ok_build (y := (⟨(0 : Int), (0 : Int), (0 : Int), []⟩ : DValue)) ti37 fs37 zrDValue (rfl)) rfl ?_
    refine RG.op (ok_move (ht rfl)) rfl ?_
    refine RG.storeB ti37 rfl sfld_whole rfl (ht rfl) (ht rfl) ?_
    refine RG.op (ok_assign (ht rfl)) rfl ?_
    refine RG.nil ?_
    refine AT.next ?_
    refine CG.ret ?_
    refine AT.then_ret ?_
    refine AT.settleB 6 rfl ?_
    cases so h
    exact AT.retL (rvs := [.cell 6 37, .tmp 7]) rfl rfl ⟨res_cell ti37 rfl rfl rfl, res_tmp rfl, trivial⟩
  · have h := cf h hc
    refine CG.skip ?_
    refine AT.next ?_
    refine CG.seq ?_
    refine CG.seq ?_
    refine CG.region ?_
    refine RG.op (ok_fieldAddr fd37_0 rfl flDValue_0 rfl (ht rfl)) rfl ?_
    refine RG.op (ok_load ti3 rfl rfl (ht rfl)) rfl ?_
    refine RG.op (ok_eqlI (ht rfl) hI) rfl ?_
    refine RG.op (ok_move (ht rfl)) rfl ?_
    refine RG.opGf rfl rfl rfl rfl (fun hg => ok_fieldAddr fd37_0 rfl flDValue_0 rfl (ht rfl)) ?_
    refine RG.opGf rfl rfl rfl rfl (fun hg => ok_load ti3 rfl rfl (htO rfl hg)) ?_
    refine RG.opGf rfl rfl rfl rfl (fun hg => ok_eqlI (htO rfl hg) hI) ?_
    refine RG.op (ok_pickOr (ht rfl) (fun hb => (htO rfl (noti hb)))) rfl ?_
    refine RG.nil ?_
    refine AT.next ?_
    refine CG.cond (ht rfl) (fun hc => ?_) (fun hc => ?_)
    · have h := ct h hc
      refine CG.seq ?_
      refine CG.region ?_
      obtain ⟨r1, q_r1, h⟩ := bs h
      refine RG.op (ok_call cb91 (f91_ok  q_r1) trivial) rfl ?_
      refine RG.storeB ti37 rfl sfld_whole rfl (ht rfl) (ht rfl) ?_
      refine RG.op (ok_assign hI) rfl ?_
      refine RG.nil ?_
      refine AT.next ?_
      refine CG.ret ?_
      refine AT.then_ret ?_
      refine AT.settleB 6 rfl ?_
      cases so h
      exact AT.retL (rvs := [.cell 6 37, .tmp 7]) rfl rfl ⟨res_cell ti37 rfl rfl rfl, res_tmp rfl, trivial⟩
    · have h := cf h hc
      refine CG.skip ?_
      refine AT.next ?_
      refine CG.seq ?_
      refine CG.region ?_
      refine RG.op (ok_move (ht rfl)) rfl ?_
      refine RG.op (ok_fieldAddr fd37_1 rfl flDValue_1 rfl (ht rfl)) rfl ?_
      refine RG.op (ok_load ti2 rfl rfl (ht rfl)) rfl ?_
      refine RG.op (ok_fieldAddr fd37_1 rfl flDValue_1 rfl (ht rfl)) rfl ?_
      refine RG.op (ok_load ti2 rfl rfl (ht rfl)) rfl ?_
      obtain ⟨r2, q_r2, h⟩ := bs h
      refine RG.op (ok_callV (args := (fun (x : Int × Int) => [tD (rI .i64) x.1, tD (rI .i64) x.2])) (res := (fun (x : Int × Bool) => tT [tD (rI .i64) x.1, tD rB x.2])) (f := (fun (x : Int × Int) => to x.1 x.2)) (x := ((a1.N, b.N) : Int × Int)) (ht rfl) q_r2 ⟨(ht rfl), (ht rfl), trivial⟩) rfl ?_
      refine RG.op (ok_move (ht rfl)) rfl ?_
      refine RG.op (ok_extract rfl (ht rfl)) rfl ?_
      refine RG.op (ok_extract rfl (ht rfl)) rfl ?_
      refine RG.op (ok_assign (ht rfl)) rfl ?_
      refine RG.op (ok_assign (ht rfl)) rfl ?_
      refine RG.nil ?_
      refine AT.next ?_
      refine CG.seq ?_
      refine CG.seq ?_
      refine CG.region ?_
      refine RG.op (ok_move (ht rfl)) rfl ?_
      refine RG.op (ok_not (ht rfl)) rfl ?_
      refine RG.nil ?_
      refine AT.next ?_
      refine CG.cond (ht rfl) (fun hc => ?_) (fun hc => ?_)
      · have h := ct h hc
        refine CG.seq ?_
        refine CG.region ?_
        refine RG.op (ok_build (y := (⟨(0 : Int), (0 : Int), (0 : Int), []⟩ : DValue)) ti37 fs37 zrDValue (rfl)) rfl ?_
        refine RG.storeB ti37 rfl sfld_whole rfl (ht rfl) (ht rfl) ?_
        refine RG.op (ok_assign hI) rfl ?_
        refine RG.nil ?_
        refine AT.next ?_
        refine CG.ret ?_
        refine AT.then_ret ?_
        refine AT.settleB 6 rfl ?_
        cases so h
        exact AT.retL (rvs := [.cell 6 37, .tmp 7]) rfl rfl ⟨res_cell ti37 rfl rfl rfl, res_tmp rfl, trivial⟩
      · have h := cf h hc
        refine CG.skip ?_
        refine AT.next ?_
        refine CG.seq ?_
        refine CG.region ?_
        refine RG.op (ok_move (ht rfl)) rfl ?_
        obtain ⟨r3, q_r3, h⟩ := bs h
        refine RG.op (ok_call cb66 (f66_ok _ q_r3) ⟨(ht rfl), trivial⟩) rfl ?_
        refine RG.storeB ti37 rfl sfld_whole rfl (ht rfl) (ht rfl) ?_
        refine RG.op (ok_assign hI) rfl ?_
        refine RG.nil ?_
        refine AT.next ?_
        refine CG.ret ?_
        refine AT.settleB 6 rfl ?_
        cases so h
        exact AT.retL (rvs := [.cell 6 37, .tmp 7]) rfl rfl ⟨res_cell ti37 rfl rfl rfl, res_tmp rfl, trivial⟩

set_option maxRecDepth 100000 in
theorem f73_ok (a1 : Int) (b : Int) {R : Int × Bool} (h : arith_Sub_1 a1 b = some R) : Spec Tryd.prog 73 [tD (rI .i64) a1, tD (rI .i64) b] (tT [tD (rI .i64) R.1, tD rB R.2]) := by
  refine Spec.of Tryd.func73 rfl rfl rfl fun w0 S0 => ?_
  refine CG.seq ?_
  refine CG.region ?_
  refine RG.op (ok_assign hI) rfl ?_
  refine RG.op (ok_assign hB) rfl ?_
  refine RG.nil ?_
  refine AT.next ?_
  refine CG.seq ?_
  refine CG.region ?_
  refine RG.op (ok_move (ht rfl)) rfl ?_
  refine RG.op (ok_move (ht rfl)) rfl ?_
  refine RG.op (ok_sub (ht rfl) (ht rfl)) rfl ?_
  refine RG.op (ok_assign (ht rfl)) rfl ?_
  refine RG.nil ?_
  refine AT.next ?_
  refine CG.seq ?_
  refine CG.region ?_
  refine RG.op (ok_move (ht rfl)) rfl ?_
  refine RG.op (ok_move (ht rfl)) rfl ?_
  refine RG.op (ok_move (ht rfl)) rfl ?_
  refine RG.op (ok_xor (ht rfl) (ht rfl)) rfl ?_
  refine RG.op (ok_move (ht rfl)) rfl ?_
  refine RG.op (ok_move (ht rfl)) rfl ?_
  refine RG.op (ok_xor (ht rfl) (ht rfl)) rfl ?_
  refine RG.op (ok_and (ht rfl) (ht rfl)) rfl ?_
  refine RG.op (ok_geq (ht rfl) hI) rfl ?_
  refine RG.op (ok_assign (ht rfl)) rfl ?_
  refine RG.op (ok_assign (ht rfl)) rfl ?_
  refine RG.nil ?_
  refine AT.next ?_
  refine CG.ret ?_
  cases so h
  exact AT.ret2 rfl rfl rfl

set_option maxRecDepth 100000 in
theorem f39_ok (a1 : DValue) (b : DValue) {R : DValue × Int} (h : arith_Sub a1 b = some R) : Spec Tryd.prog 39 [tD rpDValue a1, tD rpDValue b] (tT [tD rpDValue R.1, tD (rI .i64) R.2]) := by
  refine Spec.of Tryd.func39 rfl rfl rfl fun w0 S0 => ?_
  refine CG.seq ?_
  refine CG.region ?_
  refine RG.op (ok_box (ht rfl)) rfl ?_
  refine RG.op (ok_box (ht rfl)) rfl ?_
  refine RG.alloc (r := rpDValue) (x := (⟨(0 : Int), (0 : Int), (0 : Int), []⟩ : DValue)) ti37 (fun _ => zrDValue _) rfl (fun b1 => ?_)
  refine RG.op (ok_assign hI) rfl ?_
  refine RG.nil ?_
  refine AT.next ?_
  refine CG.seq ?_
  refine CG.region ?_
  refine RG.op (ok_load ti37 rfl rfl (ht rfl)) rfl ?_
  refine RG.op (ok_load ti37 rfl rfl (ht rfl)) rfl ?_
  obtain ⟨r, q_r, h⟩ := bs h
  refine RG.op (ok_call cb71 (f71_ok _ _ _ q_r) ⟨(ht rfl), (ht rfl), (hFn cb73 fun x y h => f73_ok _ _ h), trivial⟩) rfl ?_
  refine RG.op (ok_extract rfl (ht rfl)) rfl ?_
  refine RG.op (ok_extract rfl (ht rfl)) rfl ?_
  refine RG.storeB ti37 rfl sfld_whole rfl (ht rfl) (ht rfl) ?_
  refine RG.settleB 4 rfl ?_
  refine RG.op (ok_assign (ht rfl)) rfl ?_
  refine RG.nil ?_
  refine AT.next ?_
  refine CG.ret ?_
  cases so h
  exact AT.retL (rvs := [.cell 4 37, .tmp 5]) rfl rfl ⟨res_cell ti37 rfl rfl rfl, res_tmp rfl, trivial⟩

set_option maxRecDepth 100000 in
theorem f35_ok (a1 : DValue) {R : DValue × Int} (h : arith_Neg a1 = some R) : Spec Tryd.prog 35 [tD rpDValue a1] (tT [tD rpDValue R.1, tD (rI .i64) R.2]) := by
  refine Spec.of Tryd.func35 rfl rfl rfl fun w0 S0 => ?_
  refine CG.seq ?_
  refine CG.region ?_
  refine RG.op (ok_box (ht rfl)) rfl ?_
  refine RG.alloc (r := rpDValue) (x := (⟨(0 : Int), (0 : Int), (0 : Int), []⟩ : DValue)) ti37 (fun _ => zrDValue _) rfl (fun b => ?_)
  refine RG.op (ok_assign hI) rfl ?_
  refine RG.nil ?_
  refine AT.next ?_
  refine CG.seq ?_
  obtain ⟨r, q_r, h⟩ := bs h
  obtain ⟨r1, q_r1, h⟩ := bs h
  refine CG.drawM 5 (ts := [tD rpDValue r, tD rpDValue a1, tT [tD rpDValue r1.1, tD (rI .i64) r1.2], tD rpDValue r1.1, tD (rI .i64) r1.2]) mixed rfl rfl rfl
    ⟨⟨[], _, rfl, trivial, rfl, rfl, OpG.plain rfl (ok_call cb66 (f66_ok _ q_r) ⟨hI, trivial⟩)⟩,
    ⟨⟨[⟨1, _, none⟩], _, rfl, ⟨rfl, trivial⟩, rfl, rfl, OpG.plain rfl (ok_load ti37 rfl rfl (ht rfl))⟩,
    ⟨⟨[⟨4, _, some 0⟩, ⟨5, _, some 1⟩], _, rfl, ⟨rfl, rfl, trivial⟩, rfl, rfl, OpG.plain rfl (ok_call cb39 (f39_ok _ _ q_r1) ⟨(ht rfl), (ht rfl), trivial⟩)⟩,
    ⟨⟨[⟨6, _, some 2⟩], _, rfl, ⟨rfl, trivial⟩, rfl, rfl, OpG.plain rfl (ok_extract rfl (ht rfl))⟩,
    ⟨⟨[⟨6, _, some 2⟩], _, rfl, ⟨rfl, trivial⟩, rfl, rfl, OpG.plain rfl (ok_extract rfl (ht rfl))⟩,
    trivial⟩⟩⟩⟩⟩ ?_
  refine RG.storeB ti37 rfl sfld_whole rfl (ht rfl) (ht rfl) ?_
  refine RG.settleB 2 rfl ?_
  refine RG.op (ok_assign (ht rfl)) rfl ?_
  refine RG.nil ?_
  refine AT.next ?_
  refine CG.ret ?_
  cases so h
  exact AT.retL (rvs := [.cell 2 37, .tmp 3]) rfl rfl ⟨res_cell ti37 rfl rfl rfl, res_tmp rfl, trivial⟩

set_option maxRecDepth 100000 in
theorem f93_ok (v : DValue) {R : Int} (h : value_truth v = some R) : Spec Tryd.prog 93 [tD rpDValue v] (tD (rI .i64) R) := by
  refine Spec.of Tryd.func93 rfl rfl rfl fun w0 S0 => ?_
  refine CG.seq ?_
  refine CG.region ?_
  refine RG.op (ok_box (ht rfl)) rfl ?_
  refine RG.op (ok_assign hI) rfl ?_
  refine RG.nil ?_
  refine AT.next ?_
  refine CG.seq ?_
  refine CG.seq ?_
  refine CG.region ?_
  refine RG.op (ok_fieldAddr fd37_0 rfl flDValue_0 rfl (ht rfl)) rfl ?_
  refine RG.op (ok_load ti3 rfl rfl (ht rfl)) rfl ?_
  refine RG.op (ok_eqlI (ht rfl) hI) rfl ?_
  refine RG.nil ?_
  refine AT.next ?_
  refine CG.cond (ht rfl) (fun hc => ?_) (fun hc => ?_)
  · have h := ct h hc
    refine CG.seq ?_
    refine CG.region ?_
    refine RG.op (ok_assign hI) rfl ?_
    refine RG.nil ?_
    refine AT.next ?_
    refine CG.ret ?_
    refine AT.then_ret ?_
    cases so h
    exact AT.ret1 rfl rfl
  · have h := cf h hc
    refine CG.skip ?_
    refine AT.next ?_
    refine CG.seq ?_
    refine CG.region ?_
    refine RG.op (ok_fieldAddr fd37_1 rfl flDValue_1 rfl (ht rfl)) rfl ?_
    refine RG.op (ok_load ti2 rfl rfl (ht rfl)) rfl ?_
    refine RG.op (ok_mul hI (ht rfl)) rfl ?_
    refine RG.op (ok_assign (ht rfl)) rfl ?_
    refine RG.nil ?_
    refine AT.next ?_
    refine CG.ret ?_
    cases so h
    exact AT.ret1 rfl rfl

set_option maxRecDepth 100000 in
theorem f67_ok (to : ((List Int) → Option Int)) (l : (List DValue)) {R : DValue × Int} (h : value_logic to l = some R) : Spec Tryd.prog 67 [(tFun Tryd.prog (fun (x : (List Int)) => [tD (rSl (rI .i64)) x]) (fun (x : Int) => tD (rI .i64) x) (fun (x : (List Int)) => to x)), tD (rSl rpDValue) l] (tT [tD rpDValue R.1, tD (rI .i64) R.2]) := by
  refine Spec.of Tryd.func67 rfl rfl rfl fun w0 S0 => ?_
  refine CG.seq ?_
  refine CG.region ?_
  refine RG.alloc (r := rpDValue) (x := (⟨(0 : Int), (0 : Int), (0 : Int), []⟩ : DValue)) ti37 (fun _ => zrDValue _) rfl (fun b => ?_)
  refine RG.op (ok_assign hI) rfl ?_
  refine RG.nil ?_
  refine AT.next ?_
  refine CG.seq ?_
  refine CG.seq ?_
  refine CG.region ?_
  refine RG.op (ok_move (ht rfl)) rfl ?_
  obtain ⟨r, q_r, h⟩ := bs h
  refine RG.op (ok_call cb90 (f90_ok _ q_r) ⟨(ht rfl), trivial⟩) rfl ?_
  refine RG.op (ok_assign (ht rfl)) rfl ?_
  refine RG.nil ?_
  refine AT.next ?_
  refine CG.seq ?_
  refine CG.region ?_
  refine RG.op (ok_move (ht rfl)) rfl ?_
  refine RG.op (ok_neqI (ht rfl) hI) rfl ?_
  refine RG.nil ?_
  refine AT.next ?_
  refine CG.cond (ht rfl) (fun hc => ?_) (fun hc => ?_)
  · have h := ct h hc
    refine CG.seq ?_
    refine CG.region ?_
    refine RG.op (ok_build (y := (⟨(0 : Int), (0 : Int), (0 : Int), []⟩ : DValue)) ti37 fs37 zrDValue (rfl)) rfl ?_
    refine RG.op (ok_move (ht rfl)) rfl ?_
    refine RG.storeB ti37 rfl sfld_whole rfl (ht rfl) (ht rfl) ?_
    refine RG.op (ok_assign (ht rfl)) rfl ?_
    refine RG.nil ?_
    refine AT.next ?_
    refine CG.ret ?_
    refine AT.then_ret ?_
    refine AT.settleB 4 rfl ?_
    cases so h
    exact AT.retL (rvs := [.cell 4 37, .tmp 5]) rfl rfl ⟨res_cell ti37 rfl rfl rfl, res_tmp rfl, trivial⟩
  · have h := cf h hc
    refine CG.skip ?_
    refine AT.next ?_
    refine CG.seq ?_
    refine CG.region ?_
    refine RG.fresh false (rI .i64) 3 ?_
    refine RG.op (ok_assign hVn) rfl ?_
    refine RG.nil ?_
    refine AT.next ?_
    refine CG.seq ?_
    refine CG.seq ?_
    refine CG.region ?_
    refine RG.op (ok_move (ht rfl)) rfl ?_
    refine RG.op (ok_lenSl Tryd.underlying25 (ht rfl)) rfl ?_
    refine RG.op (ok_move hI) rfl ?_
    refine RG.nil ?_
    refine AT.next ?_
    refine CG.block ?_
    refine CG.have_len (k := 16) rfl (fun hN => ?_)
    refine CG.loop ?_
    refine LG.sub (LG.list5 (Z := fun ls i n l1 c x => (l.drop i = ls) ∧ value_logic_l1 to ls n x = some R) (Of := fun _ i n l1 c x => [arr (rI .i64) 3 l1 c n, bx rpDValue 37 b x]) (Gf := fun _ i n l1 c x => [(0, (tFun Tryd.prog (fun (x : (List Int)) => [tD (rSl (rI .i64)) x]) (fun (x : Int) => tD (rI .i64) x) (fun (x : (List Int)) => to x))), (4, tV (bptr b 0)), (7, tV (oslV l1 c n.length)), (16, tD (rSl rpDValue) l), (17, tD (rI .i64) (l.length : Int)), (18, tD (rI .i64) (i : Int))]) (fun i n l1 c x h => ?_) (fun e tl ih i n l1 c x h => ?_) l 0 ([] : List Int) none 0 (⟨(0 : Int), (0 : Int), (0 : Int), []⟩ : DValue) ⟨rfl, h⟩) ⟨rfl, rfl, rfl, rfl, rfl, rfl, trivial⟩
    · obtain ⟨hx, h⟩ := h
      refine LG.unfold ?_
      refine CG.seq ?_
      refine CG.region ?_
      refine RG.op (ok_lss (ht rfl) (ht rfl)) rfl ?_
      refine RG.nil ?_
      refine AT.next ?_
      refine CG.seq ?_
      refine CG.condF (ht rfl) (dropF hx) ?_
      refine CG.exit ?_
      refine AT.then_exit (AT.then_exit (AT.in_exit ?_))
      refine AT.next ?_
      refine CG.seq ?_
      refine CG.region ?_
      refine RG.op (ok_move (ht rfl)) rfl ?_
      refine RG.op (ok_move (ht rfl)) rfl ?_
      refine RG.freeze ?_
      refine RG.tipAt 7 rfl ?_
      refine RG.tipAt 33 rfl ?_
      obtain ⟨r1, q_r1, h⟩ := bs h
      refine RG.op (ok_callV (args := (fun (x : (List Int)) => [tD (rSl (rI .i64)) x])) (res := (fun (x : Int) => tD (rI .i64) x)) (f := (fun (x : (List Int)) => to x)) (x := ((n) : (List Int))) (ht rfl) q_r1 ⟨(tO_d (ht rfl)), trivial⟩) rfl ?_
      obtain ⟨e1, q_e1, h⟩ := bs h
      refine RG.op (OpOK.glob (r := rArr rpDValue 3) (x := gv0) gm0 gr0 (ok_indexAddrP Tryd.underlying118 ti37 rfl hGlob (ht rfl) q_e1)) rfl ?_
      refine RG.op (ok_load ti37 rfl rfl (ht rfl)) rfl ?_
      refine RG.front1 ?_
      refine RG.storeB ti37 rfl sfld_whole rfl (ht rfl) (ht rfl) ?_
      refine RG.op (ok_assign hI) rfl ?_
      refine RG.nil ?_
      refine AT.next ?_
      refine CG.ret ?_
      refine AT.settleB 4 rfl ?_
      refine AT.drop ?_
      cases so h
      exact AT.retL (rvs := [.cell 4 37, .tmp 5]) rfl rfl ⟨res_cell ti37 rfl rfl rfl, res_tmp rfl, trivial⟩
    · obtain ⟨hx, h⟩ := h
      refine LG.unfold ?_
      refine CG.seq ?_
      refine CG.region ?_
      refine RG.op (ok_lss (ht rfl) (ht rfl)) rfl ?_
      refine RG.nil ?_
      refine AT.next ?_
      refine CG.seq ?_
      refine CG.condT (ht rfl) (dropT hx) ?_
      refine CG.skip ?_
      refine AT.next ?_
      refine CG.seq ?_
      refine CG.block ?_
      refine CG.seq ?_
      refine CG.region ?_
      refine RG.op (ok_indexAddr Tryd.underlying25 ti37 rfl (ht rfl) (ht rfl) (dropI hx)) rfl ?_
      refine RG.op (ok_load ti37 rfl rfl (ht rfl)) rfl ?_
      refine RG.alloc (r := rpDValue) (x := (⟨(0 : Int), (0 : Int), (0 : Int), []⟩ : DValue)) ti37 (fun _ => zrDValue _) rfl (fun b1 => ?_)
      refine RG.storeB ti37 rfl sfld_whole rfl (ht rfl) (ht rfl) ?_
      refine RG.settleB 9 rfl ?_
      refine RG.nil ?_
      refine AT.next ?_
      refine CG.seq ?_
      refine CG.seq ?_
      refine CG.region ?_
      refine RG.op (ok_fieldAddr fd37_0 rfl flDValue_0 rfl (ht rfl)) rfl ?_
      refine RG.op (ok_load ti3 rfl rfl (ht rfl)) rfl ?_
      refine RG.op (ok_gtr (ht rfl) hI) rfl ?_
      refine RG.nil ?_
      refine AT.next ?_
      refine CG.cond (ht rfl) (fun hc => ?_) (fun hc => ?_)
      · have h := ct h hc
        refine CG.seq ?_
        refine CG.region ?_
        refine RG.op (ok_build (y := (⟨(0 : Int), (0 : Int), (0 : Int), []⟩ : DValue)) ti37 fs37 zrDValue (rfl)) rfl ?_
        refine RG.front1 ?_
        refine RG.storeB ti37 rfl sfld_whole rfl (ht rfl) (ht rfl) ?_
        refine RG.op (ok_assign hI) rfl ?_
        refine RG.nil ?_
        refine AT.next ?_
        refine CG.ret ?_
        refine AT.then_ret (AT.in_ret (AT.then_ret (AT.then_ret (AT.in_ret (AT.then_ret ?_)))))
        refine AT.settleB 4 rfl ?_
        refine AT.drop ?_
        cases so h
        exact AT.retL (rvs := [.cell 4 37, .tmp 5]) rfl rfl ⟨res_cell ti37 rfl rfl rfl, res_tmp rfl, trivial⟩
      · have h := cf h hc
        refine CG.skip ?_
        refine AT.next ?_
        refine CG.region ?_
        refine RG.op (ok_move (ht rfl)) rfl ?_
        refine RG.op (ok_load ti37 rfl rfl (ht rfl)) rfl ?_
        obtain ⟨r2, q_r2, h⟩ := bs h
        refine RG.op (ok_call cb93 (f93_ok _ q_r2) ⟨(ht rfl), trivial⟩) rfl ?_
        refine RG.op (ok_buildSlice (r := (rI .i64)) (ys := [r2]) (xs := [.tmp 28]) Tryd.underlying33 ti3 rfl rfl rfl rfl rfl ⟨(ht rfl), trivial⟩) rfl ?_
        obtain ⟨n1, q_n1, h⟩ := bs h
        refine RG.append ti3 rfl rfl rfl rfl Tryd.underlying33 rfl rfl (ht rfl) (ht rfl) q_n1 (fun l2 c1 => ?_)
        refine RG.op (ok_assign (ht rfl)) rfl ?_
        refine RG.nil ?_
        refine AT.in_normal ?_
        refine AT.next ?_
        refine CG.region ?_
        refine RG.op (ok_incN (dropL hx hN) (ht rfl) hI) rfl ?_
        refine RG.op (ok_move (ht rfl)) rfl ?_
        refine RG.nil ?_
        exact AT.round (LG.sub (ih (i + 1) n1 l2 c1 x ⟨dropS hx, h⟩) ⟨rfl, rfl, rfl, rfl, rfl, rfl, trivial⟩)

end Go.Proofs.YtdhledkpgaeoaaaDoor

