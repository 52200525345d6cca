/- Facts of this claim: P9. -/
import Derived.Test.YtdhledkpgaeoaaaGreatDoorKdT
import Derived.Test.YtdhledkpgaeoaaaGreatDoorKdP8
namespace Go.Proofs.YtdhledkpgaeoaaaGreatDoor
open Go

set_option maxRecDepth 100000 in
theorem f22_own (l : (List Int)) (most : Int) {R : (List Int)} (h : law10_cut_int l most = some R) : SpecO Tryz.prog 22 [tD (rSl (rI .i64)) l, tD (rI .i64) most] false (rI .i64) 3 R := by
  refine SpecO.of Tryz.func22 rfl rfl rfl fun w0 S0 => ?_
  refine CG.seq ?_
  refine CG.region ?_
  refine RG.fresh false (rI .i64) 3 ?_
  refine RG.op (ok_assign hVn) rfl ?_
  refine RG.nil ?_
  refine AT.next ?_
  refine CG.seq ?_
  refine CG.region ?_
  refine RG.buildOwn (r := (rI .i64)) (ys := ([] : List Int)) (xs := []) Tryz.underlying40 ti3 rfl rfl rfl rfl rfl trivial rfl (fun l1 c => ?_)
  refine RG.op (ok_move (ht rfl)) rfl ?_
  refine RG.op (ok_move (ht rfl)) rfl ?_
  refine RG.op (ok_lenSl Tryz.underlying40 (ht rfl)) rfl ?_
  refine RG.op (ok_move (ht rfl)) rfl ?_
  refine RG.op (ok_min2 (ht rfl) (ht rfl)) rfl ?_
  obtain ⟨y, q_y, h⟩ := bs h
  refine RG.op (ok_sliceHi Tryz.underlying40 ti3 rfl (ht rfl) (ht rfl) q_y) rfl ?_
  obtain ⟨x, q_x, h⟩ := bs h
  refine RG.append ti3 rfl rfl rfl rfl Tryz.underlying40 rfl rfl (ht rfl) (ht rfl) q_x (fun l2 c1 => ?_)
  refine RG.op (ok_assign (ht rfl)) rfl ?_
  refine RG.nil ?_
  refine AT.next ?_
  refine CG.ret ?_
  cases so h
  exact AT.retO rfl rfl
set_option maxRecDepth 100000 in
theorem f100_v {l : Option Nat} {c : Nat} {xs s : List Int} {lo : Int} {R : List Int} (hs : sliceF xs lo (xs.length : Int) = some s) (h : slices_Clone_int_int s = some R) : SpecM Tryz.prog 100 [tV (vslV 1 l c lo.toNat s.length)] [arr (rI .i64) 3 l c xs] (fun i : OI => tV (oslV (i.h 0).1 (i.h 0).2 R.length)) (fun i => [arr (rI .i64) 3 (i.h 0).1 (i.h 0).2 R, arr (rI .i64) 3 l c xs]) := by
  refine SpecM.of Tryz.func100 rfl rfl rfl fun w0 S0 => ?_
  refine CG.seq ?_
  refine CG.region ?_
  refine RG.op (ok_assign hVn) rfl ?_
  refine RG.nil ?_
  refine AT.next ?_
  refine CG.seq ?_
  refine CG.seq ?_
  refine CG.region ?_
  refine RG.op (ok_move (ht rfl)) rfl ?_
  refine RG.isNilV (r := (rI .i64)) Tryz.underlying40 (.head _) hs (ht rfl) rfl (fun isnil hisnil => ?_)
  refine RG.nil ?_
  refine AT.next ?_
  refine CG.cond (ht rfl) (fun hc => ?_) (fun hc => ?_)
  · have hx := hisnil hc
    have h : some ([] : List Int) = some R := by simpa [slices_Clone_int_int, app, hx] using h
    refine CG.seq ?_
    refine CG.region ?_
    refine RG.fresh false (rI .i64) 3 ?_
    refine RG.op (ok_assign hVn) rfl ?_
    refine RG.nil ?_
    refine AT.next ?_
    refine CG.ret ?_
    refine AT.then_ret ?_
    cases so h
    exact AT.retM1 rfl (oi none 0) rfl rfl (fun _ _ h => h)
  · refine CG.skip ?_
    refine AT.next ?_
    refine CG.seq ?_
    refine CG.region ?_
    refine RG.buildOwn (r := (rI .i64)) (ys := ([] : List Int)) (xs := []) Tryz.underlying40 ti3 rfl rfl rfl rfl rfl trivial rfl (fun l1 c1 => ?_)
    refine RG.op (ok_move (ht rfl)) rfl ?_
    obtain ⟨x, q_x, h⟩ := bs h
    refine RG.appendV ti3 rfl rfl rfl rfl Tryz.underlying40 rfl rfl (ht rfl) (.tail _ (.head _)) hs (ht rfl) q_x (fun l2 c2 => ?_)
    refine RG.op (ok_assign (ht rfl)) rfl ?_
    refine RG.nil ?_
    refine AT.next ?_
    refine CG.ret ?_
    cases so h
    exact AT.retM1 rfl (oi l2 c2) rfl rfl (fun _ _ h => h)

set_option maxRecDepth 100000 in
theorem f99_c (b : Nat) (l : Option Nat) (c : Nat) (stack : (List Int)) (k : Int) {R : (List Int) × (List Int)} (h : expr_over_1_int stack k = some R) : SpecM Tryz.prog 99 [tD (rI .i64) k, tV (bptr b 0)] [bx rV 40 b (oslV l c stack.length), arr (rI .i64) 3 l c stack] (fun i : OI => tD (rSl (rI .i64)) R.1) (fun i => [bx rV 40 b (oslV (i.h 0).1 (i.h 0).2 R.2.length), arr (rI .i64) 3 (i.h 0).1 (i.h 0).2 R.2]) := by
  refine SpecM.of Tryz.func99 rfl rfl rfl fun w0 S0 => ?_
  refine CG.seq ?_
  refine CG.region ?_
  refine RG.op (ok_assign (show HasTy _ _ _ (tD (rSl (rI .i64)) ([])) from hNil)) rfl ?_
  refine RG.nil ?_
  refine AT.next ?_
  refine CG.seq ?_
  refine CG.region ?_
  refine RG.op (ok_loadA ti40 (.head _) (ht rfl)) rfl ?_
  refine RG.op (ok_loadA ti40 (.head _) (ht rfl)) rfl ?_
  refine RG.op (ok_lenO Tryz.underlying40 (.tail _ (.head _)) (ht rfl)) rfl ?_
  refine RG.op (ok_move (ht rfl)) rfl ?_
  refine RG.op (ok_sub (ht rfl) (ht rfl)) rfl ?_
  obtain ⟨y, q_y, h⟩ := bs h
  refine RG.op (ok_sliceLoO Tryz.underlying40 ti3 rfl (.tail _ (.head _)) (ht rfl) (ht rfl) q_y) rfl ?_
  refine RG.have_view (.tail _ (.head _)) q_y (fun hv => ?_)
  refine RG.front1 ?_
  obtain ⟨r, q_r, h⟩ := bs h
  refine RG.callM [arr (rI .i64) 3 l c stack] _ rfl cb100 (f100_v q_y q_r) ⟨(ht rfl), trivial⟩ rfl (fun i => ?_)
  refine (show RG _ _ _ _ [arr (rI .i64) 3 (i.h 0).1 (i.h 0).2 r, arr (rI .i64) 3 l c stack, bx rV 40 b (oslV l c stack.length)] _ from ?_)
  refine RG.op (ok_assign (ht rfl)) rfl ?_
  refine RG.nil ?_
  refine AT.next ?_
  refine CG.seq ?_
  refine CG.region ?_
  refine RG.op (ok_loadA ti40 (.tail _ (.tail _ (.head _))) (ht rfl)) rfl ?_
  refine RG.op (ok_loadA ti40 (.tail _ (.tail _ (.head _))) (ht rfl)) rfl ?_
  refine RG.op (ok_lenO Tryz.underlying40 (.tail _ (.head _)) (ht rfl)) rfl ?_
  refine RG.op (ok_move (ht rfl)) rfl ?_
  refine RG.op (ok_sub (ht rfl) (ht rfl)) rfl ?_
  obtain ⟨y1, q_y1, h⟩ := bs h
  refine RG.op (ok_sliceHiO Tryz.underlying40 ti3 rfl (.tail _ (.head _)) (ht rfl) (ht rfl) q_y1) rfl ?_
  refine RG.front1 ?_
  refine RG.cut q_y1 ?_
  refine RG.front2 ?_
  refine RG.storeB ti40 rfl sfld_whole rfl (ht rfl) (hRV (ht rfl)) ?_
  refine RG.nil ?_
  refine AT.next ?_
  refine CG.seq ?_
  refine CG.region ?_
  refine RG.op (ok_move (ht rfl)) rfl ?_
  refine RG.op (ok_assign (ht rfl)) rfl ?_
  refine RG.nil ?_
  refine AT.next ?_
  refine CG.ret ?_
  refine AT.front2 ?_
  refine AT.freeze ?_
  refine AT.tipAt 3 rfl ?_
  refine AT.tipAt 11 rfl ?_
  refine AT.tipAt 4 rfl ?_
  refine AT.tipAt 18 rfl ?_
  refine AT.dataAt 3 rfl ?_
  refine AT.drop ?_
  refine AT.front1 ?_
  refine AT.front1 ?_
  cases so h
  exact AT.retM1 rfl (oi l c) rfl rfl (fun _ _ h => h)

set_option maxRecDepth 100000 in
theorem f56_ok (e : DExpr) (do1 : (DENode → (List Int) → Option (Int × Int))) {R : Int × Int} (h : expr_over_int e do1 = some R) : Spec Tryz.prog 56 [tD rpDExpr e, (tFun Tryz.prog (fun (x : DENode × (List Int)) => [tD rpDENode x.1, tD (rSl (rI .i64)) x.2]) (fun (x : Int × Int) => tT [tD (rI .i64) x.1, tD (rI .i64) x.2]) (fun (x : DENode × (List Int)) => do1 x.1 x.2))] (tT [tD (rI .i64) R.1, tD (rI .i64) R.2]) := by
  refine Spec.of Tryz.func56 rfl rfl rfl fun w0 S0 => ?_
  refine CG.seq ?_
  refine CG.region ?_
  refine RG.op (ok_box (ht rfl)) rfl ?_
  refine RG.op (ok_assign hI) rfl ?_
  refine RG.op (ok_assign hI) rfl ?_
  refine RG.nil ?_
  refine AT.next ?_
  refine CG.scope ?_
  refine CG.seq ?_
  refine CG.region ?_
  refine RG.fresh false (rI .i64) 3 ?_
  refine RG.alloc (x := oslV none 0 0) ti40 (fun _ => rV_osl) rfl (fun b => ?_)
  refine RG.nil ?_
  refine AT.next ?_
  refine CG.seq ?_
  refine CG.region ?_
  refine RG.op (ok_assign hI) rfl ?_
  refine RG.nil ?_
  refine AT.next ?_
  refine CG.seq ?_
  refine CG.region ?_
  refine RG.op (ok_makeC (cts := [tV (bptr b 0)]) (caps := [.tmp 6]) ⟨(ht rfl), trivial⟩) rfl ?_
  refine RG.op (ok_assign (ht rfl)) rfl ?_
  refine RG.nil ?_
  refine AT.next ?_
  refine CG.seq ?_
  refine CG.region ?_
  refine RG.op (ok_assign hI) rfl ?_
  refine RG.nil ?_
  refine AT.next ?_
  refine CG.seq ?_
  refine CG.label ?_
  refine AT.next ?_
  refine CG.seq ?_
  refine CG.seq ?_
  refine CG.region ?_
  refine RG.op (ok_fieldAddr fd24_0 rfl flDExpr_0 rfl (ht rfl)) rfl ?_
  refine RG.op (ok_load ti22 rfl rfl (ht rfl)) rfl ?_
  refine RG.op (ok_lenSl Tryz.underlying22 (ht rfl)) rfl ?_
  refine RG.op (ok_move hI) rfl ?_
  refine RG.nil ?_
  refine AT.next ?_
  refine CG.bjoin4 (Z := fun bad stack l c => expr_over_int_k1 bad stack = some R) (Of := fun bad stack l c => [bx rV 40 b (oslV l c stack.length), arr (rI .i64) 3 l c stack]) (Gf := fun bad stack l c => [(6, tV (bptr b 0)), (7, tD (rI .i64) (0 : Int)), (9, tD (rI .i64) bad)]) (fun bad stack l c h => ?_) (fun K => ?_)
  · skip
    refine AT.next ?_
    refine CG.seq ?_
    refine CG.seq ?_
    refine CG.region ?_
    refine RG.op (ok_move (ht rfl)) rfl ?_
    refine RG.op (ok_neqI (ht rfl) hI) rfl ?_
    refine RG.nil ?_
    refine AT.next ?_
    refine CG.cond (ht rfl) (fun hc => ?_) (fun hc => ?_)
    · have h := ct h hc
      refine CG.seq ?_
      refine CG.region ?_
      refine RG.op (ok_move (ht rfl)) rfl ?_
      refine RG.op (ok_move (ht rfl)) rfl ?_
      refine RG.op (ok_assign (ht rfl)) rfl ?_
      refine RG.op (ok_assign (ht rfl)) rfl ?_
      refine RG.nil ?_
      refine AT.next ?_
      refine CG.ret ?_
      refine AT.then_ret (AT.sc_ret ?_)
      refine AT.drop ?_
      refine AT.drop ?_
      cases so h
      exact AT.ret2 rfl rfl rfl
    · have h := cf h hc
      refine CG.skip ?_
      refine AT.next ?_
      refine CG.seq ?_
      refine CG.region ?_
      refine RG.op (ok_loadA ti40 (.head _) (ht rfl)) rfl ?_
      obtain ⟨e1, q_e1, h⟩ := bs h
      refine RG.op (ok_indexAddrO Tryz.underlying40 ti3 (.tail _ (.head _)) (ht rfl) hI q_e1) rfl ?_
      refine RG.op (ok_loadE (r := (rI .i64)) (i := (0 : Int)) (foff := 0) ti3 rfl rfl fld_whole rfl (.tail _ (.head _)) q_e1 (ht rfl)) rfl ?_
      refine RG.op (ok_assign (ht rfl)) rfl ?_
      refine RG.op (ok_assign hI) rfl ?_
      refine RG.nil ?_
      refine AT.next ?_
      refine CG.ret ?_
      refine AT.sc_ret ?_
      refine AT.drop ?_
      refine AT.drop ?_
      cases so h
      exact AT.ret2 rfl rfl rfl
  · skip
    refine CG.have_len (k := 16) rfl (fun hN => ?_)
    refine CG.loop ?_
    refine LG.sub (LG.list5 (Z := fun ls i bad1 stack1 l1 c1 => (e.Nodes.drop i = ls) ∧ expr_over_int_l1 do1 ls bad1 stack1 = some R) (Of := fun _ i bad1 stack1 l1 c1 => [bx rV 40 b (oslV l1 c1 stack1.length), arr (rI .i64) 3 l1 c1 stack1]) (Gf := fun _ i bad1 stack1 l1 c1 => [(1, (tFun Tryz.prog (fun (x : DENode × (List Int)) => [tD rpDENode x.1, tD (rSl (rI .i64)) x.2]) (fun (x : Int × Int) => tT [tD (rI .i64) x.1, tD (rI .i64) x.2]) (fun (x : DENode × (List Int)) => do1 x.1 x.2))), (6, tV (bptr b 0)), (7, tD (rI .i64) (0 : Int)), (8, tC 99 [tV (bptr b 0)]), (9, tD (rI .i64) bad1), (16, tD (rSl rpDENode) e.Nodes), (17, tD (rI .i64) (e.Nodes.length : Int)), (18, tD (rI .i64) (i : Int))]) (fun i bad1 stack1 l1 c1 h => ?_) (fun e2 tl ih i bad1 stack1 l1 c1 h => ?_) e.Nodes 0 (0 : Int) ([] : List Int) none 0 ⟨rfl, h⟩) ⟨rfl, rfl, rfl, rfl, rfl, rfl, rfl, rfl, trivial⟩
    · obtain ⟨hx, h⟩ := h
      refine LG.unfold ?_
      refine CG.seq ?_
      refine CG.region ?_
      refine RG.op (ok_lss (ht rfl) (ht rfl)) rfl ?_
      refine RG.nil ?_
      refine AT.next ?_
      refine CG.seq ?_
      refine CG.condF (ht rfl) (dropF hx) ?_
      refine CG.exit ?_
      refine AT.then_exit (AT.then_exit (AT.in_exit ?_))
      exact AT.sub (K bad1 stack1 l1 c1 h) ⟨rfl, rfl, rfl, trivial⟩
    · obtain ⟨hx, h⟩ := h
      refine LG.unfold ?_
      refine CG.seq ?_
      refine CG.region ?_
      refine RG.op (ok_lss (ht rfl) (ht rfl)) rfl ?_
      refine RG.nil ?_
      refine AT.next ?_
      refine CG.seq ?_
      refine CG.condT (ht rfl) (dropT hx) ?_
      refine CG.skip ?_
      refine AT.next ?_
      refine CG.seq ?_
      refine CG.block ?_
      refine CG.seq ?_
      refine CG.region ?_
      refine RG.op (ok_indexAddr Tryz.underlying22 ti42 rfl (ht rfl) (ht rfl) (dropI hx)) rfl ?_
      refine RG.op (ok_load ti42 rfl rfl (ht rfl)) rfl ?_
      refine RG.alloc (r := rpDENode) (x := (⟨(0 : Int), (0 : Int), (0 : Int), (0 : Int), (⟨(0 : Int), (0 : Int), (0 : Int), []⟩ : DValue)⟩ : DENode)) ti42 (fun _ => zrDENode _) rfl (fun b1 => ?_)
      refine RG.storeB ti42 rfl sfld_whole rfl (ht rfl) (ht rfl) ?_
      refine RG.settleB 11 rfl ?_
      refine RG.nil ?_
      refine AT.next ?_
      refine CG.seq ?_
      obtain ⟨r, q_r, h⟩ := bs h
      obtain ⟨r1, q_r1, h⟩ := bs h
      obtain ⟨r2, q_r2, h⟩ := bs h
      refine CG.drawS 12 [tc ((tFun Tryz.prog (fun (x : DENode × (List Int)) => [tD rpDENode x.1, tD (rSl (rI .i64)) x.2]) (fun (x : Int × Int) => tT [tD (rI .i64) x.1, tD (rI .i64) x.2]) (fun (x : DENode × (List Int)) => do1 x.1 x.2))), tc (tD rpDENode e2), tc (tC 99 [tV (bptr b 0)]), tc (tPtr (rI .i64) e2.Tag), tc (tD (rI .i64) e2.Tag), tc (tD (rI .i64) r), tc (tD (rSl (rI .i64)) r1.1), tc (tT [tD (rI .i64) r2.1, tD (rI .i64) r2.2]), tc (tT [tD (rI .i64) r2.1, tD (rI .i64) r2.2]), tc (tD (rI .i64) r2.1), tc (tD (rI .i64) r2.2), tc (tD (rI .i64) r2.1)] [false, false, false, false, false, false, true, false, false, false, false, false] [fun _ => [bx rV 40 b (oslV l1 c1 stack1.length), arr (rI .i64) 3 l1 c1 stack1], fun sg => [bx rV 40 b (oslV ((sg 6).h 0).1 ((sg 6).h 0).2 r1.2.length), arr (rI .i64) 3 ((sg 6).h 0).1 ((sg 6).h 0).2 r1.2]] rfl mixed rfl rfl rfl rfl rfl
        ⟨⟨[⟨1, fun _ => (tFun Tryz.prog (fun (x : DENode × (List Int)) => [tD rpDENode x.1, tD (rSl (rI .i64)) x.2]) (fun (x : Int × Int) => tT [tD (rI .i64) x.1, tD (rI .i64) x.2]) (fun (x : DENode × (List Int)) => do1 x.1 x.2)), none⟩], _, 0, 1, rfl, ⟨(fun _ => rfl), trivial⟩, rfl, rfl, rfl, rfl, rfl, fun _ sg _ _ => OpG.plain rfl (ok_move (ht rfl))⟩,
        ⟨⟨[⟨11, fun _ => tPtr rpDENode e2, none⟩], _, 0, 1, rfl, ⟨(fun _ => rfl), trivial⟩, rfl, rfl, rfl, rfl, rfl, fun _ sg _ _ => OpG.plain rfl (ok_load ti42 rfl rfl (ht rfl))⟩,
        ⟨⟨[⟨8, fun _ => tC 99 [tV (bptr b 0)], none⟩], _, 0, 0, rfl, ⟨(fun _ => rfl), trivial⟩, rfl, rfl, rfl, rfl, rfl, fun _ sg _ _ => OpG.plain rfl (ok_move (ht rfl))⟩,
        ⟨⟨[⟨11, fun _ => tPtr rpDENode e2, none⟩], _, 0, 0, rfl, ⟨(fun _ => rfl), trivial⟩, rfl, rfl, rfl, rfl, rfl, fun _ sg _ _ => OpG.plain rfl (ok_fieldAddr fd42_0 rfl flDENode_0 rfl (ht rfl))⟩,
        ⟨⟨[⟨26, fun _ => tPtr (rI .i64) e2.Tag, some 3⟩], _, 0, 0, rfl, ⟨(fun _ => rfl), trivial⟩, rfl, rfl, rfl, rfl, rfl, fun _ sg _ _ => OpG.plain rfl (ok_load ti3 rfl rfl (ht rfl))⟩,
        ⟨⟨[⟨27, fun _ => tD (rI .i64) e2.Tag, some 4⟩], _, 0, 0, rfl, ⟨(fun _ => rfl), trivial⟩, rfl, rfl, rfl, rfl, rfl, fun _ sg _ _ => OpG.plain rfl (ok_call cb85 (f85_ok _ q_r) ⟨(ht rfl), trivial⟩)⟩,
        ⟨⟨[⟨25, fun _ => tC 99 [tV (bptr b 0)], some 2⟩, ⟨28, fun _ => tD (rI .i64) r, some 5⟩], _, rfl, ⟨(fun _ => rfl), (fun _ => rfl), trivial⟩, rfl, rfl, rfl, fun sg => EffG.plain rfl (EffOK.fr1 (EffOK.fr1 (eff_callC (xs := [.tmp 28]) (ts := [tD (rI .i64) r]) (cts := [tV (bptr b 0)]) [bx rV 40 b (oslV l1 c1 stack1.length), arr (rI .i64) 3 l1 c1 stack1] _ rfl cb99 (f99_c b l1 c1 _ _ q_r1) (ht rfl) ⟨(ht rfl), trivial⟩ (fun _ => rfl))))⟩,
        ⟨⟨[⟨23, fun _ => (tFun Tryz.prog (fun (x : DENode × (List Int)) => [tD rpDENode x.1, tD (rSl (rI .i64)) x.2]) (fun (x : Int × Int) => tT [tD (rI .i64) x.1, tD (rI .i64) x.2]) (fun (x : DENode × (List Int)) => do1 x.1 x.2)), some 0⟩, ⟨24, fun _ => tD rpDENode e2, some 1⟩, ⟨29, fun _ => tD (rSl (rI .i64)) r1.1, some 6⟩], _, 1, 1, rfl, ⟨(fun _ => rfl), (fun _ => rfl), (fun _ => rfl), trivial⟩, rfl, rfl, rfl, rfl, rfl, fun _ sg _ _ => OpG.plain rfl (ok_callV (args := (fun (x : DENode × (List Int)) => [tD rpDENode x.1, tD (rSl (rI .i64)) x.2])) (res := (fun (x : Int × Int) => tT [tD (rI .i64) x.1, tD (rI .i64) x.2])) (f := (fun (x : DENode × (List Int)) => do1 x.1 x.2)) (x := ((e2, r1.1) : DENode × (List Int))) (ht rfl) q_r2 ⟨(ht rfl), (ht rfl), trivial⟩)⟩,
        ⟨⟨[⟨30, fun _ => tT [tD (rI .i64) r2.1, tD (rI .i64) r2.2], some 7⟩], _, 1, 1, rfl, ⟨(fun _ => rfl), trivial⟩, rfl, rfl, rfl, rfl, rfl, fun _ sg _ _ => OpG.plain rfl (ok_move (ht rfl))⟩,
        ⟨⟨[⟨22, fun _ => tT [tD (rI .i64) r2.1, tD (rI .i64) r2.2], some 8⟩], _, 1, 1, rfl, ⟨(fun _ => rfl), trivial⟩, rfl, rfl, rfl, rfl, rfl, fun _ sg _ _ => OpG.plain rfl (ok_extract rfl (ht rfl))⟩,
        ⟨⟨[⟨22, fun _ => tT [tD (rI .i64) r2.1, tD (rI .i64) r2.2], some 8⟩], _, 1, 1, rfl, ⟨(fun _ => rfl), trivial⟩, rfl, rfl, rfl, rfl, rfl, fun _ sg _ _ => OpG.plain rfl (ok_extract rfl (ht rfl))⟩,
        ⟨⟨[⟨31, fun _ => tD (rI .i64) r2.1, some 9⟩], _, 1, 1, rfl, ⟨(fun _ => rfl), trivial⟩, rfl, rfl, rfl, rfl, rfl, fun _ sg _ _ => OpG.plain rfl (ok_assign (ht rfl))⟩,
        trivial⟩⟩⟩⟩⟩⟩⟩⟩⟩⟩⟩⟩ (fun sg => ?_)
      refine (show RG _ _ _ _ [bx rV 40 b (oslV ((sg 6).h 0).1 ((sg 6).h 0).2 r1.2.length), arr (rI .i64) 3 ((sg 6).h 0).1 ((sg 6).h 0).2 r1.2] _ from ?_)
      refine RG.op (ok_assign (ht rfl)) rfl ?_
      refine RG.nil ?_
      refine AT.next ?_
      refine CG.seq ?_
      refine CG.seq ?_
      refine CG.region ?_
      refine RG.op (ok_move (ht rfl)) rfl ?_
      refine RG.op (ok_neqI (ht rfl) hI) rfl ?_
      refine RG.nil ?_
      refine AT.next ?_
      refine CG.cond (ht rfl) (fun hc => ?_) (fun hc => ?_)
      · have h := ct h hc
        refine CG.seq ?_
        refine CG.region ?_
        refine RG.op (ok_move (ht rfl)) rfl ?_
        refine RG.op (ok_assign (ht rfl)) rfl ?_
        refine RG.nil ?_
        refine AT.next ?_
        refine CG.exit ?_
        refine AT.then_exit (AT.in_exit_ne rfl (AT.then_exit (AT.then_exit (AT.in_exit ?_))))
        exact AT.sub (K r2.2 r1.2 ((sg 6).h 0).1 ((sg 6).h 0).2 h) ⟨rfl, rfl, rfl, trivial⟩
      · have h := cf h hc
        refine CG.skip ?_
        refine AT.next ?_
        refine CG.region ?_
        refine RG.op (ok_loadA ti40 (.head _) (ht rfl)) rfl ?_
        refine RG.op (ok_move (ht rfl)) rfl ?_
        refine RG.op (ok_buildSlice (r := (rI .i64)) (ys := [r2.1]) (xs := [.tmp 37]) Tryz.underlying40 ti3 rfl rfl rfl rfl rfl ⟨(ht rfl), trivial⟩) rfl ?_
        refine RG.front1 ?_
        obtain ⟨l2, q_l2, h⟩ := bs h
        refine RG.append ti3 rfl rfl rfl rfl Tryz.underlying40 rfl rfl (ht rfl) (ht rfl) q_l2 (fun l3 c2 => ?_)
        refine RG.front1 ?_
        refine RG.storeB ti40 rfl sfld_whole rfl (ht rfl) (hRV (ht rfl)) ?_
        refine RG.nil ?_
        refine AT.in_normal ?_
        refine AT.next ?_
        refine CG.region ?_
        refine RG.op (ok_incN (dropL hx hN) (ht rfl) hI) rfl ?_
        refine RG.op (ok_move (ht rfl)) rfl ?_
        refine RG.nil ?_
        exact AT.round (LG.sub (ih (i + 1) bad1 l2 l3 c2 ⟨dropS hx, h⟩) ⟨rfl, rfl, rfl, rfl, rfl, rfl, rfl, rfl, trivial⟩)

set_option maxRecDepth 100000 in
theorem f57_ok (kinds : (List Int)) (n : DENode) (l : (List Int)) {R : Int × Int} (h : expr_Kind_1 kinds n l = some R) : Spec Tryz.prog 57 [tD rpDENode n, tD (rSl (rI .i64)) l, tPtr (rSl (rI .i64)) kinds] (tT [tD (rI .i64) R.1, tD (rI .i64) R.2]) := by
  refine Spec.of Tryz.func57 rfl rfl rfl fun w0 S0 => ?_
  refine CG.seq ?_
  refine CG.region ?_
  refine RG.op (ok_box (ht rfl)) rfl ?_
  refine RG.op (ok_assign hI) rfl ?_
  refine RG.op (ok_assign hI) rfl ?_
  refine RG.nil ?_
  refine AT.next ?_
  refine CG.seq ?_
  refine CG.region ?_
  refine RG.op (ok_assign hI) rfl ?_
  refine RG.nil ?_
  refine AT.next ?_
  refine CG.seq ?_
  refine CG.seq ?_
  refine CG.region ?_
  refine RG.op (ok_move (ht rfl)) rfl ?_
  refine RG.op (ok_lenSl Tryz.underlying40 (ht rfl)) rfl ?_
  refine RG.op (ok_move hI) rfl ?_
  refine RG.nil ?_
  refine AT.next ?_
  refine CG.block ?_
  refine CG.have_len (k := 12) rfl (fun hN => ?_)
  refine CG.loop ?_
  refine LG.sub (LG.list2 (Z := fun ls i own => (l.drop i = ls) ∧ expr_Kind_1_l1 kinds n ls own = some R) (Of := fun _ i own => []) (Gf := fun _ i own => [(2, tPtr (rSl (rI .i64)) kinds), (3, tPtr rpDENode n), (7, tD (rI .i64) own), (12, tD (rSl (rI .i64)) l), (13, tD (rI .i64) (l.length : Int)), (14, tD (rI .i64) (i : Int))]) (fun i own h => ?_) (fun e tl ih i own h => ?_) l 0 (0 : Int) ⟨rfl, h⟩) ⟨rfl, rfl, rfl, rfl, rfl, rfl, trivial⟩
  · obtain ⟨hx, h⟩ := h
    refine LG.unfold ?_
    refine CG.seq ?_
    refine CG.region ?_
    refine RG.op (ok_lss (ht rfl) (ht rfl)) rfl ?_
    refine RG.nil ?_
    refine AT.next ?_
    refine CG.seq ?_
    refine CG.condF (ht rfl) (dropF hx) ?_
    refine CG.exit ?_
    refine AT.then_exit (AT.then_exit (AT.in_exit ?_))
    refine AT.next ?_
    refine CG.seq ?_
    refine CG.region ?_
    refine RG.op (ok_move (ht rfl)) rfl ?_
    refine RG.op (ok_assign (ht rfl)) rfl ?_
    refine RG.nil ?_
    refine AT.next ?_
    refine CG.seq ?_
    refine CG.region ?_
    refine RG.op (ok_assign hI) rfl ?_
    refine RG.nil ?_
    refine AT.next ?_
    refine CG.seq ?_
    refine CG.block ?_
    refine CG.seq ?_
    refine CG.region ?_
    refine RG.op (ok_fieldAddr fd42_0 rfl flDENode_0 rfl (ht rfl)) rfl ?_
    refine RG.op (ok_load ti3 rfl rfl (ht rfl)) rfl ?_
    refine RG.op (ok_eqlI (ht rfl) hI) rfl ?_
    refine RG.op (ok_assign (ht rfl)) rfl ?_
    refine RG.nil ?_
    refine AT.next ?_
    refine CG.cond (ht rfl) (fun hc => ?_) (fun hc => ?_)
    · have h := ct h hc
      refine CG.seq ?_
      refine CG.region ?_
      refine RG.op (ok_fieldAddr fd42_4 rfl flDENode_4 rfl (ht rfl)) rfl ?_
      refine RG.op (ok_fieldAddr fd33_0 rfl flDValue_0 rfl (ht rfl)) rfl ?_
      refine RG.op (ok_load ti3 rfl rfl (ht rfl)) rfl ?_
      refine RG.op (ok_assign (ht rfl)) rfl ?_
      refine RG.op (ok_assign hI) rfl ?_
      refine RG.nil ?_
      refine AT.next ?_
      refine CG.ret ?_
      refine AT.in_ret (AT.then_ret ?_)
      cases so h
      exact AT.ret2 rfl rfl rfl
    · have h := cf h hc
      refine CG.seq ?_
      refine CG.region ?_
      refine RG.op (ok_fieldAddr fd42_0 rfl flDENode_0 rfl (ht rfl)) rfl ?_
      refine RG.op (ok_load ti3 rfl rfl (ht rfl)) rfl ?_
      refine RG.op (ok_eqlI (ht rfl) hI) rfl ?_
      refine RG.op (ok_assign (ht rfl)) rfl ?_
      refine RG.nil ?_
      refine AT.next ?_
      refine CG.cond (ht rfl) (fun hc => ?_) (fun hc => ?_)
      · have h := ct h hc
        refine CG.seq ?_
        refine CG.region ?_
        refine RG.op (ok_load ti40 rfl rfl (ht rfl)) rfl ?_
        refine RG.op (ok_fieldAddr fd42_3 rfl flDENode_3 rfl (ht rfl)) rfl ?_
        refine RG.op (ok_load ti3 rfl rfl (ht rfl)) rfl ?_
        obtain ⟨e1, q_e1, h⟩ := bs h
        refine RG.op (ok_indexAddr Tryz.underlying40 ti3 rfl (ht rfl) (ht rfl) q_e1) rfl ?_
        refine RG.op (ok_load ti3 rfl rfl (ht rfl)) rfl ?_
        refine RG.op (ok_assign (ht rfl)) rfl ?_
        refine RG.op (ok_assign hI) rfl ?_
        refine RG.nil ?_
        refine AT.next ?_
        refine CG.ret ?_
        refine AT.in_ret (AT.then_ret ?_)
        cases so h
        exact AT.ret2 rfl rfl rfl
      · have h := cf h hc
        refine CG.seq ?_
        refine CG.region ?_
        refine RG.op (ok_fieldAddr fd42_0 rfl flDENode_0 rfl (ht rfl)) rfl ?_
        refine RG.op (ok_load ti3 rfl rfl (ht rfl)) rfl ?_
        obtain ⟨r, q_r, h⟩ := bs h
        refine RG.op (ok_call cb58 (f58_ok _ q_r) ⟨(ht rfl), trivial⟩) rfl ?_
        refine RG.op (ok_assign (ht rfl)) rfl ?_
        refine RG.nil ?_
        refine AT.next ?_
        refine CG.cond (ht rfl) (fun hc => ?_) (fun hc => ?_)
        · have h := ct h hc
          refine CG.region ?_
          refine RG.op (ok_assign hI) rfl ?_
          refine RG.op (ok_assign hI) rfl ?_
          refine RG.nil ?_
          refine AT.in_normal ?_
          refine AT.next ?_
          refine CG.seq ?_
          refine CG.seq ?_
          refine CG.region ?_
          refine RG.op (ok_move (ht rfl)) rfl ?_
          refine RG.op (ok_eqlI (ht rfl) hI) rfl ?_
          refine RG.op (ok_move (ht rfl)) rfl ?_
          refine RG.opGf rfl rfl rfl rfl (fun hg => ok_move (ht rfl)) ?_
          refine RG.opGf rfl rfl rfl rfl (fun hg => ok_neqI (htO rfl hg) hI) ?_
          refine RG.opGf rfl rfl rfl rfl (fun hg => ok_move (htO rfl hg)) ?_
          refine RG.opGot rfl rfl rfl rfl (fun hg => ok_move (ht rfl)) ?_
          refine RG.opGot rfl rfl rfl rfl (fun hg => ok_move (ht rfl)) ?_
          refine RG.opGot rfl rfl rfl rfl (fun hg => ok_neqI (htO rfl hg) (htO rfl hg)) ?_
          refine RG.opGf rfl rfl rfl rfl (fun hg => ok_pickAnd (htO rfl hg) (fun hb => (htO rfl (andi hg hb)))) ?_
          refine RG.op (ok_pickOr (ht rfl) (fun hb => (htO rfl (noti hb)))) rfl ?_
          refine RG.nil ?_
          refine AT.next ?_
          refine CG.cond (ht rfl) (fun hc => ?_) (fun hc => ?_)
          · have h := ct h hc
            refine CG.seq ?_
            refine CG.region ?_
            refine RG.op (ok_assign hI) rfl ?_
            refine RG.op (ok_assign hI) rfl ?_
            refine RG.nil ?_
            refine AT.next ?_
            refine CG.ret ?_
            refine AT.then_ret ?_
            cases so h
            exact AT.ret2 rfl rfl rfl
          · have h := cf h hc
            refine CG.skip ?_
            refine AT.next ?_
            refine CG.seq ?_
            refine CG.region ?_
            refine RG.op (ok_move (ht rfl)) rfl ?_
            refine RG.op (ok_assign (ht rfl)) rfl ?_
            refine RG.op (ok_assign hI) rfl ?_
            refine RG.nil ?_
            refine AT.next ?_
            refine CG.ret ?_
            cases so h
            exact AT.ret2 rfl rfl rfl
        · have h := cf h hc
          refine CG.seq ?_
          refine CG.region ?_
          refine RG.op (ok_fieldAddr fd42_0 rfl flDENode_0 rfl (ht rfl)) rfl ?_
          refine RG.op (ok_load ti3 rfl rfl (ht rfl)) rfl ?_
          refine RG.op (ok_eqlI (ht rfl) hI) rfl ?_
          refine RG.op (ok_move (ht rfl)) rfl ?_
          refine RG.opGf rfl rfl rfl rfl (fun hg => ok_fieldAddr fd42_0 rfl flDENode_0 rfl (ht rfl)) ?_
          refine RG.opGf rfl rfl rfl rfl (fun hg => ok_load ti3 rfl rfl (htO rfl hg)) ?_
          refine RG.opGf rfl rfl rfl rfl (fun hg => ok_eqlI (htO rfl hg) hI) ?_
          refine RG.op (ok_pickOr (ht rfl) (fun hb => (htO rfl (noti hb)))) rfl ?_
          refine RG.op (ok_move (ht rfl)) rfl ?_
          refine RG.opGf rfl rfl rfl rfl (fun hg => ok_fieldAddr fd42_0 rfl flDENode_0 rfl (ht rfl)) ?_
          refine RG.opGf rfl rfl rfl rfl (fun hg => ok_load ti3 rfl rfl (htO rfl hg)) ?_
          refine RG.opGf rfl rfl rfl rfl (fun hg => ok_eqlI (htO rfl hg) hI) ?_
          refine RG.op (ok_pickOr (ht rfl) (fun hb => (htO rfl (noti hb)))) rfl ?_
          refine RG.op (ok_assign (ht rfl)) rfl ?_
          refine RG.nil ?_
          refine AT.next ?_
          refine CG.cond (ht rfl) (fun hc => ?_) (fun hc => ?_)
          · have h := ct h hc
            refine CG.region ?_
            refine RG.op (ok_assign hI) rfl ?_
            refine RG.nil ?_
            refine AT.in_normal ?_
            refine AT.next ?_
            refine CG.seq ?_
            refine CG.seq ?_
            refine CG.region ?_
            refine RG.op (ok_move (ht rfl)) rfl ?_
            refine RG.op (ok_eqlI (ht rfl) hI) rfl ?_
            refine RG.op (ok_move (ht rfl)) rfl ?_
            refine RG.opGf rfl rfl rfl rfl (fun hg => ok_move (ht rfl)) ?_
            refine RG.opGf rfl rfl rfl rfl (fun hg => ok_neqI (htO rfl hg) hI) ?_
            refine RG.opGf rfl rfl rfl rfl (fun hg => ok_move (htO rfl hg)) ?_
            refine RG.opGot rfl rfl rfl rfl (fun hg => ok_move (ht rfl)) ?_
            refine RG.opGot rfl rfl rfl rfl (fun hg => ok_move (ht rfl)) ?_
            refine RG.opGot rfl rfl rfl rfl (fun hg => ok_neqI (htO rfl hg) (htO rfl hg)) ?_
            refine RG.opGf rfl rfl rfl rfl (fun hg => ok_pickAnd (htO rfl hg) (fun hb => (htO rfl (andi hg hb)))) ?_
            refine RG.op (ok_pickOr (ht rfl) (fun hb => (htO rfl (noti hb)))) rfl ?_
            refine RG.nil ?_
            refine AT.next ?_
            refine CG.cond (ht rfl) (fun hc => ?_) (fun hc => ?_)
            · have h := ct h hc
              refine CG.seq ?_
              refine CG.region ?_
              refine RG.op (ok_assign hI) rfl ?_
              refine RG.op (ok_assign hI) rfl ?_
              refine RG.nil ?_
              refine AT.next ?_
              refine CG.ret ?_
              refine AT.then_ret ?_
              cases so h
              exact AT.ret2 rfl rfl rfl
            · have h := cf h hc
              refine CG.skip ?_
              refine AT.next ?_
              refine CG.seq ?_
              refine CG.region ?_
              refine RG.op (ok_move (ht rfl)) rfl ?_
              refine RG.op (ok_assign (ht rfl)) rfl ?_
              refine RG.op (ok_assign hI) rfl ?_
              refine RG.nil ?_
              refine AT.next ?_
              refine CG.ret ?_
              cases so h
              exact AT.ret2 rfl rfl rfl
          · have h := cf h hc
            refine CG.skip ?_
            refine AT.in_normal ?_
            refine AT.next ?_
            refine CG.seq ?_
            refine CG.seq ?_
            refine CG.region ?_
            refine RG.op (ok_move (ht rfl)) rfl ?_
            refine RG.op (ok_eqlI (ht rfl) hI) rfl ?_
            refine RG.op (ok_move (ht rfl)) rfl ?_
            refine RG.opGf rfl rfl rfl rfl (fun hg => ok_move (ht rfl)) ?_
            refine RG.opGf rfl rfl rfl rfl (fun hg => ok_neqI (htO rfl hg) hI) ?_
            refine RG.opGf rfl rfl rfl rfl (fun hg => ok_move (htO rfl hg)) ?_
            refine RG.opGot rfl rfl rfl rfl (fun hg => ok_move (ht rfl)) ?_
            refine RG.opGot rfl rfl rfl rfl (fun hg => ok_move (ht rfl)) ?_
            refine RG.opGot rfl rfl rfl rfl (fun hg => ok_neqI (htO rfl hg) (htO rfl hg)) ?_
            refine RG.opGf rfl rfl rfl rfl (fun hg => ok_pickAnd (htO rfl hg) (fun hb => (htO rfl (andi hg hb)))) ?_
            refine RG.op (ok_pickOr (ht rfl) (fun hb => (htO rfl (noti hb)))) rfl ?_
            refine RG.nil ?_
            refine AT.next ?_
            refine CG.cond (ht rfl) (fun hc => ?_) (fun hc => ?_)
            · have h := ct h hc
              refine CG.seq ?_
              refine CG.region ?_
              refine RG.op (ok_assign hI) rfl ?_
              refine RG.op (ok_assign hI) rfl ?_
              refine RG.nil ?_
              refine AT.next ?_
              refine CG.ret ?_
              refine AT.then_ret ?_
              cases so h
              exact AT.ret2 rfl rfl rfl
            · have h := cf h hc
              refine CG.skip ?_
              refine AT.next ?_
              refine CG.seq ?_
              refine CG.region ?_
              refine RG.op (ok_move (ht rfl)) rfl ?_
              refine RG.op (ok_assign (ht rfl)) rfl ?_
              refine RG.op (ok_assign hI) rfl ?_
              refine RG.nil ?_
              refine AT.next ?_
              refine CG.ret ?_
              cases so h
              exact AT.ret2 rfl rfl rfl
  · obtain ⟨hx, h⟩ := h
    refine LG.unfold ?_
    refine CG.seq ?_
    refine CG.region ?_
    refine RG.op (ok_lss (ht rfl) (ht rfl)) rfl ?_
    refine RG.nil ?_
    refine AT.next ?_
    refine CG.seq ?_
    refine CG.condT (ht rfl) (dropT hx) ?_
    refine CG.skip ?_
    refine AT.next ?_
    refine CG.seq ?_
    refine CG.block ?_
    refine CG.seq ?_
    refine CG.region ?_
    refine RG.op (ok_indexAddr Tryz.underlying40 ti3 rfl (ht rfl) (ht rfl) (dropI hx)) rfl ?_
    refine RG.op (ok_load ti3 rfl rfl (ht rfl)) rfl ?_
    refine RG.op (ok_assign (ht rfl)) rfl ?_
    refine RG.nil ?_
    refine AT.next ?_
    refine CG.block ?_
    refine CG.seq ?_
    refine CG.region ?_
    refine RG.op (ok_move (ht rfl)) rfl ?_
    refine RG.op (ok_eqlI (ht rfl) hI) rfl ?_
    refine RG.op (ok_move (ht rfl)) rfl ?_
    refine RG.opGf rfl rfl rfl rfl (fun hg => ok_move (ht rfl)) ?_
    refine RG.opGf rfl rfl rfl rfl (fun hg => ok_move (ht rfl)) ?_
    refine RG.opGf rfl rfl rfl rfl (fun hg => ok_eqlI (htO rfl hg) (htO rfl hg)) ?_
    refine RG.op (ok_pickOr (ht rfl) (fun hb => (htO rfl (noti hb)))) rfl ?_
    refine RG.op (ok_assign (ht rfl)) rfl ?_
    refine RG.nil ?_
    refine AT.next ?_
    refine CG.cond (ht rfl) (fun hc => ?_) (fun hc => ?_)
    · have h := ct h hc
      refine CG.skip ?_
      refine AT.in_normal ?_
      refine AT.in_normal ?_
      refine AT.next ?_
      refine CG.region ?_
      refine RG.op (ok_incN (dropL hx hN) (ht rfl) hI) rfl ?_
      refine RG.op (ok_move (ht rfl)) rfl ?_
      refine RG.nil ?_
      exact AT.round (LG.sub (ih (i + 1) own ⟨dropS hx, h⟩) ⟨rfl, rfl, rfl, rfl, rfl, rfl, trivial⟩)
    · have h := cf h hc
      refine CG.seq ?_
      refine CG.region ?_
      refine RG.op (ok_move (ht rfl)) rfl ?_
      refine RG.op (ok_eqlI (ht rfl) hI) rfl ?_
      refine RG.op (ok_assign (ht rfl)) rfl ?_
      refine RG.nil ?_
      refine AT.next ?_
      refine CG.cond (ht rfl) (fun hc => ?_) (fun hc => ?_)
      · have h := ct h hc
        refine CG.region ?_
        refine RG.op (ok_move (ht rfl)) rfl ?_
        refine RG.op (ok_assign (ht rfl)) rfl ?_
        refine RG.nil ?_
        refine AT.in_normal ?_
        refine AT.in_normal ?_
        refine AT.next ?_
        refine CG.region ?_
        refine RG.op (ok_incN (dropL hx hN) (ht rfl) hI) rfl ?_
        refine RG.op (ok_move (ht rfl)) rfl ?_
        refine RG.nil ?_
        exact AT.round (LG.sub (ih (i + 1) e ⟨dropS hx, h⟩) ⟨rfl, rfl, rfl, rfl, rfl, rfl, trivial⟩)
      · have h := cf h hc
        refine CG.region ?_
        refine RG.op (ok_assign hI) rfl ?_
        refine RG.nil ?_
        refine AT.in_normal ?_
        refine AT.in_normal ?_
        refine AT.next ?_
        refine CG.region ?_
        refine RG.op (ok_incN (dropL hx hN) (ht rfl) hI) rfl ?_
        refine RG.op (ok_move (ht rfl)) rfl ?_
        refine RG.nil ?_
        exact AT.round (LG.sub (ih (i + 1) (-1 : Int) ⟨dropS hx, h⟩) ⟨rfl, rfl, rfl, rfl, rfl, rfl, trivial⟩)

set_option maxRecDepth 100000 in
theorem f23_ok (e : DExpr) (kinds : (List Int)) {R : Int × Int} (h : expr_Kind e kinds = some R) : Spec Tryz.prog 23 [tD rpDExpr e, tD (rSl (rI .i64)) kinds] (tT [tD (rI .i64) R.1, tD (rI .i64) R.2]) := by
  refine Spec.of Tryz.func23 rfl rfl rfl fun w0 S0 => ?_
  refine CG.seq ?_
  refine CG.region ?_
  refine RG.op (ok_box (ht rfl)) rfl ?_
  refine RG.op (ok_box (ht rfl)) rfl ?_
  refine RG.op (ok_assign hI) rfl ?_
  refine RG.op (ok_assign hI) rfl ?_
  refine RG.nil ?_
  refine AT.next ?_
  refine CG.seq ?_
  refine CG.seq ?_
  refine CG.region ?_
  refine RG.op (ok_load ti24 rfl rfl (ht rfl)) rfl ?_
  obtain ⟨r, q_r, h⟩ := bs h
  refine RG.op (ok_call cb27 (f27_ok _ q_r) ⟨(ht rfl), trivial⟩) rfl ?_
  refine RG.op (ok_assign (ht rfl)) rfl ?_
  refine RG.nil ?_
  refine AT.next ?_
  refine CG.seq ?_
  refine CG.region ?_
  refine RG.op (ok_move (ht rfl)) rfl ?_
  refine RG.op (ok_neqI (ht rfl) hI) rfl ?_
  refine RG.nil ?_
  refine AT.next ?_
  refine CG.cond (ht rfl) (fun hc => ?_) (fun hc => ?_)
  · have h := ct h hc
    refine CG.seq ?_
    refine CG.region ?_
    refine RG.op (ok_move (ht rfl)) rfl ?_
    refine RG.op (ok_assign hI) rfl ?_
    refine RG.op (ok_assign (ht rfl)) rfl ?_
    refine RG.nil ?_
    refine AT.next ?_
    refine CG.ret ?_
    refine AT.then_ret ?_
    cases so h
    exact AT.ret2 rfl rfl rfl
  · have h := cf h hc
    refine CG.skip ?_
    refine AT.next ?_
    refine CG.seq ?_
    refine CG.seq ?_
    refine CG.region ?_
    refine RG.op (ok_load ti40 rfl rfl (ht rfl)) rfl ?_
    refine RG.op (ok_lenSl Tryz.underlying40 (ht rfl)) rfl ?_
    refine RG.op (ok_move hI) rfl ?_
    refine RG.nil ?_
    refine AT.next ?_
    refine CG.block ?_
    refine CG.have_len (k := 16) rfl (fun hN => ?_)
    refine CG.loop ?_
    refine LG.sub (LG.list1 (Z := fun ls i  => (kinds.drop i = ls) ∧ expr_Kind_l1 e kinds ls  = some R) (Of := fun _ i  => []) (Gf := fun _ i  => [(2, tPtr rpDExpr e), (3, tPtr (rSl (rI .i64)) kinds), (16, tD (rSl (rI .i64)) kinds), (17, tD (rI .i64) (kinds.length : Int)), (18, tD (rI .i64) (i : Int))]) (fun i  h => ?_) (fun e1 tl ih i  h => ?_) kinds 0  ⟨rfl, h⟩) ⟨rfl, rfl, rfl, rfl, rfl, trivial⟩
    · obtain ⟨hx, h⟩ := h
      refine LG.unfold ?_
      refine CG.seq ?_
      refine CG.region ?_
      refine RG.op (ok_lss (ht rfl) (ht rfl)) rfl ?_
      refine RG.nil ?_
      refine AT.next ?_
      refine CG.seq ?_
      refine CG.condF (ht rfl) (dropF hx) ?_
      refine CG.exit ?_
      refine AT.then_exit (AT.then_exit (AT.in_exit ?_))
      refine AT.next ?_
      refine CG.seq ?_
      refine CG.seq ?_
      refine CG.region ?_
      refine RG.op (ok_load ti24 rfl rfl (ht rfl)) rfl ?_
      obtain ⟨r1, q_r1, h⟩ := bs h
      refine RG.callO cb33 (f33_own _ q_r1) ⟨(ht rfl), trivial⟩ rfl (fun l c => ?_)
      refine RG.op (ok_lenO Tryz.underlying40 (.head _) (ht rfl)) rfl ?_
      refine RG.op (ok_move hI) rfl ?_
      refine RG.nil ?_
      refine AT.next ?_
      refine CG.block ?_
      refine CG.have_lenA (.head _) (fun hN1 => ?_)
      refine CG.loop ?_
      refine LG.sub (LG.list1 (Z := fun ls1 i1  => (r1.drop i1 = ls1) ∧ expr_Kind_l2 e kinds ls1  = some R) (Of := fun _ i1  => [arr (rI .i64) 3 l c r1]) (Gf := fun _ i1  => [(2, tPtr rpDExpr e), (3, tPtr (rSl (rI .i64)) kinds), (30, tV (oslV l c r1.length)), (31, tD (rI .i64) (r1.length : Int)), (32, tD (rI .i64) (i1 : Int))]) (fun i1  h => ?_) (fun e2 tl1 ih1 i1  h => ?_) r1 0  ⟨rfl, h⟩) ⟨rfl, rfl, rfl, rfl, rfl, trivial⟩
      · obtain ⟨hx1, h⟩ := h
        refine LG.unfold ?_
        refine CG.seq ?_
        refine CG.region ?_
        refine RG.op (ok_lss (ht rfl) (ht rfl)) rfl ?_
        refine RG.nil ?_
        refine AT.next ?_
        refine CG.seq ?_
        refine CG.condF (ht rfl) (dropF hx1) ?_
        refine CG.exit ?_
        refine AT.then_exit (AT.then_exit (AT.in_exit ?_))
        refine AT.next ?_
        refine CG.seq ?_
        refine CG.region ?_
        refine RG.op (ok_load ti24 rfl rfl (ht rfl)) rfl ?_
        refine RG.op ((show OpOK _ _ _ _ ((tFun Tryz.prog (fun (x : DENode × (List Int)) => [tD rpDENode x.1, tD (rSl (rI .i64)) x.2]) (fun (x : Int × Int) => tT [tD (rI .i64) x.1, tD (rI .i64) x.2]) (fun (x : DENode × (List Int)) => (expr_Kind_1 kinds) x.1 x.2))) from ok_makeFunc (cts := [tPtr (rSl (rI .i64)) kinds]) (caps := [.tmp 3]) cb57 ⟨(ht rfl), trivial⟩ (fun x y h => f57_ok _ _ _ h))) rfl ?_
        obtain ⟨r2, q_r2, h⟩ := bs h
        refine RG.op (ok_call cb56 (f56_ok _ _ q_r2) ⟨(ht rfl), (ht rfl), trivial⟩) rfl ?_
        refine RG.op (ok_extract rfl (ht rfl)) rfl ?_
        refine RG.op (ok_extract rfl (ht rfl)) rfl ?_
        refine RG.op (ok_assign (ht rfl)) rfl ?_
        refine RG.op (ok_assign (ht rfl)) rfl ?_
        refine RG.nil ?_
        refine AT.next ?_
        refine CG.ret ?_
        refine AT.drop ?_
        cases so h
        exact AT.ret2 rfl rfl rfl
      · obtain ⟨hx1, h⟩ := h
        refine LG.unfold ?_
        refine CG.seq ?_
        refine CG.region ?_
        refine RG.op (ok_lss (ht rfl) (ht rfl)) rfl ?_
        refine RG.nil ?_
        refine AT.next ?_
        refine CG.seq ?_
        refine CG.condT (ht rfl) (dropT hx1) ?_
        refine CG.skip ?_
        refine AT.next ?_
        refine CG.seq ?_
        refine CG.block ?_
        refine CG.seq ?_
        refine CG.region ?_
        refine RG.op (ok_indexAddrO Tryz.underlying40 ti3 (.head _) (ht rfl) (ht rfl) (dropI hx1)) rfl ?_
        refine RG.op (ok_loadE (r := (rI .i64)) (i := (i1 : Int)) (foff := 0) ti3 rfl rfl fld_whole rfl (.head _) (dropI hx1) (ht rfl)) rfl ?_
        refine RG.op (ok_assign (ht rfl)) rfl ?_
        refine RG.nil ?_
        refine AT.next ?_
        refine CG.seq ?_
        refine CG.region ?_
        refine RG.op (ok_move (ht rfl)) rfl ?_
        refine RG.op (ok_load ti40 rfl rfl (ht rfl)) rfl ?_
        refine RG.op (ok_lenSl Tryz.underlying40 (ht rfl)) rfl ?_
        refine RG.op (ok_geq (ht rfl) (ht rfl)) rfl ?_
        refine RG.nil ?_
        refine AT.next ?_
        refine CG.cond (ht rfl) (fun hc => ?_) (fun hc => ?_)
        · have h := ct h hc
          refine CG.seq ?_
          refine CG.region ?_
          refine RG.op (ok_assign hI) rfl ?_
          refine RG.op (ok_assign hI) rfl ?_
          refine RG.nil ?_
          refine AT.next ?_
          refine CG.ret ?_
          refine AT.in_ret (AT.then_ret (AT.then_ret (AT.in_ret (AT.then_ret ?_))))
          refine AT.drop ?_
          cases so h
          exact AT.ret2 rfl rfl rfl
        · have h := cf h hc
          refine CG.skip ?_
          refine AT.in_normal ?_
          refine AT.next ?_
          refine CG.region ?_
          refine RG.op (ok_incN (dropL hx1 hN1) (ht rfl) hI) rfl ?_
          refine RG.op (ok_move (ht rfl)) rfl ?_
          refine RG.nil ?_
          exact AT.round (LG.sub (ih1 (i1 + 1)  ⟨dropS hx1, h⟩) ⟨rfl, rfl, rfl, rfl, rfl, trivial⟩)
    · obtain ⟨hx, h⟩ := h
      refine LG.unfold ?_
      refine CG.seq ?_
      refine CG.region ?_
      refine RG.op (ok_lss (ht rfl) (ht rfl)) rfl ?_
      refine RG.nil ?_
      refine AT.next ?_
      refine CG.seq ?_
      refine CG.condT (ht rfl) (dropT hx) ?_
      refine CG.skip ?_
      refine AT.next ?_
      refine CG.seq ?_
      refine CG.block ?_
      refine CG.seq ?_
      refine CG.region ?_
      refine RG.op (ok_indexAddr Tryz.underlying40 ti3 rfl (ht rfl) (ht rfl) (dropI hx)) rfl ?_
      refine RG.op (ok_load ti3 rfl rfl (ht rfl)) rfl ?_
      refine RG.op (ok_assign (ht rfl)) rfl ?_
      refine RG.nil ?_
      refine AT.next ?_
      refine CG.seq ?_
      refine CG.region ?_
      refine RG.op (ok_move (ht rfl)) rfl ?_
      refine RG.op (ok_lss (ht rfl) hI) rfl ?_
      refine RG.op (ok_move (ht rfl)) rfl ?_
      refine RG.opGf rfl rfl rfl rfl (fun hg => ok_move (ht rfl)) ?_
      refine RG.opGf rfl rfl rfl rfl (fun hg => ok_gtr (htO rfl hg) hI) ?_
      refine RG.op (ok_pickOr (ht rfl) (fun hb => (htO rfl (noti hb)))) rfl ?_
      refine RG.nil ?_
      refine AT.next ?_
      refine CG.cond (ht rfl) (fun hc => ?_) (fun hc => ?_)
      · have h := ct h hc
        refine CG.seq ?_
        refine CG.region ?_
        refine RG.op (ok_assign hI) rfl ?_
        refine RG.op (ok_assign hI) rfl ?_
        refine RG.nil ?_
        refine AT.next ?_
        refine CG.ret ?_
        refine AT.in_ret (AT.then_ret (AT.then_ret (AT.in_ret (AT.then_ret ?_))))
        cases so h
        exact AT.ret2 rfl rfl rfl
      · have h := cf h hc
        refine CG.skip ?_
        refine AT.in_normal ?_
        refine AT.next ?_
        refine CG.region ?_
        refine RG.op (ok_incN (dropL hx hN) (ht rfl) hI) rfl ?_
        refine RG.op (ok_move (ht rfl)) rfl ?_
        refine RG.nil ?_
        exact AT.round (LG.sub (ih (i + 1)  ⟨dropS hx, h⟩) ⟨rfl, rfl, rfl, rfl, rfl, trivial⟩)

end Go.Proofs.YtdhledkpgaeoaaaGreatDoor

