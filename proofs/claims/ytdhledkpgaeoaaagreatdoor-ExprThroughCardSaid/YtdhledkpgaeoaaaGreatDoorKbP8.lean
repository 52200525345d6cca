/- Facts of this claim: P8. -/
import Derived.Test.YtdhledkpgaeoaaaGreatDoorKbT
import Derived.Test.YtdhledkpgaeoaaaGreatDoorKbP7
namespace Go.Proofs.YtdhledkpgaeoaaaGreatDoor
open Go

set_option maxRecDepth 100000 in
theorem f51_ok (l : (List DExpr)) {R : Int × Int} (h : expr_nodes l = some R) : Spec Tryz.prog 51 [tD (rSl rpDExpr) l] (tT [tD (rI .i64) R.1, tD (rI .i64) R.2]) := by
  refine Spec.of Tryz.func51 rfl rfl rfl fun w0 S0 => ?_
  refine CG.seq ?_
  refine CG.region ?_
  refine RG.op (ok_assign hI) rfl ?_
  refine RG.op (ok_assign hI) rfl ?_
  refine RG.nil ?_
  refine AT.next ?_
  refine CG.seq ?_
  refine CG.region ?_
  refine RG.op (ok_assign hI) rfl ?_
  refine RG.nil ?_
  refine AT.next ?_
  refine CG.seq ?_
  refine CG.seq ?_
  refine CG.region ?_
  refine RG.op (ok_move (ht rfl)) rfl ?_
  refine RG.op (ok_lenSl Tryz.underlying51 (ht rfl)) rfl ?_
  refine RG.op (ok_move hI) rfl ?_
  refine RG.nil ?_
  refine AT.next ?_
  refine CG.block ?_
  refine CG.have_len (k := 8) rfl (fun hN => ?_)
  refine CG.loop ?_
  refine LG.sub (LG.list2 (Z := fun ls i n => (l.drop i = ls) ∧ expr_nodes_l1 ls n = some R) (Of := fun _ i n => []) (Gf := fun _ i n => [(4, tD (rI .i64) n), (8, tD (rSl rpDExpr) l), (9, tD (rI .i64) (l.length : Int)), (10, tD (rI .i64) (i : Int))]) (fun i n h => ?_) (fun e tl ih i n h => ?_) l 0 (0 : Int) ⟨rfl, h⟩) ⟨rfl, rfl, rfl, rfl, trivial⟩
  · obtain ⟨hx, h⟩ := h
    refine LG.unfold ?_
    refine CG.seq ?_
    refine CG.region ?_
    refine RG.op (ok_lss (ht rfl) (ht rfl)) rfl ?_
    refine RG.nil ?_
    refine AT.next ?_
    refine CG.seq ?_
    refine CG.condF (ht rfl) (dropF hx) ?_
    refine CG.exit ?_
    refine AT.then_exit (AT.then_exit (AT.in_exit ?_))
    refine AT.next ?_
    refine CG.seq ?_
    refine CG.region ?_
    refine RG.op (ok_move (ht rfl)) rfl ?_
    refine RG.op (ok_assign (ht rfl)) rfl ?_
    refine RG.op (ok_assign hI) rfl ?_
    refine RG.nil ?_
    refine AT.next ?_
    refine CG.ret ?_
    cases so h
    exact AT.ret2 rfl rfl rfl
  · obtain ⟨hx, h⟩ := h
    refine LG.unfold ?_
    refine CG.seq ?_
    refine CG.region ?_
    refine RG.op (ok_lss (ht rfl) (ht rfl)) rfl ?_
    refine RG.nil ?_
    refine AT.next ?_
    refine CG.seq ?_
    refine CG.condT (ht rfl) (dropT hx) ?_
    refine CG.skip ?_
    refine AT.next ?_
    refine CG.seq ?_
    refine CG.block ?_
    refine CG.seq ?_
    refine CG.region ?_
    refine RG.op (ok_indexAddr Tryz.underlying51 ti24 rfl (ht rfl) (ht rfl) (dropI hx)) rfl ?_
    refine RG.op (ok_load ti24 rfl rfl (ht rfl)) rfl ?_
    refine RG.alloc (r := rpDExpr) (x := (⟨[]⟩ : DExpr)) ti24 (fun _ => zrDExpr _) rfl (fun b => ?_)
    refine RG.storeB ti24 rfl sfld_whole rfl (ht rfl) (ht rfl) ?_
    refine RG.settleB 6 rfl ?_
    refine RG.nil ?_
    refine AT.next ?_
    refine CG.seq ?_
    refine CG.seq ?_
    refine CG.region ?_
    refine RG.op (ok_load ti24 rfl rfl (ht rfl)) rfl ?_
    obtain ⟨r, q_r, h⟩ := bs h
    refine RG.op (ok_call cb27 (f27_ok _ q_r) ⟨(ht rfl), trivial⟩) rfl ?_
    refine RG.op (ok_assign (ht rfl)) rfl ?_
    refine RG.nil ?_
    refine AT.next ?_
    refine CG.seq ?_
    refine CG.region ?_
    refine RG.op (ok_move (ht rfl)) rfl ?_
    refine RG.op (ok_neqI (ht rfl) hI) rfl ?_
    refine RG.nil ?_
    refine AT.next ?_
    refine CG.cond (ht rfl) (fun hc => ?_) (fun hc => ?_)
    · have h := ct h hc
      refine CG.seq ?_
      refine CG.region ?_
      refine RG.op (ok_move (ht rfl)) rfl ?_
      refine RG.op (ok_assign hI) rfl ?_
      refine RG.op (ok_assign (ht rfl)) rfl ?_
      refine RG.nil ?_
      refine AT.next ?_
      refine CG.ret ?_
      refine AT.then_ret (AT.in_ret (AT.then_ret (AT.then_ret (AT.in_ret (AT.then_ret ?_)))))
      cases so h
      exact AT.ret2 rfl rfl rfl
    · have h := cf h hc
      refine CG.skip ?_
      refine AT.next ?_
      refine CG.region ?_
      refine RG.op (ok_move (ht rfl)) rfl ?_
      refine RG.op (ok_fieldAddr fd24_0 rfl flDExpr_0 rfl (ht rfl)) rfl ?_
      refine RG.op (ok_load ti22 rfl rfl (ht rfl)) rfl ?_
      refine RG.op (ok_lenSl Tryz.underlying22 (ht rfl)) rfl ?_
      refine RG.op (ok_add (ht rfl) (ht rfl)) rfl ?_
      refine RG.op (ok_assign (ht rfl)) rfl ?_
      refine RG.nil ?_
      refine AT.in_normal ?_
      refine AT.next ?_
      refine CG.region ?_
      refine RG.op (ok_incN (dropL hx hN) (ht rfl) hI) rfl ?_
      refine RG.op (ok_move (ht rfl)) rfl ?_
      refine RG.nil ?_
      exact AT.round (LG.sub (ih (i + 1) (IntKind.i64.wrap (n + (e.Nodes.length : Int))) ⟨dropS hx, h⟩) ⟨rfl, rfl, rfl, rfl, trivial⟩)

set_option maxRecDepth 100000 in
theorem f97_v {l : Option Nat} {c : Nat} {xs s : List DExpr} {lo : Int} {R : List DExpr} (hs : sliceF xs lo (xs.length : Int) = some s) (h : slices_Clone_api_Expr_api_Expr s = some R) : SpecM Tryz.prog 97 [tV (vslV 1 l c lo.toNat s.length)] [arr rpDExpr 24 l c xs] (fun i : OI => tV (oslV (i.h 0).1 (i.h 0).2 R.length)) (fun i => [arr rpDExpr 24 (i.h 0).1 (i.h 0).2 R, arr rpDExpr 24 l c xs]) := by
  refine SpecM.of Tryz.func97 rfl rfl rfl fun w0 S0 => ?_
  refine CG.seq ?_
  refine CG.region ?_
  refine RG.op (ok_assign hVn) rfl ?_
  refine RG.nil ?_
  refine AT.next ?_
  refine CG.seq ?_
  refine CG.seq ?_
  refine CG.region ?_
  refine RG.op (ok_move (ht rfl)) rfl ?_
  refine RG.isNilV (r := rpDExpr) Tryz.underlying51 (.head _) hs (ht rfl) rfl (fun isnil hisnil => ?_)
  refine RG.nil ?_
  refine AT.next ?_
  refine CG.cond (ht rfl) (fun hc => ?_) (fun hc => ?_)
  · have hx := hisnil hc
    have h : some ([] : List DExpr) = some R := by simpa [slices_Clone_api_Expr_api_Expr, app, hx] using h
    refine CG.seq ?_
    refine CG.region ?_
    refine RG.fresh false rpDExpr 24 ?_
    refine RG.op (ok_assign hVn) rfl ?_
    refine RG.nil ?_
    refine AT.next ?_
    refine CG.ret ?_
    refine AT.then_ret ?_
    cases so h
    exact AT.retM1 rfl (oi none 0) rfl rfl (fun _ _ h => h)
  · refine CG.skip ?_
    refine AT.next ?_
    refine CG.seq ?_
    refine CG.region ?_
    refine RG.buildOwn (r := rpDExpr) (ys := ([] : List DExpr)) (xs := []) Tryz.underlying51 ti24 rfl rfl rfl rfl rfl trivial rfl (fun l1 c1 => ?_)
    refine RG.op (ok_move (ht rfl)) rfl ?_
    obtain ⟨x, q_x, h⟩ := bs h
    refine RG.appendV ti24 rfl rfl rfl rfl Tryz.underlying51 rfl rfl (ht rfl) (.tail _ (.head _)) hs (ht rfl) q_x (fun l2 c2 => ?_)
    refine RG.op (ok_assign (ht rfl)) rfl ?_
    refine RG.nil ?_
    refine AT.next ?_
    refine CG.ret ?_
    cases so h
    exact AT.retM1 rfl (oi l2 c2) rfl rfl (fun _ _ h => h)

set_option maxRecDepth 100000 in
theorem f96_c (b : Nat) (l : Option Nat) (c : Nat) (stack : (List DExpr)) (k : Int) {R : (List DExpr) × (List DExpr)} (h : expr_over_1_api_Expr stack k = some R) : SpecM Tryz.prog 96 [tD (rI .i64) k, tV (bptr b 0)] [bx rV 51 b (oslV l c stack.length), arr rpDExpr 24 l c stack] (fun i : OI => tD (rSl rpDExpr) R.1) (fun i => [bx rV 51 b (oslV (i.h 0).1 (i.h 0).2 R.2.length), arr rpDExpr 24 (i.h 0).1 (i.h 0).2 R.2]) := by
  refine SpecM.of Tryz.func96 rfl rfl rfl fun w0 S0 => ?_
  refine CG.seq ?_
  refine CG.region ?_
  refine RG.op (ok_assign (show HasTy _ _ _ (tD (rSl rpDExpr) ([])) from hNil)) rfl ?_
  refine RG.nil ?_
  refine AT.next ?_
  refine CG.seq ?_
  refine CG.region ?_
  refine RG.op (ok_loadA ti51 (.head _) (ht rfl)) rfl ?_
  refine RG.op (ok_loadA ti51 (.head _) (ht rfl)) rfl ?_
  refine RG.op (ok_lenO Tryz.underlying51 (.tail _ (.head _)) (ht rfl)) rfl ?_
  refine RG.op (ok_move (ht rfl)) rfl ?_
  refine RG.op (ok_sub (ht rfl) (ht rfl)) rfl ?_
  obtain ⟨y, q_y, h⟩ := bs h
  refine RG.op (ok_sliceLoO Tryz.underlying51 ti24 rfl (.tail _ (.head _)) (ht rfl) (ht rfl) q_y) rfl ?_
  refine RG.have_view (.tail _ (.head _)) q_y (fun hv => ?_)
  refine RG.front1 ?_
  obtain ⟨r, q_r, h⟩ := bs h
  refine RG.callM [arr rpDExpr 24 l c stack] _ rfl cb97 (f97_v q_y q_r) ⟨(ht rfl), trivial⟩ rfl (fun i => ?_)
  refine (show RG _ _ _ _ [arr rpDExpr 24 (i.h 0).1 (i.h 0).2 r, arr rpDExpr 24 l c stack, bx rV 51 b (oslV l c stack.length)] _ from ?_)
  refine RG.op (ok_assign (ht rfl)) rfl ?_
  refine RG.nil ?_
  refine AT.next ?_
  refine CG.seq ?_
  refine CG.region ?_
  refine RG.op (ok_loadA ti51 (.tail _ (.tail _ (.head _))) (ht rfl)) rfl ?_
  refine RG.op (ok_loadA ti51 (.tail _ (.tail _ (.head _))) (ht rfl)) rfl ?_
  refine RG.op (ok_lenO Tryz.underlying51 (.tail _ (.head _)) (ht rfl)) rfl ?_
  refine RG.op (ok_move (ht rfl)) rfl ?_
  refine RG.op (ok_sub (ht rfl) (ht rfl)) rfl ?_
  obtain ⟨y1, q_y1, h⟩ := bs h
  refine RG.op (ok_sliceHiO Tryz.underlying51 ti24 rfl (.tail _ (.head _)) (ht rfl) (ht rfl) q_y1) rfl ?_
  refine RG.front1 ?_
  refine RG.cut q_y1 ?_
  refine RG.front2 ?_
  refine RG.storeB ti51 rfl sfld_whole rfl (ht rfl) (hRV (ht rfl)) ?_
  refine RG.nil ?_
  refine AT.next ?_
  refine CG.seq ?_
  refine CG.region ?_
  refine RG.op (ok_move (ht rfl)) rfl ?_
  refine RG.op (ok_assign (ht rfl)) rfl ?_
  refine RG.nil ?_
  refine AT.next ?_
  refine CG.ret ?_
  refine AT.front2 ?_
  refine AT.freeze ?_
  refine AT.tipAt 3 rfl ?_
  refine AT.tipAt 11 rfl ?_
  refine AT.tipAt 4 rfl ?_
  refine AT.tipAt 18 rfl ?_
  refine AT.dataAt 3 rfl ?_
  refine AT.drop ?_
  refine AT.front1 ?_
  refine AT.front1 ?_
  cases so h
  exact AT.retM1 rfl (oi l c) rfl rfl (fun _ _ h => h)

set_option maxRecDepth 100000 in
theorem f52_ok (e : DExpr) (do1 : (DENode → (List DExpr) → Option (DExpr × Int))) {R : DExpr × Int} (h : expr_over_api_Expr e do1 = some R) : Spec Tryz.prog 52 [tD rpDExpr e, (tFun Tryz.prog (fun (x : DENode × (List DExpr)) => [tD rpDENode x.1, tD (rSl rpDExpr) x.2]) (fun (x : DExpr × Int) => tT [tD rpDExpr x.1, tD (rI .i64) x.2]) (fun (x : DENode × (List DExpr)) => do1 x.1 x.2))] (tT [tD rpDExpr R.1, tD (rI .i64) R.2]) := by
  refine Spec.of Tryz.func52 rfl rfl rfl fun w0 S0 => ?_
  refine CG.seq ?_
  refine CG.region ?_
  refine RG.op (ok_box (ht rfl)) rfl ?_
  refine RG.alloc (r := rpDExpr) (x := (⟨[]⟩ : DExpr)) ti24 (fun _ => zrDExpr _) rfl (fun b => ?_)
  refine RG.op (ok_assign hI) rfl ?_
  refine RG.nil ?_
  refine AT.next ?_
  refine CG.scope ?_
  refine CG.seq ?_
  refine CG.region ?_
  refine RG.fresh false rpDExpr 24 ?_
  refine RG.alloc (x := oslV none 0 0) ti51 (fun _ => rV_osl) rfl (fun b1 => ?_)
  refine RG.nil ?_
  refine AT.next ?_
  refine CG.seq ?_
  refine CG.region ?_
  refine RG.alloc (r := rpDExpr) (x := (⟨[]⟩ : DExpr)) ti24 (fun _ => zrDExpr _) rfl (fun b2 => ?_)
  refine RG.settleB 7 rfl ?_
  refine RG.nil ?_
  refine AT.next ?_
  refine CG.seq ?_
  refine CG.region ?_
  refine RG.op (ok_makeC (cts := [tV (bptr b1 0)]) (caps := [.tmp 6]) ⟨(ht rfl), trivial⟩) rfl ?_
  refine RG.op (ok_assign (ht rfl)) rfl ?_
  refine RG.nil ?_
  refine AT.next ?_
  refine CG.seq ?_
  refine CG.region ?_
  refine RG.op (ok_assign hI) rfl ?_
  refine RG.nil ?_
  refine AT.next ?_
  refine CG.seq ?_
  refine CG.label ?_
  refine AT.next ?_
  refine CG.seq ?_
  refine CG.seq ?_
  refine CG.region ?_
  refine RG.op (ok_fieldAddr fd24_0 rfl flDExpr_0 rfl (ht rfl)) rfl ?_
  refine RG.op (ok_load ti22 rfl rfl (ht rfl)) rfl ?_
  refine RG.op (ok_lenSl Tryz.underlying22 (ht rfl)) rfl ?_
  refine RG.op (ok_move hI) rfl ?_
  refine RG.nil ?_
  refine AT.next ?_
  refine CG.bjoin4 (Z := fun bad stack l c => expr_over_api_Expr_k1 bad stack = some R) (Of := fun bad stack l c => [bx rpDExpr 24 b (⟨[]⟩ : DExpr), bx rV 51 b1 (oslV l c stack.length), arr rpDExpr 24 l c stack]) (Gf := fun bad stack l c => [(4, tV (bptr b 0)), (6, tV (bptr b1 0)), (7, tPtr rpDExpr (⟨[]⟩ : DExpr)), (9, tD (rI .i64) bad)]) (fun bad stack l c h => ?_) (fun K => ?_)
  · skip
    refine AT.next ?_
    refine CG.seq ?_
    refine CG.seq ?_
    refine CG.region ?_
    refine RG.op (ok_move (ht rfl)) rfl ?_
    refine RG.op (ok_neqI (ht rfl) hI) rfl ?_
    refine RG.nil ?_
    refine AT.next ?_
    refine CG.cond (ht rfl) (fun hc => ?_) (fun hc => ?_)
    · have h := ct h hc
      refine CG.seq ?_
      refine CG.region ?_
      refine RG.op (ok_load ti24 rfl rfl (ht rfl)) rfl ?_
      refine RG.op (ok_move (ht rfl)) rfl ?_
      refine RG.storeB ti24 rfl sfld_whole rfl (ht rfl) (ht rfl) ?_
      refine RG.op (ok_assign (ht rfl)) rfl ?_
      refine RG.nil ?_
      refine AT.next ?_
      refine CG.ret ?_
      refine AT.then_ret (AT.sc_ret ?_)
      refine AT.settleB 4 rfl ?_
      refine AT.drop ?_
      refine AT.drop ?_
      cases so h
      exact AT.retL (rvs := [.cell 4 24, .tmp 5]) rfl rfl ⟨res_cell ti24 rfl rfl rfl, res_tmp rfl, trivial⟩
    · have h := cf h hc
      refine CG.skip ?_
      refine AT.next ?_
      refine CG.seq ?_
      refine CG.region ?_
      refine RG.op (ok_loadA ti51 (.tail _ (.head _)) (ht rfl)) rfl ?_
      obtain ⟨e1, q_e1, h⟩ := bs h
      refine RG.op (ok_indexAddrO Tryz.underlying51 ti24 (.tail _ (.tail _ (.head _))) (ht rfl) hI q_e1) rfl ?_
      refine RG.op (ok_loadE (r := rpDExpr) (i := (0 : Int)) (foff := 0) ti24 rfl rfl fld_whole rfl (.tail _ (.tail _ (.head _))) q_e1 (ht rfl)) rfl ?_
      refine RG.storeB ti24 rfl sfld_whole rfl (ht rfl) (ht rfl) ?_
      refine RG.op (ok_assign hI) rfl ?_
      refine RG.nil ?_
      refine AT.next ?_
      refine CG.ret ?_
      refine AT.sc_ret ?_
      refine AT.settleB 4 rfl ?_
      refine AT.drop ?_
      refine AT.drop ?_
      cases so h
      exact AT.retL (rvs := [.cell 4 24, .tmp 5]) rfl rfl ⟨res_cell ti24 rfl rfl rfl, res_tmp rfl, trivial⟩
  · skip
    refine CG.have_len (k := 16) rfl (fun hN => ?_)
    refine CG.loop ?_
    refine LG.front1 ?_
    refine LG.front1 ?_
    refine LG.front2 ?_
    refine LG.sub (LG.list5 (Z := fun ls i bad1 stack1 l1 c1 => (e.Nodes.drop i = ls) ∧ expr_over_api_Expr_l1 do1 ls bad1 stack1 = some R) (Of := fun _ i bad1 stack1 l1 c1 => [bx rpDExpr 24 b (⟨[]⟩ : DExpr), bx rV 51 b1 (oslV l1 c1 stack1.length), arr rpDExpr 24 l1 c1 stack1]) (Gf := fun _ i bad1 stack1 l1 c1 => [(1, (tFun Tryz.prog (fun (x : DENode × (List DExpr)) => [tD rpDENode x.1, tD (rSl rpDExpr) x.2]) (fun (x : DExpr × Int) => tT [tD rpDExpr x.1, tD (rI .i64) x.2]) (fun (x : DENode × (List DExpr)) => do1 x.1 x.2))), (4, tV (bptr b 0)), (6, tV (bptr b1 0)), (7, tPtr rpDExpr (⟨[]⟩ : DExpr)), (8, tC 96 [tV (bptr b1 0)]), (9, tD (rI .i64) bad1), (16, tD (rSl rpDENode) e.Nodes), (17, tD (rI .i64) (e.Nodes.length : Int)), (18, tD (rI .i64) (i : Int))]) (fun i bad1 stack1 l1 c1 h => ?_) (fun e2 tl ih i bad1 stack1 l1 c1 h => ?_) e.Nodes 0 (0 : Int) ([] : List DExpr) none 0 ⟨rfl, h⟩) ⟨rfl, rfl, rfl, rfl, rfl, rfl, rfl, rfl, rfl, trivial⟩
    · obtain ⟨hx, h⟩ := h
      refine LG.unfold ?_
      refine CG.seq ?_
      refine CG.region ?_
      refine RG.op (ok_lss (ht rfl) (ht rfl)) rfl ?_
      refine RG.nil ?_
      refine AT.next ?_
      refine CG.seq ?_
      refine CG.condF (ht rfl) (dropF hx) ?_
      refine CG.exit ?_
      refine AT.then_exit (AT.then_exit (AT.in_exit ?_))
      exact AT.sub (K bad1 stack1 l1 c1 h) ⟨rfl, rfl, rfl, rfl, trivial⟩
    · obtain ⟨hx, h⟩ := h
      refine LG.unfold ?_
      refine CG.seq ?_
      refine CG.region ?_
      refine RG.op (ok_lss (ht rfl) (ht rfl)) rfl ?_
      refine RG.nil ?_
      refine AT.next ?_
      refine CG.seq ?_
      refine CG.condT (ht rfl) (dropT hx) ?_
      refine CG.skip ?_
      refine AT.next ?_
      refine CG.seq ?_
      refine CG.block ?_
      refine CG.seq ?_
      refine CG.region ?_
      refine RG.op (ok_indexAddr Tryz.underlying22 ti42 rfl (ht rfl) (ht rfl) (dropI hx)) rfl ?_
      refine RG.op (ok_load ti42 rfl rfl (ht rfl)) rfl ?_
      refine RG.alloc (r := rpDENode) (x := (⟨(0 : Int), (0 : Int), (0 : Int), (0 : Int), (⟨(0 : Int), (0 : Int), (0 : Int), []⟩ : DValue)⟩ : DENode)) ti42 (fun _ => zrDENode _) rfl (fun b3 => ?_)
      refine RG.storeB ti42 rfl sfld_whole rfl (ht rfl) (ht rfl) ?_
      refine RG.settleB 11 rfl ?_
      refine RG.nil ?_
      refine AT.next ?_
      refine CG.seq ?_
      obtain ⟨r, q_r, h⟩ := bs h
      obtain ⟨r1, q_r1, h⟩ := bs h
      obtain ⟨r2, q_r2, h⟩ := bs h
      refine CG.drawU 13 [tc ((tFun Tryz.prog (fun (x : DENode × (List DExpr)) => [tD rpDENode x.1, tD (rSl rpDExpr) x.2]) (fun (x : DExpr × Int) => tT [tD rpDExpr x.1, tD (rI .i64) x.2]) (fun (x : DENode × (List DExpr)) => do1 x.1 x.2))), tc (tD rpDENode e2), tc (tC 96 [tV (bptr b1 0)]), tc (tPtr (rI .i64) e2.Tag), tc (tD (rI .i64) e2.Tag), tc (tD (rI .i64) r), tc (tD (rSl rpDExpr) r1.1), tc (tT [tD rpDExpr r2.1, tD (rI .i64) r2.2]), tc (tT [tD rpDExpr r2.1, tD (rI .i64) r2.2]), tc (tD rpDExpr r2.1), tc (tD (rI .i64) r2.2), ([11], fun s => tV (bptr ((s.getD 0 zoi).h 0).2 0)), tc (tAny)] [false, false, false, false, false, false, true, false, false, false, false, true, true] [([], fun _ => [bx rpDExpr 24 b (⟨[]⟩ : DExpr), bx rV 51 b1 (oslV l1 c1 stack1.length), arr rpDExpr 24 l1 c1 stack1]), ([6], fun sg => [bx rV 51 b1 (oslV ((sg 6).h 0).1 ((sg 6).h 0).2 r1.2.length), arr rpDExpr 24 ((sg 6).h 0).1 ((sg 6).h 0).2 r1.2, bx rpDExpr 24 b (⟨[]⟩ : DExpr)]), ([11], fun sg => [bx rpDExpr 24 ((sg 11).h 0).2 (⟨[]⟩ : DExpr), bx rpDExpr 24 b (⟨[]⟩ : DExpr), bx rV 51 b1 (oslV l1 c1 stack1.length), arr rpDExpr 24 l1 c1 stack1]), ([6, 11], fun sg => [bx rpDExpr 24 ((sg 11).h 0).2 (⟨[]⟩ : DExpr), bx rV 51 b1 (oslV ((sg 6).h 0).1 ((sg 6).h 0).2 r1.2.length), arr rpDExpr 24 ((sg 6).h 0).1 ((sg 6).h 0).2 r1.2, bx rpDExpr 24 b (⟨[]⟩ : DExpr)]), ([6, 11, 12], fun sg => [bx rpDExpr 24 ((sg 11).h 0).2 r2.1, bx rV 51 b1 (oslV ((sg 6).h 0).1 ((sg 6).h 0).2 r1.2.length), arr rpDExpr 24 ((sg 6).h 0).1 ((sg 6).h 0).2 r1.2, bx rpDExpr 24 b (⟨[]⟩ : DExpr)])] (fun _ => rfl) mixed rfl rfl rfl rfl
        ⟨⟨[⟨1, fun _ => (tFun Tryz.prog (fun (x : DENode × (List DExpr)) => [tD rpDENode x.1, tD (rSl rpDExpr) x.2]) (fun (x : DExpr × Int) => tT [tD rpDExpr x.1, tD (rI .i64) x.2]) (fun (x : DENode × (List DExpr)) => do1 x.1 x.2)), none⟩], _, [[], [6], [11], [6, 11]], rfl, ⟨(fun _ => rfl), trivial⟩, rfl, rfl, rfl, rfl, rfl, ⟨fun sg => OpG.plain rfl (ok_move (ht rfl)), fun sg => OpG.plain rfl (ok_move (ht rfl)), fun sg => OpG.plain rfl (ok_move (ht rfl)), fun sg => OpG.plain rfl (ok_move (ht rfl)), trivial⟩⟩,
        ⟨⟨[⟨11, fun _ => tPtr rpDENode e2, none⟩], _, [[], [6], [11], [6, 11]], rfl, ⟨(fun _ => rfl), trivial⟩, rfl, rfl, rfl, rfl, rfl, ⟨fun sg => OpG.plain rfl (ok_load ti42 rfl rfl (ht rfl)), fun sg => OpG.plain rfl (ok_load ti42 rfl rfl (ht rfl)), fun sg => OpG.plain rfl (ok_load ti42 rfl rfl (ht rfl)), fun sg => OpG.plain rfl (ok_load ti42 rfl rfl (ht rfl)), trivial⟩⟩,
        ⟨⟨[⟨8, fun _ => tC 96 [tV (bptr b1 0)], none⟩], _, [[], [11]], rfl, ⟨(fun _ => rfl), trivial⟩, rfl, rfl, rfl, rfl, rfl, ⟨fun sg => OpG.plain rfl (ok_move (ht rfl)), fun sg => OpG.plain rfl (ok_move (ht rfl)), trivial⟩⟩,
        ⟨⟨[⟨11, fun _ => tPtr rpDENode e2, none⟩], _, [[], [11]], rfl, ⟨(fun _ => rfl), trivial⟩, rfl, rfl, rfl, rfl, rfl, ⟨fun sg => OpG.plain rfl (ok_fieldAddr fd42_0 rfl flDENode_0 rfl (ht rfl)), fun sg => OpG.plain rfl (ok_fieldAddr fd42_0 rfl flDENode_0 rfl (ht rfl)), trivial⟩⟩,
        ⟨⟨[⟨26, fun _ => tPtr (rI .i64) e2.Tag, some 3⟩], _, [[], [11]], rfl, ⟨(fun _ => rfl), trivial⟩, rfl, rfl, rfl, rfl, rfl, ⟨fun sg => OpG.plain rfl (ok_load ti3 rfl rfl (ht rfl)), fun sg => OpG.plain rfl (ok_load ti3 rfl rfl (ht rfl)), trivial⟩⟩,
        ⟨⟨[⟨27, fun _ => tD (rI .i64) e2.Tag, some 4⟩], _, [[], [11]], rfl, ⟨(fun _ => rfl), trivial⟩, rfl, rfl, rfl, rfl, rfl, ⟨fun sg => OpG.plain rfl (ok_call cb85 (f85_ok _ q_r) ⟨(ht rfl), trivial⟩), fun sg => OpG.plain rfl (ok_call cb85 (f85_ok _ q_r) ⟨(ht rfl), trivial⟩), trivial⟩⟩,
        ⟨⟨[⟨25, fun _ => tC 96 [tV (bptr b1 0)], some 2⟩, ⟨28, fun _ => tD (rI .i64) r, some 5⟩], _, [([], [6]), ([11], [6, 11])], rfl, ⟨(fun _ => rfl), (fun _ => rfl), trivial⟩, rfl, rfl, rfl, rfl, rfl, ⟨fun sg => EffG.plain rfl (EffOK.fr2 (EffOK.fr2 (eff_callC (xs := [.tmp 28]) (ts := [tD (rI .i64) r]) (cts := [tV (bptr b1 0)]) [bx rV 51 b1 (oslV l1 c1 stack1.length), arr rpDExpr 24 l1 c1 stack1] _ rfl cb96 (f96_c b1 l1 c1 _ _ q_r1) (ht rfl) ⟨(ht rfl), trivial⟩ (fun _ => rfl)))), fun sg => EffG.plain rfl (EffOK.post_imp (post := fun x__ => (fun (sg : Nat → OI) => [bx rV 51 b1 (oslV ((sg 6).h 0).1 ((sg 6).h 0).2 r1.2.length), arr rpDExpr 24 ((sg 6).h 0).1 ((sg 6).h 0).2 r1.2, bx rpDExpr 24 ((sg 11).h 0).2 (⟨[]⟩ : DExpr), bx rpDExpr 24 b (⟨[]⟩ : DExpr)]) (upd sg 6 x__)) (EffOK.fr3 (EffOK.fr3 (eff_callC (xs := [.tmp 28]) (ts := [tD (rI .i64) r]) (cts := [tV (bptr b1 0)]) [bx rV 51 b1 (oslV l1 c1 stack1.length), arr rpDExpr 24 l1 c1 stack1] _ rfl cb96 (f96_c b1 l1 c1 _ _ q_r1) (ht rfl) ⟨(ht rfl), trivial⟩ (fun _ => rfl)))) (fun h => Own.pick [2, 0, 1, 3] rfl h)), trivial⟩⟩,
        ⟨⟨[⟨23, fun _ => (tFun Tryz.prog (fun (x : DENode × (List DExpr)) => [tD rpDENode x.1, tD (rSl rpDExpr) x.2]) (fun (x : DExpr × Int) => tT [tD rpDExpr x.1, tD (rI .i64) x.2]) (fun (x : DENode × (List DExpr)) => do1 x.1 x.2)), some 0⟩, ⟨24, fun _ => tD rpDENode e2, some 1⟩, ⟨29, fun _ => tD (rSl rpDExpr) r1.1, some 6⟩], _, [[6], [6, 11]], rfl, ⟨(fun _ => rfl), (fun _ => rfl), (fun _ => rfl), trivial⟩, rfl, rfl, rfl, rfl, rfl, ⟨fun sg => OpG.plain rfl (ok_callV (args := (fun (x : DENode × (List DExpr)) => [tD rpDENode x.1, tD (rSl rpDExpr) x.2])) (res := (fun (x : DExpr × Int) => tT [tD rpDExpr x.1, tD (rI .i64) x.2])) (f := (fun (x : DENode × (List DExpr)) => do1 x.1 x.2)) (x := ((e2, r1.1) : DENode × (List DExpr))) (ht rfl) q_r2 ⟨(ht rfl), (ht rfl), trivial⟩), fun sg => OpG.plain rfl (ok_callV (args := (fun (x : DENode × (List DExpr)) => [tD rpDENode x.1, tD (rSl rpDExpr) x.2])) (res := (fun (x : DExpr × Int) => tT [tD rpDExpr x.1, tD (rI .i64) x.2])) (f := (fun (x : DENode × (List DExpr)) => do1 x.1 x.2)) (x := ((e2, r1.1) : DENode × (List DExpr))) (ht rfl) q_r2 ⟨(ht rfl), (ht rfl), trivial⟩), trivial⟩⟩,
        ⟨⟨[⟨30, fun _ => tT [tD rpDExpr r2.1, tD (rI .i64) r2.2], some 7⟩], _, [[6], [6, 11]], rfl, ⟨(fun _ => rfl), trivial⟩, rfl, rfl, rfl, rfl, rfl, ⟨fun sg => OpG.plain rfl (ok_move (ht rfl)), fun sg => OpG.plain rfl (ok_move (ht rfl)), trivial⟩⟩,
        ⟨⟨[⟨22, fun _ => tT [tD rpDExpr r2.1, tD (rI .i64) r2.2], some 8⟩], _, [[6], [6, 11]], rfl, ⟨(fun _ => rfl), trivial⟩, rfl, rfl, rfl, rfl, rfl, ⟨fun sg => OpG.plain rfl (ok_extract rfl (ht rfl)), fun sg => OpG.plain rfl (ok_extract rfl (ht rfl)), trivial⟩⟩,
        ⟨⟨[⟨22, fun _ => tT [tD rpDExpr r2.1, tD (rI .i64) r2.2], some 8⟩], _, [[6], [6, 11], [6, 11, 12]], rfl, ⟨(fun _ => rfl), trivial⟩, rfl, rfl, rfl, rfl, rfl, ⟨fun sg => OpG.plain rfl (ok_extract rfl (ht rfl)), fun sg => OpG.plain rfl (ok_extract rfl (ht rfl)), fun sg => OpG.plain rfl (ok_extract rfl (ht rfl)), trivial⟩⟩,
        ⟨⟨[], _, [([], [11]), ([6], [6, 11])], rfl, trivial, rfl, rfl, rfl, rfl, rfl, ⟨fun sg => EffG.plain rfl (eff_alloc (r := rpDExpr) (x := (⟨[]⟩ : DExpr)) ti24 (fun _ => zrDExpr _)), fun sg => EffG.plain rfl (eff_alloc (r := rpDExpr) (x := (⟨[]⟩ : DExpr)) ti24 (fun _ => zrDExpr _)), trivial⟩⟩,
        ⟨⟨[⟨12, fun sg => tV (bptr ((sg 11).h 0).2 0), some 11⟩, ⟨31, fun _ => tD rpDExpr r2.1, some 9⟩], _, [([6, 11], [6, 11, 12])], rfl, ⟨(fun _ => rfl), (fun _ => rfl), trivial⟩, rfl, rfl, rfl, rfl, rfl, ⟨fun sg => EffG.plain rfl (eff_storeX ti24 rfl (sfx_of sfld_whole) rfl (ht rfl) (ht rfl)), trivial⟩⟩,
        trivial⟩⟩⟩⟩⟩⟩⟩⟩⟩⟩⟩⟩⟩ (fun sg => ?_)
      refine (show RG _ _ _ _ [bx rpDExpr 24 ((sg 11).h 0).2 r2.1, bx rV 51 b1 (oslV ((sg 6).h 0).1 ((sg 6).h 0).2 r1.2.length), arr rpDExpr 24 ((sg 6).h 0).1 ((sg 6).h 0).2 r1.2, bx rpDExpr 24 b (⟨[]⟩ : DExpr)] _ from ?_)
      refine RG.settleB 12 rfl ?_
      refine RG.op (ok_assign (ht rfl)) rfl ?_
      refine RG.nil ?_
      refine AT.next ?_
      refine CG.seq ?_
      refine CG.seq ?_
      refine CG.region ?_
      refine RG.op (ok_move (ht rfl)) rfl ?_
      refine RG.op (ok_neqI (ht rfl) hI) rfl ?_
      refine RG.nil ?_
      refine AT.next ?_
      refine CG.cond (ht rfl) (fun hc => ?_) (fun hc => ?_)
      · have h := ct h hc
        refine CG.seq ?_
        refine CG.region ?_
        refine RG.op (ok_move (ht rfl)) rfl ?_
        refine RG.op (ok_assign (ht rfl)) rfl ?_
        refine RG.nil ?_
        refine AT.next ?_
        refine CG.exit ?_
        refine AT.then_exit (AT.in_exit_ne rfl (AT.then_exit (AT.then_exit (AT.in_exit ?_))))
        refine AT.front1 ?_
        refine AT.front1 ?_
        refine AT.front2 ?_
        exact AT.sub (K r2.2 r1.2 ((sg 6).h 0).1 ((sg 6).h 0).2 h) ⟨rfl, rfl, rfl, rfl, trivial⟩
      · have h := cf h hc
        refine CG.skip ?_
        refine AT.next ?_
        refine CG.region ?_
        refine RG.op (ok_loadA ti51 (.head _) (ht rfl)) rfl ?_
        refine RG.op (ok_load ti24 rfl rfl (ht rfl)) rfl ?_
        refine RG.op (ok_buildSlice (r := rpDExpr) (ys := [r2.1]) (xs := [.tmp 37]) Tryz.underlying51 ti24 rfl rfl rfl rfl rfl ⟨(ht rfl), trivial⟩) rfl ?_
        refine RG.front1 ?_
        obtain ⟨l2, q_l2, h⟩ := bs h
        refine RG.append ti24 rfl rfl rfl rfl Tryz.underlying51 rfl rfl (ht rfl) (ht rfl) q_l2 (fun l3 c2 => ?_)
        refine RG.front1 ?_
        refine RG.storeB ti51 rfl sfld_whole rfl (ht rfl) (hRV (ht rfl)) ?_
        refine RG.nil ?_
        refine AT.in_normal ?_
        refine AT.next ?_
        refine CG.region ?_
        refine RG.op (ok_incN (dropL hx hN) (ht rfl) hI) rfl ?_
        refine RG.op (ok_move (ht rfl)) rfl ?_
        refine RG.nil ?_
        refine AT.front1 ?_
        refine AT.front1 ?_
        refine AT.front2 ?_
        exact AT.round (LG.sub (ih (i + 1) bad1 l2 l3 c2 ⟨dropS hx, h⟩) ⟨rfl, rfl, rfl, rfl, rfl, rfl, rfl, rfl, rfl, trivial⟩)

set_option maxRecDepth 100000 in
theorem f54_own (s : (List DENode)) {R : (List DENode)} (h : slices_Clone_api_ENode_api_ENode s = some R) : SpecO Tryz.prog 54 [tD (rSl rpDENode) s] false rpDENode 42 R := by
  refine SpecO.of Tryz.func54 rfl rfl rfl fun w0 S0 => ?_
  refine CG.seq ?_
  refine CG.region ?_
  refine RG.fresh false rpDENode 42 ?_
  refine RG.op (ok_assign hVn) rfl ?_
  refine RG.nil ?_
  refine AT.next ?_
  refine CG.seq ?_
  refine CG.seq ?_
  refine CG.region ?_
  refine RG.op (ok_move (ht rfl)) rfl ?_
  refine RG.isNil Tryz.underlying22 (ht rfl) rfl (fun isnil hisnil => ?_)
  refine RG.nil ?_
  refine AT.next ?_
  refine CG.cond (ht rfl) (fun hc => ?_) (fun hc => ?_)
  · have hx := hisnil hc
    have h : some ([] : List DENode) = some R := by simpa [slices_Clone_api_ENode_api_ENode, app, hx] using h
    refine CG.seq ?_
    refine CG.region ?_
    refine RG.fresh false rpDENode 42 ?_
    refine RG.op (ok_assign hVn) rfl ?_
    refine RG.nil ?_
    refine AT.next ?_
    refine CG.ret ?_
    refine AT.then_ret ?_
    cases so h
    exact AT.retO rfl rfl
  · refine CG.skip ?_
    refine AT.next ?_
    refine CG.seq ?_
    refine CG.region ?_
    refine RG.buildOwn (r := rpDENode) (ys := ([] : List DENode)) (xs := []) Tryz.underlying22 ti42 rfl rfl rfl rfl rfl trivial rfl (fun l c => ?_)
    refine RG.op (ok_move (ht rfl)) rfl ?_
    obtain ⟨x, q_x, h⟩ := bs h
    refine RG.append ti42 rfl rfl rfl rfl Tryz.underlying22 rfl rfl (ht rfl) (ht rfl) q_x (fun l1 c1 => ?_)
    refine RG.op (ok_assign (ht rfl)) rfl ?_
    refine RG.nil ?_
    refine AT.next ?_
    refine CG.ret ?_
    cases so h
    exact AT.retO rfl rfl
set_option maxRecDepth 100000 in
theorem f53_ok (c : (List DExpr)) (n : DENode) (parts : (List DExpr)) {R : DExpr × Int} (h : expr_Put_1 c n parts = some R) : Spec Tryz.prog 53 [tD rpDENode n, tD (rSl rpDExpr) parts, tPtr (rSl rpDExpr) c] (tT [tD rpDExpr R.1, tD (rI .i64) R.2]) := by
  refine Spec.of Tryz.func53 rfl rfl rfl fun w0 S0 => ?_
  refine CG.seq ?_
  refine CG.region ?_
  refine RG.op (ok_box (ht rfl)) rfl ?_
  refine RG.alloc (r := rpDExpr) (x := (⟨[]⟩ : DExpr)) ti24 (fun _ => zrDExpr _) rfl (fun b => ?_)
  refine RG.op (ok_assign hI) rfl ?_
  refine RG.nil ?_
  refine AT.next ?_
  refine CG.seq ?_
  refine CG.seq ?_
  refine CG.region ?_
  refine RG.op (ok_fieldAddr fd42_0 rfl flDENode_0 rfl (ht rfl)) rfl ?_
  refine RG.op (ok_load ti3 rfl rfl (ht rfl)) rfl ?_
  refine RG.op (ok_eqlI (ht rfl) hI) rfl ?_
  refine RG.nil ?_
  refine AT.next ?_
  refine CG.cond (ht rfl) (fun hc => ?_) (fun hc => ?_)
  · have h := ct h hc
    refine CG.seq ?_
    refine CG.region ?_
    refine RG.op (ok_load ti51 rfl rfl (ht rfl)) rfl ?_
    refine RG.op (ok_fieldAddr fd42_3 rfl flDENode_3 rfl (ht rfl)) rfl ?_
    refine RG.op (ok_load ti3 rfl rfl (ht rfl)) rfl ?_
    obtain ⟨e, q_e, h⟩ := bs h
    refine RG.op (ok_indexAddr Tryz.underlying51 ti24 rfl (ht rfl) (ht rfl) q_e) rfl ?_
    refine RG.op (ok_fieldAddr fd24_0 rfl flDExpr_0 rfl (ht rfl)) rfl ?_
    refine RG.op (ok_load ti22 rfl rfl (ht rfl)) rfl ?_
    obtain ⟨r, q_r, h⟩ := bs h
    refine RG.callO cb54 (f54_own _ q_r) ⟨(ht rfl), trivial⟩ rfl (fun l c1 => ?_)
    refine RG.freeze ?_
    refine RG.tipAt 16 rfl ?_
    refine RG.op (ok_build (y := (⟨r⟩ : DExpr)) ti24 fs24 zrDExpr (⟨_, _, _, _, _, rfl, sfDExpr_0, rfl, (tO_d (ht rfl)), rfl⟩)) rfl ?_
    refine RG.front1 ?_
    refine RG.storeB ti24 rfl sfld_whole rfl (ht rfl) (ht rfl) ?_
    refine RG.op (ok_assign hI) rfl ?_
    refine RG.nil ?_
    refine AT.next ?_
    refine CG.ret ?_
    refine AT.then_ret ?_
    refine AT.settleB 5 rfl ?_
    refine AT.drop ?_
    cases so h
    exact AT.retL (rvs := [.cell 5 24, .tmp 6]) rfl rfl ⟨res_cell ti24 rfl rfl rfl, res_tmp rfl, trivial⟩
  · have h := cf h hc
    refine CG.skip ?_
    refine AT.next ?_
    refine CG.seq ?_
    refine CG.region ?_
    refine RG.op (ok_load ti42 rfl rfl (ht rfl)) rfl ?_
    refine RG.op (ok_move (ht rfl)) rfl ?_
    obtain ⟨r1, q_r1, h⟩ := bs h
    refine RG.op (ok_call cb55 (f55_ok _ _ q_r1) ⟨(ht rfl), (ht rfl), trivial⟩) rfl ?_
    refine RG.storeB ti24 rfl sfld_whole rfl (ht rfl) (ht rfl) ?_
    refine RG.op (ok_assign hI) rfl ?_
    refine RG.nil ?_
    refine AT.next ?_
    refine CG.ret ?_
    refine AT.settleB 5 rfl ?_
    cases so h
    exact AT.retL (rvs := [.cell 5 24, .tmp 6]) rfl rfl ⟨res_cell ti24 rfl rfl rfl, res_tmp rfl, trivial⟩

set_option maxRecDepth 100000 in
theorem f21_ok (e : DExpr) (l : (List DExpr)) {R : DExpr × Int} (h : expr_Put e l = some R) : Spec Tryz.prog 21 [tD rpDExpr e, tD (rSl rpDExpr) l] (tT [tD rpDExpr R.1, tD (rI .i64) R.2]) := by
  refine Spec.of Tryz.func21 rfl rfl rfl fun w0 S0 => ?_
  refine CG.seq ?_
  refine CG.region ?_
  refine RG.op (ok_box (ht rfl)) rfl ?_
  refine RG.op (ok_box (ht rfl)) rfl ?_
  refine RG.alloc (r := rpDExpr) (x := (⟨[]⟩ : DExpr)) ti24 (fun _ => zrDExpr _) rfl (fun b => ?_)
  refine RG.op (ok_assign hI) rfl ?_
  refine RG.nil ?_
  refine AT.next ?_
  refine CG.seq ?_
  refine CG.region ?_
  refine RG.op (ok_load ti24 rfl rfl (ht rfl)) rfl ?_
  refine RG.buildOwn (r := rpDExpr) (ys := [e]) (xs := [.tmp 14]) Tryz.underlying51 ti24 rfl rfl rfl rfl rfl ⟨(ht rfl), trivial⟩ rfl (fun l1 c => ?_)
  refine RG.op (ok_load ti51 rfl rfl (ht rfl)) rfl ?_
  obtain ⟨l2, q_l2, h⟩ := bs h
  refine RG.append ti24 rfl rfl rfl rfl Tryz.underlying51 rfl rfl (ht rfl) (ht rfl) q_l2 (fun l3 c1 => ?_)
  refine RG.freeze ?_
  refine RG.tipAt 17 rfl ?_
  obtain ⟨r, q_r, h⟩ := bs h
  refine RG.op (ok_call cb51 (f51_ok _ q_r) ⟨(tO_d (ht rfl)), trivial⟩) rfl ?_
  refine RG.op (ok_move (ht rfl)) rfl ?_
  refine RG.op (ok_extract rfl (ht rfl)) rfl ?_
  refine RG.op (ok_extract rfl (ht rfl)) rfl ?_
  refine RG.op (ok_assign (ht rfl)) rfl ?_
  refine RG.op (ok_assign (ht rfl)) rfl ?_
  refine RG.nil ?_
  refine AT.next ?_
  refine CG.seq ?_
  refine CG.seq ?_
  refine CG.region ?_
  refine RG.op (ok_move (ht rfl)) rfl ?_
  refine RG.op (ok_neqI (ht rfl) hI) rfl ?_
  refine RG.nil ?_
  refine AT.next ?_
  refine CG.cond (ht rfl) (fun hc => ?_) (fun hc => ?_)
  · have h := ct h hc
    refine CG.seq ?_
    refine CG.region ?_
    refine RG.op (ok_build (y := (⟨[]⟩ : DExpr)) ti24 fs24 zrDExpr (rfl)) rfl ?_
    refine RG.op (ok_move (ht rfl)) rfl ?_
    refine RG.front1 ?_
    refine RG.storeB ti24 rfl sfld_whole rfl (ht rfl) (ht rfl) ?_
    refine RG.op (ok_assign (ht rfl)) rfl ?_
    refine RG.nil ?_
    refine AT.next ?_
    refine CG.ret ?_
    refine AT.then_ret ?_
    refine AT.settleB 4 rfl ?_
    refine AT.drop ?_
    cases so h
    exact AT.retL (rvs := [.cell 4 24, .tmp 5]) rfl rfl ⟨res_cell ti24 rfl rfl rfl, res_tmp rfl, trivial⟩
  · have h := cf h hc
    refine CG.skip ?_
    refine AT.next ?_
    refine CG.seq ?_
    refine CG.seq ?_
    refine CG.region ?_
    refine RG.op (ok_load ti24 rfl rfl (ht rfl)) rfl ?_
    obtain ⟨r1, q_r1, h⟩ := bs h
    refine RG.callO cb33 (f33_own _ q_r1) ⟨(ht rfl), trivial⟩ rfl (fun l4 c2 => ?_)
    refine RG.op (ok_lenO Tryz.underlying40 (.head _) (ht rfl)) rfl ?_
    refine RG.op (ok_move hI) rfl ?_
    refine RG.nil ?_
    refine AT.next ?_
    refine CG.block ?_
    refine CG.have_lenA (.head _) (fun hN => ?_)
    refine CG.loop ?_
    refine LG.front1 ?_
    refine LG.drop ?_
    refine LG.sub (LG.list2 (Z := fun ls i x => (r1.drop i = ls) ∧ expr_Put_l1 e l ls x = some R) (Of := fun _ i x => [arr (rI .i64) 3 l4 c2 r1, bx rpDExpr 24 b x]) (Gf := fun _ i x => [(2, tPtr rpDExpr e), (3, tPtr (rSl rpDExpr) l), (4, tV (bptr b 0)), (26, tV (oslV l4 c2 r1.length)), (27, tD (rI .i64) (r1.length : Int)), (28, tD (rI .i64) (i : Int))]) (fun i x h => ?_) (fun e1 tl ih i x h => ?_) r1 0 (⟨[]⟩ : DExpr) ⟨rfl, h⟩) ⟨rfl, rfl, rfl, rfl, rfl, rfl, trivial⟩
    · obtain ⟨hx, h⟩ := h
      refine LG.unfold ?_
      refine CG.seq ?_
      refine CG.region ?_
      refine RG.op (ok_lss (ht rfl) (ht rfl)) rfl ?_
      refine RG.nil ?_
      refine AT.next ?_
      refine CG.seq ?_
      refine CG.condF (ht rfl) (dropF hx) ?_
      refine CG.exit ?_
      refine AT.then_exit (AT.then_exit (AT.in_exit ?_))
      refine AT.next ?_
      refine CG.seq ?_
      refine CG.region ?_
      refine RG.op (ok_assign hI) rfl ?_
      refine RG.nil ?_
      refine AT.next ?_
      refine CG.seq ?_
      refine CG.seq ?_
      refine CG.region ?_
      refine RG.op (ok_fieldAddr fd24_0 rfl flDExpr_0 rfl (ht rfl)) rfl ?_
      refine RG.op (ok_load ti22 rfl rfl (ht rfl)) rfl ?_
      refine RG.op (ok_lenSl Tryz.underlying22 (ht rfl)) rfl ?_
      refine RG.op (ok_move hI) rfl ?_
      refine RG.nil ?_
      refine AT.next ?_
      refine CG.block ?_
      refine CG.have_len (k := 39) rfl (fun hN1 => ?_)
      refine CG.loop ?_
      refine LG.drop ?_
      refine LG.sub (LG.list2 (Z := fun ls1 i1 n => (e.Nodes.drop i1 = ls1) ∧ expr_Put_l2 e l ls1 n = some R) (Of := fun _ i1 n => [bx rpDExpr 24 b x]) (Gf := fun _ i1 n => [(2, tPtr rpDExpr e), (3, tPtr (rSl rpDExpr) l), (4, tV (bptr b 0)), (10, tD (rI .i64) n), (39, tD (rSl rpDENode) e.Nodes), (40, tD (rI .i64) (e.Nodes.length : Int)), (41, tD (rI .i64) (i1 : Int))]) (fun i1 n h => ?_) (fun e2 tl1 ih1 i1 n h => ?_) e.Nodes 0 (0 : Int) ⟨rfl, h⟩) ⟨rfl, rfl, rfl, rfl, rfl, rfl, rfl, trivial⟩
      · obtain ⟨hx1, h⟩ := h
        refine LG.unfold ?_
        refine CG.seq ?_
        refine CG.region ?_
        refine RG.op (ok_lss (ht rfl) (ht rfl)) rfl ?_
        refine RG.nil ?_
        refine AT.next ?_
        refine CG.seq ?_
        refine CG.condF (ht rfl) (dropF hx1) ?_
        refine CG.exit ?_
        refine AT.then_exit (AT.then_exit (AT.in_exit ?_))
        refine AT.next ?_
        refine CG.seq ?_
        refine CG.seq ?_
        refine CG.region ?_
        refine RG.op (ok_move (ht rfl)) rfl ?_
        refine RG.op (ok_gtr (ht rfl) hI) rfl ?_
        refine RG.nil ?_
        refine AT.next ?_
        refine CG.cond (ht rfl) (fun hc => ?_) (fun hc => ?_)
        · have h := ct h hc
          refine CG.seq ?_
          refine CG.region ?_
          refine RG.op (ok_build (y := (⟨[]⟩ : DExpr)) ti24 fs24 zrDExpr (rfl)) rfl ?_
          refine RG.storeB ti24 rfl sfld_whole rfl (ht rfl) (ht rfl) ?_
          refine RG.op (ok_assign hI) rfl ?_
          refine RG.nil ?_
          refine AT.next ?_
          refine CG.ret ?_
          refine AT.then_ret ?_
          refine AT.settleB 4 rfl ?_
          cases so h
          exact AT.retL (rvs := [.cell 4 24, .tmp 5]) rfl rfl ⟨res_cell ti24 rfl rfl rfl, res_tmp rfl, trivial⟩
        · have h := cf h hc
          refine CG.skip ?_
          refine AT.next ?_
          refine CG.seq ?_
          refine CG.region ?_
          refine RG.op (ok_load ti24 rfl rfl (ht rfl)) rfl ?_
          refine RG.op ((show OpOK _ _ _ _ ((tFun Tryz.prog (fun (x : DENode × (List DExpr)) => [tD rpDENode x.1, tD (rSl rpDExpr) x.2]) (fun (x : DExpr × Int) => tT [tD rpDExpr x.1, tD (rI .i64) x.2]) (fun (x : DENode × (List DExpr)) => (expr_Put_1 l) x.1 x.2))) from ok_makeFunc (cts := [tPtr (rSl rpDExpr) l]) (caps := [.tmp 3]) cb53 ⟨(ht rfl), trivial⟩ (fun x y h => f53_ok _ _ _ h))) rfl ?_
          obtain ⟨r2, q_r2, h⟩ := bs h
          refine RG.op (ok_call cb52 (f52_ok _ _ q_r2) ⟨(ht rfl), (ht rfl), trivial⟩) rfl ?_
          refine RG.op (ok_extract rfl (ht rfl)) rfl ?_
          refine RG.op (ok_extract rfl (ht rfl)) rfl ?_
          refine RG.storeB ti24 rfl sfld_whole rfl (ht rfl) (ht rfl) ?_
          refine RG.op (ok_assign (ht rfl)) rfl ?_
          refine RG.nil ?_
          refine AT.next ?_
          refine CG.ret ?_
          refine AT.settleB 4 rfl ?_
          cases so h
          exact AT.retL (rvs := [.cell 4 24, .tmp 5]) rfl rfl ⟨res_cell ti24 rfl rfl rfl, res_tmp rfl, trivial⟩
      · obtain ⟨hx1, h⟩ := h
        refine LG.unfold ?_
        refine CG.seq ?_
        refine CG.region ?_
        refine RG.op (ok_lss (ht rfl) (ht rfl)) rfl ?_
        refine RG.nil ?_
        refine AT.next ?_
        refine CG.seq ?_
        refine CG.condT (ht rfl) (dropT hx1) ?_
        refine CG.skip ?_
        refine AT.next ?_
        refine CG.seq ?_
        refine CG.block ?_
        refine CG.seq ?_
        refine CG.region ?_
        refine RG.op (ok_indexAddr Tryz.underlying22 ti42 rfl (ht rfl) (ht rfl) (dropI hx1)) rfl ?_
        refine RG.op (ok_load ti42 rfl rfl (ht rfl)) rfl ?_
        refine RG.alloc (r := rpDENode) (x := (⟨(0 : Int), (0 : Int), (0 : Int), (0 : Int), (⟨(0 : Int), (0 : Int), (0 : Int), []⟩ : DValue)⟩ : DENode)) ti42 (fun _ => zrDENode _) rfl (fun b1 => ?_)
        refine RG.storeB ti42 rfl sfld_whole rfl (ht rfl) (ht rfl) ?_
        refine RG.settleB 12 rfl ?_
        refine RG.nil ?_
        refine AT.next ?_
        refine CG.seq ?_
        refine CG.region ?_
        refine RG.op (ok_move (ht rfl)) rfl ?_
        refine RG.op (ok_add (ht rfl) hI) rfl ?_
        refine RG.op (ok_assign (ht rfl)) rfl ?_
        refine RG.nil ?_
        refine AT.next ?_
        refine CG.seq ?_
        refine CG.region ?_
        refine RG.op (ok_fieldAddr fd42_0 rfl flDENode_0 rfl (ht rfl)) rfl ?_
        refine RG.op (ok_load ti3 rfl rfl (ht rfl)) rfl ?_
        refine RG.op (ok_eqlI (ht rfl) hI) rfl ?_
        refine RG.nil ?_
        refine AT.next ?_
        refine CG.cond (ht rfl) (fun hc => ?_) (fun hc => ?_)
        · have h := ct h hc
          refine CG.region ?_
          refine RG.op (ok_move (ht rfl)) rfl ?_
          refine RG.op (ok_load ti51 rfl rfl (ht rfl)) rfl ?_
          refine RG.op (ok_fieldAddr fd42_3 rfl flDENode_3 rfl (ht rfl)) rfl ?_
          refine RG.op (ok_load ti3 rfl rfl (ht rfl)) rfl ?_
          obtain ⟨e3, q_e3, h⟩ := bs h
          refine RG.op (ok_indexAddr Tryz.underlying51 ti24 rfl (ht rfl) (ht rfl) q_e3) rfl ?_
          refine RG.op (ok_fieldAddr fd24_0 rfl flDExpr_0 rfl (ht rfl)) rfl ?_
          refine RG.op (ok_load ti22 rfl rfl (ht rfl)) rfl ?_
          refine RG.op (ok_lenSl Tryz.underlying22 (ht rfl)) rfl ?_
          refine RG.op (ok_sub (ht rfl) hI) rfl ?_
          refine RG.op (ok_add (ht rfl) (ht rfl)) rfl ?_
          refine RG.op (ok_assign (ht rfl)) rfl ?_
          refine RG.nil ?_
          refine AT.in_normal ?_
          refine AT.next ?_
          refine CG.region ?_
          refine RG.op (ok_incN (dropL hx1 hN1) (ht rfl) hI) rfl ?_
          refine RG.op (ok_move (ht rfl)) rfl ?_
          refine RG.nil ?_
          exact AT.round (LG.sub (ih1 (i1 + 1) (IntKind.i64.wrap ((IntKind.i64.wrap (n + (1 : Int))) + (IntKind.i64.wrap ((e3.Nodes.length : Int) - (1 : Int))))) ⟨dropS hx1, h⟩) ⟨rfl, rfl, rfl, rfl, rfl, rfl, rfl, trivial⟩)
        · have h := cf h hc
          refine CG.skip ?_
          refine AT.in_normal ?_
          refine AT.next ?_
          refine CG.region ?_
          refine RG.op (ok_incN (dropL hx1 hN1) (ht rfl) hI) rfl ?_
          refine RG.op (ok_move (ht rfl)) rfl ?_
          refine RG.nil ?_
          exact AT.round (LG.sub (ih1 (i1 + 1) (IntKind.i64.wrap (n + (1 : Int))) ⟨dropS hx1, h⟩) ⟨rfl, rfl, rfl, rfl, rfl, rfl, rfl, trivial⟩)
    · obtain ⟨hx, h⟩ := h
      refine LG.unfold ?_
      refine CG.seq ?_
      refine CG.region ?_
      refine RG.op (ok_lss (ht rfl) (ht rfl)) rfl ?_
      refine RG.nil ?_
      refine AT.next ?_
      refine CG.seq ?_
      refine CG.condT (ht rfl) (dropT hx) ?_
      refine CG.skip ?_
      refine AT.next ?_
      refine CG.seq ?_
      refine CG.block ?_
      refine CG.seq ?_
      refine CG.region ?_
      refine RG.op (ok_indexAddrO Tryz.underlying40 ti3 (.head _) (ht rfl) (ht rfl) (dropI hx)) rfl ?_
      refine RG.op (ok_loadE (r := (rI .i64)) (i := (i : Int)) (foff := 0) ti3 rfl rfl fld_whole rfl (.head _) (dropI hx) (ht rfl)) rfl ?_
      refine RG.op (ok_assign (ht rfl)) rfl ?_
      refine RG.nil ?_
      refine AT.next ?_
      refine CG.seq ?_
      refine CG.region ?_
      refine RG.op (ok_move (ht rfl)) rfl ?_
      refine RG.op (ok_load ti51 rfl rfl (ht rfl)) rfl ?_
      refine RG.op (ok_lenSl Tryz.underlying51 (ht rfl)) rfl ?_
      refine RG.op (ok_geq (ht rfl) (ht rfl)) rfl ?_
      refine RG.nil ?_
      refine AT.next ?_
      refine CG.cond (ht rfl) (fun hc => ?_) (fun hc => ?_)
      · have h := ct h hc
        refine CG.seq ?_
        refine CG.region ?_
        refine RG.op (ok_build (y := (⟨[]⟩ : DExpr)) ti24 fs24 zrDExpr (rfl)) rfl ?_
        refine RG.front1 ?_
        refine RG.storeB ti24 rfl sfld_whole rfl (ht rfl) (ht rfl) ?_
        refine RG.op (ok_assign hI) rfl ?_
        refine RG.nil ?_
        refine AT.next ?_
        refine CG.ret ?_
        refine AT.in_ret (AT.then_ret (AT.then_ret (AT.in_ret (AT.then_ret ?_))))
        refine AT.settleB 4 rfl ?_
        refine AT.drop ?_
        cases so h
        exact AT.retL (rvs := [.cell 4 24, .tmp 5]) rfl rfl ⟨res_cell ti24 rfl rfl rfl, res_tmp rfl, trivial⟩
      · have h := cf h hc
        refine CG.skip ?_
        refine AT.in_normal ?_
        refine AT.next ?_
        refine CG.region ?_
        refine RG.op (ok_incN (dropL hx hN) (ht rfl) hI) rfl ?_
        refine RG.op (ok_move (ht rfl)) rfl ?_
        refine RG.nil ?_
        exact AT.round (LG.sub (ih (i + 1) x ⟨dropS hx, h⟩) ⟨rfl, rfl, rfl, rfl, rfl, rfl, trivial⟩)

set_option maxRecDepth 100000 in
theorem f5_ok (p : DExpr) (l : (List DExpr)) (r : (List DValue)) {R : Bool} (h : law10_ExprThrough p l r = some R) : Spec Tryz.prog 5 [tD rpDExpr p, tD (rSl rpDExpr) l, tD (rSl rpDValue) r] (tD rB R) := by
  refine Spec.of Tryz.func5 rfl rfl rfl fun w0 S0 => ?_
  refine CG.seq ?_
  refine CG.region ?_
  refine RG.op (ok_box (ht rfl)) rfl ?_
  refine RG.op (ok_assign hB) rfl ?_
  refine RG.nil ?_
  refine AT.next ?_
  refine CG.seq ?_
  refine CG.seq ?_
  refine CG.region ?_
  obtain ⟨r1, q_r1, h⟩ := bs h
  refine RG.op (ok_call cb9 (f9_ok  q_r1) trivial) rfl ?_
  refine RG.op (ok_not (ht rfl)) rfl ?_
  refine RG.nil ?_
  refine AT.next ?_
  refine CG.cond (ht rfl) (fun hc => ?_) (fun hc => ?_)
  · have h := ct h hc
    refine CG.seq ?_
    refine CG.region ?_
    refine RG.op (ok_assign hB) rfl ?_
    refine RG.nil ?_
    refine AT.next ?_
    refine CG.ret ?_
    refine AT.then_ret ?_
    cases so h
    exact AT.ret1 rfl rfl
  · have h := cf h hc
    refine CG.skip ?_
    refine AT.next ?_
    refine CG.seq ?_
    refine CG.region ?_
    refine RG.op (ok_load ti24 rfl rfl (ht rfl)) rfl ?_
    obtain ⟨r2, q_r2, h⟩ := bs h
    refine RG.op (ok_call cb10 (f10_ok _ _ q_r2) ⟨(ht rfl), hI, trivial⟩) rfl ?_
    refine RG.op (ok_move (ht rfl)) rfl ?_
    obtain ⟨r3, q_r3, h⟩ := bs h
    refine RG.callO cb11 (f11_own _ q_r3) ⟨(ht rfl), trivial⟩ rfl (fun l1 c => ?_)
    refine RG.alloc (r := rpDExpr) (x := (⟨[]⟩ : DExpr)) ti24 (fun _ => zrDExpr _) rfl (fun b => ?_)
    refine RG.storeB ti24 rfl sfld_whole rfl (ht rfl) (ht rfl) ?_
    refine RG.settleB 7 rfl ?_
    refine RG.op (ok_assign (ht rfl)) rfl ?_
    refine RG.nil ?_
    refine AT.next ?_
    refine CG.seq ?_
    refine CG.region ?_
    refine RG.fresh false rpDExpr 24 ?_
    refine RG.op (ok_assign hVn) rfl ?_
    refine RG.nil ?_
    refine AT.next ?_
    refine CG.seq ?_
    refine CG.region ?_
    refine RG.fresh false rpDValue 33 ?_
    refine RG.op (ok_assign hVn) rfl ?_
    refine RG.nil ?_
    refine AT.next ?_
    refine CG.seq ?_
    refine CG.seq ?_
    refine CG.region ?_
    refine RG.op (ok_move (ht rfl)) rfl ?_
    refine RG.op (ok_lenSl Tryz.underlying51 (ht rfl)) rfl ?_
    refine RG.op (ok_move hI) rfl ?_
    refine RG.nil ?_
    refine AT.next ?_
    refine CG.bjoin6 (Z := fun list l2 c1 come l3 c2 => law10_ExprThrough_k1 r2 r3 list come = some R) (Of := fun list l2 c1 come l3 c2 => [tip rpDValue 33 l1 c r3, arr rpDExpr 24 l2 c1 list, arr rpDValue 33 l3 c2 come]) (Gf := fun list l2 c1 come l3 c2 => [(7, tPtr rpDExpr r2), (8, tO rpDValue l1 c r3), (9, tV (oslV l2 c1 list.length)), (10, tV (oslV l3 c2 come.length))]) (fun list l2 c1 come l3 c2 h => ?_) (fun K => ?_)
    · skip
      refine AT.next ?_
      refine CG.seq ?_
      refine CG.region ?_
      refine RG.op (ok_load ti24 rfl rfl (ht rfl)) rfl ?_
      refine RG.op (ok_move (ht rfl)) rfl ?_
      refine RG.front1 ?_
      refine RG.freeze ?_
      refine RG.tipAt 9 rfl ?_
      refine RG.tipAt 58 rfl ?_
      obtain ⟨r4, q_r4, h⟩ := bs h
      refine RG.op (ok_call cb21 (f21_ok _ _ q_r4) ⟨(ht rfl), (tO_d (ht rfl)), trivial⟩) rfl ?_
      refine RG.op (ok_move (ht rfl)) rfl ?_
      refine RG.op (ok_extract rfl (ht rfl)) rfl ?_
      refine RG.op (ok_extract rfl (ht rfl)) rfl ?_
      refine RG.alloc (r := rpDExpr) (x := (⟨[]⟩ : DExpr)) ti24 (fun _ => zrDExpr _) rfl (fun b1 => ?_)
      refine RG.storeB ti24 rfl sfld_whole rfl (ht rfl) (ht rfl) ?_
      refine RG.settleB 15 rfl ?_
      refine RG.op (ok_assign (ht rfl)) rfl ?_
      refine RG.nil ?_
      refine AT.next ?_
      refine CG.seq ?_
      refine CG.seq ?_
      refine CG.region ?_
      refine RG.op (ok_move (ht rfl)) rfl ?_
      refine RG.op (ok_neqI (ht rfl) hI) rfl ?_
      refine RG.nil ?_
      refine AT.next ?_
      refine CG.cond (ht rfl) (fun hc => ?_) (fun hc => ?_)
      · have h := ct h hc
        refine CG.seq ?_
        refine CG.region ?_
        refine RG.op (ok_assign hB) rfl ?_
        refine RG.nil ?_
        refine AT.next ?_
        refine CG.ret ?_
        refine AT.then_ret ?_
        refine AT.drop ?_
        refine AT.drop ?_
        refine AT.drop ?_
        cases so h
        exact AT.ret1 rfl rfl
      · have h := cf h hc
        refine CG.skip ?_
        refine AT.next ?_
        refine CG.seq ?_
        refine CG.region ?_
        refine RG.op (ok_load ti24 rfl rfl (ht rfl)) rfl ?_
        refine RG.op (ok_move (ht rfl)) rfl ?_
        obtain ⟨r5, q_r5, h⟩ := bs h
        refine RG.op (ok_call cb12 (f12_ok _ _ q_r5) ⟨(ht rfl), (tO_d (ht rfl)), trivial⟩) rfl ?_
        refine RG.op (ok_move (ht rfl)) rfl ?_
        refine RG.op (ok_extract rfl (ht rfl)) rfl ?_
        refine RG.op (ok_extract rfl (ht rfl)) rfl ?_
        refine RG.alloc (r := rpDValue) (x := (⟨(0 : Int), (0 : Int), (0 : Int), []⟩ : DValue)) ti33 (fun _ => zrDValue _) rfl (fun b2 => ?_)
        refine RG.storeB ti33 rfl sfld_whole rfl (ht rfl) (ht rfl) ?_
        refine RG.settleB 17 rfl ?_
        refine RG.op (ok_assign (ht rfl)) rfl ?_
        refine RG.nil ?_
        refine AT.next ?_
        refine CG.seq ?_
        refine CG.region ?_
        refine RG.op (ok_load ti24 rfl rfl (ht rfl)) rfl ?_
        refine RG.op (ok_move (ht rfl)) rfl ?_
        refine RG.front2 ?_
        refine RG.freeze ?_
        refine RG.tipAt 10 rfl ?_
        refine RG.tipAt 72 rfl ?_
        obtain ⟨r6, q_r6, h⟩ := bs h
        refine RG.op (ok_call cb12 (f12_ok _ _ q_r6) ⟨(ht rfl), (tO_d (ht rfl)), trivial⟩) rfl ?_
        refine RG.op (ok_move (ht rfl)) rfl ?_
        refine RG.op (ok_extract rfl (ht rfl)) rfl ?_
        refine RG.op (ok_extract rfl (ht rfl)) rfl ?_
        refine RG.alloc (r := rpDValue) (x := (⟨(0 : Int), (0 : Int), (0 : Int), []⟩ : DValue)) ti33 (fun _ => zrDValue _) rfl (fun b3 => ?_)
        refine RG.storeB ti33 rfl sfld_whole rfl (ht rfl) (ht rfl) ?_
        refine RG.settleB 18 rfl ?_
        refine RG.op (ok_assign (ht rfl)) rfl ?_
        refine RG.nil ?_
        refine AT.next ?_
        refine CG.seq ?_
        refine CG.region ?_
        refine RG.op (ok_load ti33 rfl rfl (ht rfl)) rfl ?_
        refine RG.op (ok_load ti33 rfl rfl (ht rfl)) rfl ?_
        refine RG.op (ok_eqlD eq33 (ht rfl) (ht rfl)) rfl ?_
        refine RG.op (ok_move (ht rfl)) rfl ?_
        refine RG.opGt rfl rfl rfl rfl (fun hg => ok_move (ht rfl)) ?_
        refine RG.opGt rfl rfl rfl rfl (fun hg => ok_move (ht rfl)) ?_
        refine RG.opGt rfl rfl rfl rfl (fun hg => ok_eqlI (htO rfl hg) (htO rfl hg)) ?_
        refine RG.op (ok_pickAnd (ht rfl) (fun hb => (htO rfl hb))) rfl ?_
        refine RG.op (ok_assign (ht rfl)) rfl ?_
        refine RG.nil ?_
        refine AT.next ?_
        refine CG.ret ?_
        refine AT.drop ?_
        refine AT.drop ?_
        refine AT.drop ?_
        cases so h
        exact AT.ret1 rfl rfl
    · skip
      refine CG.have_len (k := 26) rfl (fun hN => ?_)
      refine CG.loop ?_
      refine LG.front2 ?_
      refine LG.freeze ?_
      refine LG.tipAt 25 rfl ?_
      refine LG.tipAt 8 rfl ?_
      refine LG.front1 ?_
      refine LG.front2 ?_
      refine LG.front2 ?_
      refine LG.sub (LG.list7 (Z := fun ls i list1 l4 c3 come1 l5 c4 => (l.drop i = ls) ∧ law10_ExprThrough_l1 r2 r3 ls i list1 come1 = some R) (Of := fun _ i list1 l4 c3 come1 l5 c4 => [tip rpDValue 33 l1 c r3, arr rpDExpr 24 l4 c3 list1, arr rpDValue 33 l5 c4 come1]) (Gf := fun _ i list1 l4 c3 come1 l5 c4 => [(7, tPtr rpDExpr r2), (8, tO rpDValue l1 c r3), (9, tV (oslV l4 c3 list1.length)), (10, tV (oslV l5 c4 come1.length)), (26, tD (rSl rpDExpr) l), (27, tD (rI .i64) (l.length : Int)), (28, tD (rI .i64) (i : Int))]) (fun i list1 l4 c3 come1 l5 c4 h => ?_) (fun e tl ih i list1 l4 c3 come1 l5 c4 h => ?_) l 0 ([] : List DExpr) none 0 ([] : List DValue) none 0 ⟨rfl, h⟩) ⟨rfl, rfl, rfl, rfl, rfl, rfl, rfl, trivial⟩
      · obtain ⟨hx, h⟩ := h
        refine LG.unfold ?_
        refine CG.seq ?_
        refine CG.region ?_
        refine RG.op (ok_lss (ht rfl) (ht rfl)) rfl ?_
        refine RG.nil ?_
        refine AT.next ?_
        refine CG.seq ?_
        refine CG.condF (ht rfl) (dropF hx) ?_
        refine CG.exit ?_
        refine AT.then_exit (AT.then_exit (AT.in_exit ?_))
        exact AT.sub (K list1 l4 c3 come1 l5 c4 h) ⟨rfl, rfl, rfl, rfl, trivial⟩
      · obtain ⟨hx, h⟩ := h
        refine LG.unfold ?_
        refine CG.seq ?_
        refine CG.region ?_
        refine RG.op (ok_lss (ht rfl) (ht rfl)) rfl ?_
        refine RG.nil ?_
        refine AT.next ?_
        refine CG.seq ?_
        refine CG.condT (ht rfl) (dropT hx) ?_
        refine CG.skip ?_
        refine AT.next ?_
        refine CG.seq ?_
        refine CG.block ?_
        refine CG.seq ?_
        refine CG.region ?_
        refine RG.op (ok_move (ht rfl)) rfl ?_
        refine RG.op (ok_indexAddr Tryz.underlying51 ti24 rfl (ht rfl) (ht rfl) (dropI hx)) rfl ?_
        refine RG.op (ok_load ti24 rfl rfl (ht rfl)) rfl ?_
        refine RG.alloc (r := rpDExpr) (x := (⟨[]⟩ : DExpr)) ti24 (fun _ => zrDExpr _) rfl (fun b4 => ?_)
        refine RG.op (ok_assign (ht rfl)) rfl ?_
        refine RG.storeB ti24 rfl sfld_whole rfl (ht rfl) (ht rfl) ?_
        refine RG.settleB 12 rfl ?_
        refine RG.nil ?_
        refine AT.next ?_
        refine CG.seq ?_
        refine CG.seq ?_
        refine CG.region ?_
        refine RG.op (ok_move (ht rfl)) rfl ?_
        refine RG.op (ok_eqlI (ht rfl) hI) rfl ?_
        refine RG.nil ?_
        refine AT.next ?_
        refine CG.cond (ht rfl) (fun hc => ?_) (fun hc => ?_)
        · have h := ct h hc
          refine CG.exit ?_
          refine AT.then_exit (AT.in_exit_ne rfl (AT.then_exit (AT.then_exit (AT.in_exit ?_))))
          exact AT.sub (K list1 l4 c3 come1 l5 c4 h) ⟨rfl, rfl, rfl, rfl, trivial⟩
        · have h := cf h hc
          refine CG.skip ?_
          refine AT.next ?_
          refine CG.seq ?_
          refine CG.region ?_
          refine RG.op (ok_move (ht rfl)) rfl ?_
          refine RG.op (ok_load ti24 rfl rfl (ht rfl)) rfl ?_
          obtain ⟨r7, q_r7, h⟩ := bs h
          refine RG.op (ok_call cb10 (f10_ok _ _ q_r7) ⟨(ht rfl), hI, trivial⟩) rfl ?_
          refine RG.op (ok_buildSlice (r := rpDExpr) (ys := [r7]) (xs := [.tmp 37]) Tryz.underlying51 ti24 rfl rfl rfl rfl rfl ⟨(ht rfl), trivial⟩) rfl ?_
          refine RG.front1 ?_
          obtain ⟨list2, q_list2, h⟩ := bs h
          refine RG.append ti24 rfl rfl rfl rfl Tryz.underlying51 rfl rfl (ht rfl) (ht rfl) q_list2 (fun l6 c5 => ?_)
          refine RG.op (ok_assign (ht rfl)) rfl ?_
          refine RG.nil ?_
          refine AT.next ?_
          refine CG.seq ?_
          refine CG.region ?_
          refine RG.op (ok_move (ht rfl)) rfl ?_
          refine RG.op (ok_move (ht rfl)) rfl ?_
          obtain ⟨e1, q_e1, h⟩ := bs h
          refine RG.op (ok_indexAddrO Tryz.underlying51 ti24 (.head _) (ht rfl) (ht rfl) q_e1) rfl ?_
          refine RG.op (ok_loadE (r := rpDExpr) (i := (i : Int)) (foff := 0) ti24 rfl rfl fld_whole rfl (.head _) q_e1 (ht rfl)) rfl ?_
          refine RG.op (ok_move (ht rfl)) rfl ?_
          obtain ⟨r8, q_r8, h⟩ := bs h
          refine RG.op (ok_call cb12 (f12_ok _ _ q_r8) ⟨(ht rfl), (tO_d (ht rfl)), trivial⟩) rfl ?_
          refine RG.op (ok_move (ht rfl)) rfl ?_
          refine RG.op (ok_extract rfl (ht rfl)) rfl ?_
          refine RG.op (ok_extract rfl (ht rfl)) rfl ?_
          refine RG.alloc (r := rpDValue) (x := (⟨(0 : Int), (0 : Int), (0 : Int), []⟩ : DValue)) ti33 (fun _ => zrDValue _) rfl (fun b5 => ?_)
          refine RG.storeB ti33 rfl sfld_whole rfl (ht rfl) (ht rfl) ?_
          refine RG.settleB 13 rfl ?_
          refine RG.op (ok_assign (ht rfl)) rfl ?_
          refine RG.nil ?_
          refine AT.next ?_
          refine CG.seq ?_
          refine CG.seq ?_
          refine CG.region ?_
          refine RG.op (ok_move (ht rfl)) rfl ?_
          refine RG.op (ok_neqI (ht rfl) hI) rfl ?_
          refine RG.nil ?_
          refine AT.next ?_
          refine CG.cond (ht rfl) (fun hc => ?_) (fun hc => ?_)
          · have h := ct h hc
            refine CG.seq ?_
            refine CG.region ?_
            refine RG.op (ok_assign hB) rfl ?_
            refine RG.nil ?_
            refine AT.next ?_
            refine CG.ret ?_
            refine AT.then_ret (AT.in_ret (AT.then_ret (AT.then_ret (AT.in_ret (AT.then_ret ?_)))))
            refine AT.drop ?_
            refine AT.drop ?_
            refine AT.drop ?_
            cases so h
            exact AT.ret1 rfl rfl
          · have h := cf h hc
            refine CG.skip ?_
            refine AT.next ?_
            refine CG.region ?_
            refine RG.op (ok_move (ht rfl)) rfl ?_
            refine RG.op (ok_load ti33 rfl rfl (ht rfl)) rfl ?_
            refine RG.op (ok_buildSlice (r := rpDValue) (ys := [r8.1]) (xs := [.tmp 52]) Tryz.underlying29 ti33 rfl rfl rfl rfl rfl ⟨(ht rfl), trivial⟩) rfl ?_
            refine RG.front2 ?_
            obtain ⟨come2, q_come2, h⟩ := bs h
            refine RG.append ti33 rfl rfl rfl rfl Tryz.underlying29 rfl rfl (ht rfl) (ht rfl) q_come2 (fun l7 c6 => ?_)
            refine RG.op (ok_assign (ht rfl)) rfl ?_
            refine RG.nil ?_
            refine AT.in_normal ?_
            refine AT.next ?_
            refine CG.region ?_
            refine RG.op (ok_incN (dropL hx hN) (ht rfl) hI) rfl ?_
            refine RG.op (ok_move (ht rfl)) rfl ?_
            refine RG.nil ?_
            refine AT.front1 ?_
            refine AT.front2 ?_
            exact AT.round (LG.sub (ih (i + 1) list2 l6 c5 come2 l7 c6 ⟨dropS hx, h⟩) ⟨rfl, rfl, rfl, rfl, rfl, rfl, rfl, trivial⟩)

end Go.Proofs.YtdhledkpgaeoaaaGreatDoor

