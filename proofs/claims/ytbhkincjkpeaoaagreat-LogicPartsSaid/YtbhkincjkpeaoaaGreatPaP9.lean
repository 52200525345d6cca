/- Facts of this claim: P9. -/
import Derived.Test.YtbhkincjkpeaoaaGreatPaT
import Derived.Test.YtbhkincjkpeaoaaGreatPaP8
namespace Go.Proofs.YtbhkincjkpeaoaaGreat
open Go

set_option maxRecDepth 100000 in
theorem f15_ok (l : DLogic) (place : Int) {R : DLogic × Int} (h : logic_Part l place = some R) : Spec Tryz.prog 15 [tD rpDLogic l, tD (rI .i64) place] (tT [tD rpDLogic R.1, tD (rI .i64) R.2]) := by
  refine Spec.of Tryz.func15 rfl rfl rfl fun w0 S0 => ?_
  refine CG.seq ?_
  refine CG.region ?_
  refine RG.op (ok_box (ht rfl)) rfl ?_
  refine RG.alloc (r := rpDLogic) (x := (⟨[]⟩ : DLogic)) ti33 (fun _ => zrDLogic _) rfl (fun b => ?_)
  refine RG.op (ok_assign hI) rfl ?_
  refine RG.nil ?_
  refine AT.next ?_
  refine CG.seq ?_
  refine CG.region ?_
  refine RG.op (ok_load ti33 rfl rfl (ht rfl)) rfl ?_
  obtain ⟨r, q_r, h⟩ := bs h
  refine RG.op (ok_call cb32 (f32_ok _ q_r) ⟨(ht rfl), trivial⟩) rfl ?_
  refine RG.op (ok_move (ht rfl)) rfl ?_
  refine RG.op (ok_extract rfl (ht rfl)) rfl ?_
  refine RG.op (ok_extract rfl (ht rfl)) rfl ?_
  refine RG.op (ok_extract rfl (ht rfl)) rfl ?_
  refine RG.op (ok_assign (ht rfl)) rfl ?_
  refine RG.op (ok_assign (ht rfl)) rfl ?_
  refine RG.op (ok_assign (ht rfl)) rfl ?_
  refine RG.nil ?_
  refine AT.next ?_
  refine CG.seq ?_
  refine CG.block ?_
  refine CG.seq ?_
  refine CG.region ?_
  refine RG.op (ok_move (ht rfl)) rfl ?_
  refine RG.op (ok_not (ht rfl)) rfl ?_
  refine RG.op (ok_assign (ht rfl)) rfl ?_
  refine RG.nil ?_
  refine AT.next ?_
  refine CG.cond (ht rfl) (fun hc => ?_) (fun hc => ?_)
  · have h := ct h hc
    refine CG.seq ?_
    refine CG.region ?_
    refine RG.op (ok_build (y := (⟨[]⟩ : DLogic)) ti33 fs33 zrDLogic (rfl)) rfl ?_
    refine RG.storeB ti33 rfl sfld_whole rfl (ht rfl) (ht rfl) ?_
    refine RG.op (ok_assign hI) rfl ?_
    refine RG.nil ?_
    refine AT.next ?_
    refine CG.ret ?_
    refine AT.in_ret (AT.then_ret ?_)
    refine AT.settleB 4 rfl ?_
    cases so h
    exact AT.retL (rvs := [.cell 4 33, .tmp 5]) rfl rfl ⟨res_cell ti33 rfl rfl rfl, res_tmp rfl, trivial⟩
  · have h := cf h hc
    refine CG.seq ?_
    refine CG.region ?_
    refine RG.op (ok_move (ht rfl)) rfl ?_
    refine RG.op (ok_lss (ht rfl) hI) rfl ?_
    refine RG.op (ok_move (ht rfl)) rfl ?_
    refine RG.opGf rfl rfl rfl rfl (fun hg => ok_move (ht rfl)) ?_
    refine RG.opGf rfl rfl rfl rfl (fun hg => ok_fieldAddr fd33_0 rfl flDLogic_0 rfl (ht rfl)) ?_
    refine RG.opGf rfl rfl rfl rfl (fun hg => ok_load ti31 rfl rfl (htO rfl hg)) ?_
    refine RG.opGf rfl rfl rfl rfl (fun hg => ok_lenSl Tryz.underlying31 (htO rfl hg)) ?_
    refine RG.opGf rfl rfl rfl rfl (fun hg => ok_geq (htO rfl hg) (htO rfl hg)) ?_
    refine RG.op (ok_pickOr (ht rfl) (fun hb => (htO rfl (noti hb)))) rfl ?_
    refine RG.op (ok_assign (ht rfl)) rfl ?_
    refine RG.nil ?_
    refine AT.next ?_
    refine CG.cond (ht rfl) (fun hc => ?_) (fun hc => ?_)
    · have h := ct h hc
      refine CG.seq ?_
      refine CG.region ?_
      refine RG.op (ok_build (y := (⟨[]⟩ : DLogic)) ti33 fs33 zrDLogic (rfl)) rfl ?_
      refine RG.storeB ti33 rfl sfld_whole rfl (ht rfl) (ht rfl) ?_
      refine RG.op (ok_assign hI) rfl ?_
      refine RG.nil ?_
      refine AT.next ?_
      refine CG.ret ?_
      refine AT.in_ret (AT.then_ret ?_)
      refine AT.settleB 4 rfl ?_
      cases so h
      exact AT.retL (rvs := [.cell 4 33, .tmp 5]) rfl rfl ⟨res_cell ti33 rfl rfl rfl, res_tmp rfl, trivial⟩
    · have h := cf h hc
      refine CG.skip ?_
      refine AT.in_normal ?_
      refine AT.next ?_
      refine CG.seq ?_
      refine CG.region ?_
      refine RG.fresh true rpDLNode 30 ?_
      refine RG.alloc (r := rpOLogic_0) (x := mkOLogic_0 (⟨[]⟩ : DLogic) (oslV none 0 (([] : List DLNode).length))) ti33 zrOLogic_0 rfl (fun b1 => ?_)
      refine RG.nil ?_
      refine AT.next ?_
      refine CG.seq ?_
      refine CG.seq ?_
      refine CG.region ?_
      refine RG.op (ok_move (ht rfl)) rfl ?_
      refine RG.op (ok_nilP (ht rfl)) rfl ?_
      refine RG.op (ok_fieldAddr fd70_2 rfl flDchecker_2 rfl (ht rfl)) rfl ?_
      refine RG.op (ok_load ti22 rfl rfl (ht rfl)) rfl ?_
      refine RG.op (ok_move (ht rfl)) rfl ?_
      obtain ⟨e, q_e, h⟩ := bs h
      refine RG.op (ok_indexAddr Tryz.underlying22 ti3 rfl (ht rfl) (ht rfl) q_e) rfl ?_
      refine RG.op (ok_load ti3 rfl rfl (ht rfl)) rfl ?_
      refine RG.op (ok_assign (ht rfl)) rfl ?_
      refine RG.nil ?_
      refine AT.next ?_
      refine CG.block ?_
      refine CG.loop ?_
      refine LG.front1 ?_
      refine LG.front1 ?_
      refine LG.front2 ?_
      refine LG.sub (LG.ind4 (Z := fun n i out l1 c => logic_Part_l1 l place e n i out = some R) (Of := fun i out l1 c => [bx rpDLogic 33 b (⟨[]⟩ : DLogic), bx rpOLogic_0 33 b1 (mkOLogic_0 out (oslV l1 c out.Nodes.length)), tip rpDLNode 30 l1 c out.Nodes]) (Gf := fun i out l1 c => [(1, tD (rI .i64) place), (2, tPtr rpDLogic l), (4, tV (bptr b 0)), (6, tPtr rpDchecker r.1), (9, tV (bptr b1 0)), (10, tD (rI .i64) i)]) (fun i out l1 c h => nn h) (fun n ih i out l1 c h => ?_) FUEL e ({ (⟨[]⟩ : DLogic) with Nodes := ([] : List DLNode) } : DLogic) none 0 h) ⟨rfl, rfl, rfl, rfl, rfl, rfl, trivial⟩
      refine LG.unfold ?_
      refine CG.seq ?_
      refine CG.seq ?_
      refine CG.region ?_
      refine RG.op (ok_move (ht rfl)) rfl ?_
      refine RG.op (ok_move (ht rfl)) rfl ?_
      refine RG.op (ok_leq (ht rfl) (ht rfl)) rfl ?_
      refine RG.nil ?_
      refine AT.next ?_
      refine CG.cond (ht rfl) (fun hc => ?_) (fun hc => ?_)
      · have h := ct h hc
        refine CG.skip ?_
        refine AT.next ?_
        refine CG.seq ?_
        refine CG.block ?_
        obtain ⟨e1, q_e1, h⟩ := bs h
        obtain ⟨r1, q_r1, h⟩ := bs h
        refine CG.drawM 17 (ts := [tV (bptr b1 0), tO rpDLNode l1 c out.Nodes, tPtr (rSl rpDLNode) l.Nodes, tD (rSl rpDLNode) l.Nodes, tD (rI .i64) i, tPtr rpDLNode e1, tD rpDLNode e1, tPtr rpDchecker r.1, tPtr rpDchecker r.1, tPtr (rSl (rI .i64)) r.1.first, tD (rSl (rI .i64)) r.1.first, tD (rI .i64) place, tPtr (rI .i64) e, tD (rI .i64) e, tD (rI .i64) (IntKind.i64.wrap (0 - e)), tD rpDLNode r1, tD (rSl rpDLNode) ([r1])]) mixed rfl rfl rfl
          ⟨⟨[⟨9, _, none⟩], _, rfl, ⟨rfl, trivial⟩, rfl, rfl, OpG.plain rfl (ok_fieldAddrC (n := 0) fd33_0 rfl (ht rfl) rfl)⟩,
          ⟨⟨[⟨44, _, some 0⟩], _, rfl, ⟨rfl, trivial⟩, rfl, rfl, OpG.plain rfl (ok_loadFT ti31 flOLogic_0_0 (.tail _ (.head _)) (.tail _ (.tail _ (.head _))) rfl (ht rfl))⟩,
          ⟨⟨[⟨2, _, none⟩], _, rfl, ⟨rfl, trivial⟩, rfl, rfl, OpG.plain rfl (ok_fieldAddr fd33_0 rfl flDLogic_0 rfl (ht rfl))⟩,
          ⟨⟨[⟨46, _, some 2⟩], _, rfl, ⟨rfl, trivial⟩, rfl, rfl, OpG.plain rfl (ok_load ti31 rfl rfl (ht rfl))⟩,
          ⟨⟨[⟨10, _, none⟩], _, rfl, ⟨rfl, trivial⟩, rfl, rfl, OpG.plain rfl (ok_move (ht rfl))⟩,
          ⟨⟨[⟨47, _, some 3⟩, ⟨48, _, some 4⟩], _, rfl, ⟨rfl, rfl, trivial⟩, rfl, rfl, OpG.plain rfl (ok_indexAddr Tryz.underlying31 ti30 rfl (ht rfl) (ht rfl) q_e1)⟩,
          ⟨⟨[⟨49, _, some 5⟩], _, rfl, ⟨rfl, trivial⟩, rfl, rfl, OpG.plain rfl (ok_load ti30 rfl rfl (ht rfl))⟩,
          ⟨⟨[⟨6, _, none⟩], _, rfl, ⟨rfl, trivial⟩, rfl, rfl, OpG.plain rfl (ok_move (ht rfl))⟩,
          ⟨⟨[⟨51, _, some 7⟩], _, rfl, ⟨rfl, trivial⟩, rfl, rfl, OpG.plain rfl (ok_nilP (ht rfl))⟩,
          ⟨⟨[⟨52, _, some 8⟩], _, rfl, ⟨rfl, trivial⟩, rfl, rfl, OpG.plain rfl (ok_fieldAddr fd70_2 rfl flDchecker_2 rfl (ht rfl))⟩,
          ⟨⟨[⟨53, _, some 9⟩], _, rfl, ⟨rfl, trivial⟩, rfl, rfl, OpG.plain rfl (ok_load ti22 rfl rfl (ht rfl))⟩,
          ⟨⟨[⟨1, _, none⟩], _, rfl, ⟨rfl, trivial⟩, rfl, rfl, OpG.plain rfl (ok_move (ht rfl))⟩,
          ⟨⟨[⟨54, _, some 10⟩, ⟨55, _, some 11⟩], _, rfl, ⟨rfl, rfl, trivial⟩, rfl, rfl, OpG.plain rfl (ok_indexAddr Tryz.underlying22 ti3 rfl (ht rfl) (ht rfl) q_e)⟩,
          ⟨⟨[⟨56, _, some 12⟩], _, rfl, ⟨rfl, trivial⟩, rfl, rfl, OpG.plain rfl (ok_load ti3 rfl rfl (ht rfl))⟩,
          ⟨⟨[⟨57, _, some 13⟩], _, rfl, ⟨rfl, trivial⟩, rfl, rfl, OpG.plain rfl (ok_neg (ht rfl))⟩,
          ⟨⟨[⟨50, _, some 6⟩, ⟨58, _, some 14⟩], _, rfl, ⟨rfl, rfl, trivial⟩, rfl, rfl, OpG.plain rfl (ok_call cb33 (f33_ok _ _ q_r1) ⟨(ht rfl), (ht rfl), trivial⟩)⟩,
          ⟨⟨[⟨59, _, some 15⟩], _, rfl, ⟨rfl, trivial⟩, rfl, rfl, OpG.plain rfl (ok_buildSlice (r := rpDLNode) (ys := [r1]) (xs := [.tmp 59]) Tryz.underlying31 ti30 rfl rfl rfl rfl rfl ⟨(ht rfl), trivial⟩)⟩,
          trivial⟩⟩⟩⟩⟩⟩⟩⟩⟩⟩⟩⟩⟩⟩⟩⟩⟩ ?_
        refine RG.front2 ?_
        obtain ⟨l2, q_l2, h⟩ := bs h
        refine RG.appendT ti30 rfl rfl rfl rfl Tryz.underlying31 rfl rfl (ht rfl) (ht rfl) q_l2 (fun l3 c1 => ?_)
        refine RG.op (ok_fieldAddrC (n := 0) fd33_0 rfl (ht rfl) rfl) rfl ?_
        refine RG.front2 ?_
        refine RG.storeFX ti31 rfl (sxOLogic_0_to_0_at_0 _ _ _) rfl (ht rfl) (hRV (tO_v (ht rfl))) ?_
        refine RG.nil ?_
        refine AT.in_normal ?_
        refine AT.next ?_
        refine CG.region ?_
        refine RG.op (ok_move (ht rfl)) rfl ?_
        refine RG.op (ok_add (ht rfl) hI) rfl ?_
        refine RG.op (ok_assign (ht rfl)) rfl ?_
        refine RG.nil ?_
        refine AT.front1 ?_
        refine AT.front1 ?_
        refine AT.front2 ?_
        exact AT.round (LG.sub (ih (IntKind.i64.wrap (i + (1 : Int))) ({ out with Nodes := l2 } : DLogic) l3 c1 h) ⟨rfl, rfl, rfl, rfl, rfl, rfl, trivial⟩)
      · have h := cf h hc
        refine CG.exit ?_
        refine AT.then_exit (AT.then_exit (AT.in_exit ?_))
        refine AT.next ?_
        refine CG.seq ?_
        refine CG.region ?_
        refine RG.front2 ?_
        refine RG.op (ok_loadObj (q := rpDLogic) (y := out) ti33 rfl rfl rfl rfl (.tail _ (.tail _ (.head _))) (fun _ _ _ ho h => cvOLogic_0_to_D (own_tip ho (.head _)) h) (ht rfl)) rfl ?_
        refine RG.front1 ?_
        refine RG.storeB ti33 rfl sfld_whole rfl (ht rfl) (ht rfl) ?_
        refine RG.op (ok_assign hI) rfl ?_
        refine RG.nil ?_
        refine AT.next ?_
        refine CG.ret ?_
        refine AT.settleB 4 rfl ?_
        refine AT.drop ?_
        refine AT.drop ?_
        cases so h
        exact AT.retL (rvs := [.cell 4 33, .tmp 5]) rfl rfl ⟨res_cell ti33 rfl rfl rfl, res_tmp rfl, trivial⟩

set_option maxRecDepth 100000 in
theorem f84_ok (s : (List DENode)) (f : (DENode → Option Bool)) {R : Int} (h : slices_IndexFunc_api_ENode_api_ENode s f = some R) : Spec Tryz.prog 84 [tD (rSl rpDENode) s, (tFun Tryz.prog (fun (x : DENode) => [tD rpDENode x]) (fun (x : Bool) => tD rB x) (fun (x : DENode) => f x))] (tD (rI .i64) R) := by
  refine Spec.of Tryz.func84 rfl rfl rfl fun w0 S0 => ?_
  refine CG.seq ?_
  refine CG.region ?_
  refine RG.op (ok_assign hI) rfl ?_
  refine RG.nil ?_
  refine AT.next ?_
  refine CG.seq ?_
  refine CG.seq ?_
  refine CG.region ?_
  refine RG.op (ok_move (ht rfl)) rfl ?_
  refine RG.op (ok_lenSl Tryz.underlying23 (ht rfl)) rfl ?_
  refine RG.op (ok_move hI) rfl ?_
  refine RG.nil ?_
  refine AT.next ?_
  refine CG.block ?_
  refine CG.have_len (k := 6) rfl (fun hN => ?_)
  refine CG.loop ?_
  refine LG.sub (LG.list1 (Z := fun ls i  => (s.drop i = ls) ∧ slices_IndexFunc_api_ENode_api_ENode_l1 f ls i  = some R) (Of := fun _ i  => []) (Gf := fun _ i  => [(0, tD (rSl rpDENode) s), (1, (tFun Tryz.prog (fun (x : DENode) => [tD rpDENode x]) (fun (x : Bool) => tD rB x) (fun (x : DENode) => f x))), (7, tD (rI .i64) (s.length : Int)), (8, tD (rI .i64) (i : Int))]) (fun i  h => ?_) (fun e tl ih i  h => ?_) s 0  ⟨rfl, h⟩) ⟨rfl, rfl, rfl, rfl, trivial⟩
  · obtain ⟨hx, h⟩ := h
    refine LG.unfold ?_
    refine CG.seq ?_
    refine CG.region ?_
    refine RG.op (ok_lss (ht rfl) (ht rfl)) rfl ?_
    refine RG.nil ?_
    refine AT.next ?_
    refine CG.seq ?_
    refine CG.condF (ht rfl) (dropF hx) ?_
    refine CG.exit ?_
    refine AT.then_exit (AT.then_exit (AT.in_exit ?_))
    refine AT.next ?_
    refine CG.seq ?_
    refine CG.region ?_
    refine RG.op (ok_assign hI) rfl ?_
    refine RG.nil ?_
    refine AT.next ?_
    refine CG.ret ?_
    cases so h
    exact AT.ret1 rfl rfl
  · obtain ⟨hx, h⟩ := h
    refine LG.unfold ?_
    refine CG.seq ?_
    refine CG.region ?_
    refine RG.op (ok_lss (ht rfl) (ht rfl)) rfl ?_
    refine RG.nil ?_
    refine AT.next ?_
    refine CG.seq ?_
    refine CG.condT (ht rfl) (dropT hx) ?_
    refine CG.skip ?_
    refine AT.next ?_
    refine CG.seq ?_
    refine CG.block ?_
    refine CG.seq ?_
    refine CG.region ?_
    refine RG.op (ok_move (ht rfl)) rfl ?_
    refine RG.op (ok_assign (ht rfl)) rfl ?_
    refine RG.nil ?_
    refine AT.next ?_
    refine CG.seq ?_
    refine CG.region ?_
    refine RG.op (ok_move (ht rfl)) rfl ?_
    refine RG.op (ok_move (ht rfl)) rfl ?_
    refine RG.op (ok_move (ht rfl)) rfl ?_
    refine RG.op (ok_indexAddr Tryz.underlying23 ti83 rfl (ht rfl) (ht rfl) (dropI hx)) rfl ?_
    refine RG.op (ok_load ti83 rfl rfl (ht rfl)) rfl ?_
    obtain ⟨r, q_r, h⟩ := bs h
    refine RG.op (ok_callV (args := (fun (x : DENode) => [tD rpDENode x])) (res := (fun (x : Bool) => tD rB x)) (f := (fun (x : DENode) => f x)) (x := ((e) : DENode)) (ht rfl) q_r ⟨(ht rfl), trivial⟩) rfl ?_
    refine RG.nil ?_
    refine AT.next ?_
    refine CG.cond (ht rfl) (fun hc => ?_) (fun hc => ?_)
    · have h := ct h hc
      refine CG.seq ?_
      refine CG.region ?_
      refine RG.op (ok_move (ht rfl)) rfl ?_
      refine RG.op (ok_assign (ht rfl)) rfl ?_
      refine RG.nil ?_
      refine AT.next ?_
      refine CG.ret ?_
      refine AT.in_ret (AT.then_ret (AT.then_ret (AT.in_ret (AT.then_ret ?_))))
      cases so h
      exact AT.ret1 rfl rfl
    · have h := cf h hc
      refine CG.skip ?_
      refine AT.in_normal ?_
      refine AT.next ?_
      refine CG.region ?_
      refine RG.op (ok_incN (dropL hx hN) (ht rfl) hI) rfl ?_
      refine RG.op (ok_move (ht rfl)) rfl ?_
      refine RG.nil ?_
      exact AT.round (LG.sub (ih (i + 1)  ⟨dropS hx, h⟩) ⟨rfl, rfl, rfl, rfl, trivial⟩)

set_option maxRecDepth 100000 in
theorem f55_ok (s : (List DENode)) (f : (DENode → Option Bool)) {R : Bool} (h : slices_ContainsFunc_api_ENode_api_ENode s f = some R) : Spec Tryz.prog 55 [tD (rSl rpDENode) s, (tFun Tryz.prog (fun (x : DENode) => [tD rpDENode x]) (fun (x : Bool) => tD rB x) (fun (x : DENode) => f x))] (tD rB R) := by
  refine Spec.of Tryz.func55 rfl rfl rfl fun w0 S0 => ?_
  refine CG.seq ?_
  refine CG.region ?_
  refine RG.op (ok_assign hB) rfl ?_
  refine RG.nil ?_
  refine AT.next ?_
  refine CG.seq ?_
  refine CG.region ?_
  refine RG.op (ok_move (ht rfl)) rfl ?_
  refine RG.op (ok_move (ht rfl)) rfl ?_
  obtain ⟨r, q_r, h⟩ := bs h
  refine RG.op (ok_call cb84 (f84_ok _ _ q_r) ⟨(ht rfl), (ht rfl), trivial⟩) rfl ?_
  refine RG.op (ok_geq (ht rfl) hI) rfl ?_
  refine RG.op (ok_assign (ht rfl)) rfl ?_
  refine RG.nil ?_
  refine AT.next ?_
  refine CG.ret ?_
  cases so h
  exact AT.ret1 rfl rfl

set_option maxRecDepth 100000 in
theorem f56_ok (n : DENode) {R : Bool} (h : expr_Safe_1 n = some R) : Spec Tryz.prog 56 [tD rpDENode n] (tD rB R) := by
  refine Spec.of Tryz.func56 rfl rfl rfl fun w0 S0 => ?_
  refine CG.seq ?_
  refine CG.region ?_
  refine RG.op (ok_box (ht rfl)) rfl ?_
  refine RG.op (ok_assign hB) rfl ?_
  refine RG.nil ?_
  refine AT.next ?_
  refine CG.seq ?_
  refine CG.region ?_
  refine RG.op (ok_fieldAddr fd83_0 rfl flDENode_0 rfl (ht rfl)) rfl ?_
  refine RG.op (ok_load ti3 rfl rfl (ht rfl)) rfl ?_
  obtain ⟨r, q_r, h⟩ := bs h
  refine RG.op (ok_call cb57 (f57_ok _ q_r) ⟨(ht rfl), trivial⟩) rfl ?_
  refine RG.op (ok_assign (ht rfl)) rfl ?_
  refine RG.nil ?_
  refine AT.next ?_
  refine CG.ret ?_
  cases so h
  exact AT.ret1 rfl rfl

set_option maxRecDepth 100000 in
theorem f35_ok (e : DExpr) {R : Bool} (h : expr_Safe e = some R) : Spec Tryz.prog 35 [tD rpDExpr e] (tD rB R) := by
  refine Spec.of Tryz.func35 rfl rfl rfl fun w0 S0 => ?_
  refine CG.seq ?_
  refine CG.region ?_
  refine RG.op (ok_box (ht rfl)) rfl ?_
  refine RG.op (ok_assign hB) rfl ?_
  refine RG.nil ?_
  refine AT.next ?_
  refine CG.seq ?_
  refine CG.region ?_
  refine RG.op (ok_load ti25 rfl rfl (ht rfl)) rfl ?_
  obtain ⟨r, q_r, h⟩ := bs h
  refine RG.op (ok_call cb54 (f54_ok _ q_r) ⟨(ht rfl), trivial⟩) rfl ?_
  refine RG.op (ok_eqlI (ht rfl) hI) rfl ?_
  refine RG.op (ok_move (ht rfl)) rfl ?_
  obtain ⟨t, q_t, h⟩ := bs h
  refine RG.opGt rfl rfl rfl rfl (fun hg => ok_fieldAddr fd25_0 rfl flDExpr_0 rfl (ht rfl)) ?_
  refine RG.opGt rfl rfl rfl rfl (fun hg => ok_load ti23 rfl rfl (htO rfl hg)) ?_
  obtain ⟨r1, h1t, h0t⟩ := og q_t
  have q_r1g := fun hb => (h1t hb).1
  refine RG.opGt rfl rfl rfl rfl (fun hg => ok_call cb55 (f55_ok _ _ (q_r1g hg)) ⟨(htO rfl hg), (hFn cb56 fun x y h => f56_ok _ h), trivial⟩) ?_
  refine RG.opGt rfl rfl rfl rfl (fun hg => ok_not (htO rfl hg)) ?_
  refine RG.op (ok_pickAndM (ht rfl) (fun hb => (htO rfl hb)) (fun hb => (h1t hb).2) h0t) rfl ?_
  refine RG.op (ok_assign (ht rfl)) rfl ?_
  refine RG.nil ?_
  refine AT.next ?_
  refine CG.ret ?_
  cases so h
  exact AT.ret1 rfl rfl

set_option maxRecDepth 100000 in
theorem f34_ok (e : DExpr) {R : Bool} (h : logic_Safe_1 e = some R) : Spec Tryz.prog 34 [tD rpDExpr e] (tD rB R) := by
  refine Spec.of Tryz.func34 rfl rfl rfl fun w0 S0 => ?_
  refine CG.seq ?_
  refine CG.region ?_
  refine RG.op (ok_box (ht rfl)) rfl ?_
  refine RG.op (ok_assign hB) rfl ?_
  refine RG.nil ?_
  refine AT.next ?_
  refine CG.seq ?_
  refine CG.region ?_
  refine RG.op (ok_fieldAddr fd25_0 rfl flDExpr_0 rfl (ht rfl)) rfl ?_
  refine RG.op (ok_load ti23 rfl rfl (ht rfl)) rfl ?_
  refine RG.op (ok_lenSl Tryz.underlying23 (ht rfl)) rfl ?_
  refine RG.op (ok_gtr (ht rfl) hI) rfl ?_
  refine RG.op (ok_move (ht rfl)) rfl ?_
  obtain ⟨t, q_t, h⟩ := bs h
  refine RG.opGt rfl rfl rfl rfl (fun hg => ok_load ti25 rfl rfl (ht rfl)) ?_
  obtain ⟨r, h1t, h0t⟩ := og q_t
  have q_rg := fun hb => (h1t hb).1
  refine RG.opGt rfl rfl rfl rfl (fun hg => ok_call cb35 (f35_ok _ (q_rg hg)) ⟨(htO rfl hg), trivial⟩) ?_
  refine RG.opGt rfl rfl rfl rfl (fun hg => ok_not (htO rfl hg)) ?_
  refine RG.op (ok_pickAndM (ht rfl) (fun hb => (htO rfl hb)) (fun hb => (h1t hb).2) h0t) rfl ?_
  refine RG.op (ok_assign (ht rfl)) rfl ?_
  refine RG.nil ?_
  refine AT.next ?_
  refine CG.ret ?_
  cases so h
  exact AT.ret1 rfl rfl

set_option maxRecDepth 100000 in
theorem f36_ok (unsafe1 : (DExpr → Option Bool)) (a1 : DAgg) {R : Bool} (h : logic_Safe_2 unsafe1 a1 = some R) : Spec Tryz.prog 36 [tD rpDAgg a1, tPtr (rT (tFun Tryz.prog (fun (x : DExpr) => [tD rpDExpr x]) (fun (x : Bool) => tD rB x) (fun (x : DExpr) => unsafe1 x))) ()] (tD rB R) := by
  refine Spec.of Tryz.func36 rfl rfl rfl fun w0 S0 => ?_
  refine CG.seq ?_
  refine CG.region ?_
  refine RG.op (ok_box (ht rfl)) rfl ?_
  refine RG.op (ok_assign hB) rfl ?_
  refine RG.nil ?_
  refine AT.next ?_
  refine CG.seq ?_
  refine CG.region ?_
  refine RG.op (ok_fieldAddr fd61_0 rfl flDAgg_0 rfl (ht rfl)) rfl ?_
  refine RG.op (ok_load ti3 rfl rfl (ht rfl)) rfl ?_
  refine RG.op (ok_eqlI (ht rfl) hI) rfl ?_
  refine RG.op (ok_move (ht rfl)) rfl ?_
  obtain ⟨t, q_t, h⟩ := bs h
  refine RG.opGf rfl rfl rfl rfl (fun hg => ok_loadF ti59 (ht rfl)) ?_
  refine RG.opGf rfl rfl rfl rfl (fun hg => ok_fieldAddr fd61_1 rfl flDAgg_1 rfl (ht rfl)) ?_
  refine RG.opGf rfl rfl rfl rfl (fun hg => ok_load ti25 rfl rfl (htO rfl hg)) ?_
  obtain ⟨r, h1t, h0t⟩ := og q_t
  have q_rg := fun hb => (h1t hb).1
  refine RG.opGf rfl rfl rfl rfl (fun hg => ok_callV (args := (fun (x : DExpr) => [tD rpDExpr x])) (res := (fun (x : Bool) => tD rB x)) (f := (fun (x : DExpr) => unsafe1 x)) (x := ((a1.Arg) : DExpr)) (htO rfl hg) (q_rg hg) ⟨(htO rfl hg), trivial⟩) ?_
  refine RG.op (ok_pickOrM (ht rfl) (fun hb => (htO rfl (noti hb))) (fun hb => (h1t hb).2) h0t) rfl ?_
  refine RG.op (ok_assign (ht rfl)) rfl ?_
  refine RG.nil ?_
  refine AT.next ?_
  refine CG.ret ?_
  cases so h
  exact AT.ret1 rfl rfl

set_option maxRecDepth 100000 in
theorem f58_ok (s : (List DExpr)) (f : (DExpr → Option Bool)) {R : Int} (h : slices_IndexFunc_api_Expr_api_Expr s f = some R) : Spec Tryz.prog 58 [tD (rSl rpDExpr) s, (tFun Tryz.prog (fun (x : DExpr) => [tD rpDExpr x]) (fun (x : Bool) => tD rB x) (fun (x : DExpr) => f x))] (tD (rI .i64) R) := by
  refine Spec.of Tryz.func58 rfl rfl rfl fun w0 S0 => ?_
  refine CG.seq ?_
  refine CG.region ?_
  refine RG.op (ok_assign hI) rfl ?_
  refine RG.nil ?_
  refine AT.next ?_
  refine CG.seq ?_
  refine CG.seq ?_
  refine CG.region ?_
  refine RG.op (ok_move (ht rfl)) rfl ?_
  refine RG.op (ok_lenSl Tryz.underlying27 (ht rfl)) rfl ?_
  refine RG.op (ok_move hI) rfl ?_
  refine RG.nil ?_
  refine AT.next ?_
  refine CG.block ?_
  refine CG.have_len (k := 6) rfl (fun hN => ?_)
  refine CG.loop ?_
  refine LG.sub (LG.list1 (Z := fun ls i  => (s.drop i = ls) ∧ slices_IndexFunc_api_Expr_api_Expr_l1 f ls i  = some R) (Of := fun _ i  => []) (Gf := fun _ i  => [(0, tD (rSl rpDExpr) s), (1, (tFun Tryz.prog (fun (x : DExpr) => [tD rpDExpr x]) (fun (x : Bool) => tD rB x) (fun (x : DExpr) => f x))), (7, tD (rI .i64) (s.length : Int)), (8, tD (rI .i64) (i : Int))]) (fun i  h => ?_) (fun e tl ih i  h => ?_) s 0  ⟨rfl, h⟩) ⟨rfl, rfl, rfl, rfl, trivial⟩
  · obtain ⟨hx, h⟩ := h
    refine LG.unfold ?_
    refine CG.seq ?_
    refine CG.region ?_
    refine RG.op (ok_lss (ht rfl) (ht rfl)) rfl ?_
    refine RG.nil ?_
    refine AT.next ?_
    refine CG.seq ?_
    refine CG.condF (ht rfl) (dropF hx) ?_
    refine CG.exit ?_
    refine AT.then_exit (AT.then_exit (AT.in_exit ?_))
    refine AT.next ?_
    refine CG.seq ?_
    refine CG.region ?_
    refine RG.op (ok_assign hI) rfl ?_
    refine RG.nil ?_
    refine AT.next ?_
    refine CG.ret ?_
    cases so h
    exact AT.ret1 rfl rfl
  · obtain ⟨hx, h⟩ := h
    refine LG.unfold ?_
    refine CG.seq ?_
    refine CG.region ?_
    refine RG.op (ok_lss (ht rfl) (ht rfl)) rfl ?_
    refine RG.nil ?_
    refine AT.next ?_
    refine CG.seq ?_
    refine CG.condT (ht rfl) (dropT hx) ?_
    refine CG.skip ?_
    refine AT.next ?_
    refine CG.seq ?_
    refine CG.block ?_
    refine CG.seq ?_
    refine CG.region ?_
    refine RG.op (ok_move (ht rfl)) rfl ?_
    refine RG.op (ok_assign (ht rfl)) rfl ?_
    refine RG.nil ?_
    refine AT.next ?_
    refine CG.seq ?_
    refine CG.region ?_
    refine RG.op (ok_move (ht rfl)) rfl ?_
    refine RG.op (ok_move (ht rfl)) rfl ?_
    refine RG.op (ok_move (ht rfl)) rfl ?_
    refine RG.op (ok_indexAddr Tryz.underlying27 ti25 rfl (ht rfl) (ht rfl) (dropI hx)) rfl ?_
    refine RG.op (ok_load ti25 rfl rfl (ht rfl)) rfl ?_
    obtain ⟨r, q_r, h⟩ := bs h
    refine RG.op (ok_callV (args := (fun (x : DExpr) => [tD rpDExpr x])) (res := (fun (x : Bool) => tD rB x)) (f := (fun (x : DExpr) => f x)) (x := ((e) : DExpr)) (ht rfl) q_r ⟨(ht rfl), trivial⟩) rfl ?_
    refine RG.nil ?_
    refine AT.next ?_
    refine CG.cond (ht rfl) (fun hc => ?_) (fun hc => ?_)
    · have h := ct h hc
      refine CG.seq ?_
      refine CG.region ?_
      refine RG.op (ok_move (ht rfl)) rfl ?_
      refine RG.op (ok_assign (ht rfl)) rfl ?_
      refine RG.nil ?_
      refine AT.next ?_
      refine CG.ret ?_
      refine AT.in_ret (AT.then_ret (AT.then_ret (AT.in_ret (AT.then_ret ?_))))
      cases so h
      exact AT.ret1 rfl rfl
    · have h := cf h hc
      refine CG.skip ?_
      refine AT.in_normal ?_
      refine AT.next ?_
      refine CG.region ?_
      refine RG.op (ok_incN (dropL hx hN) (ht rfl) hI) rfl ?_
      refine RG.op (ok_move (ht rfl)) rfl ?_
      refine RG.nil ?_
      exact AT.round (LG.sub (ih (i + 1)  ⟨dropS hx, h⟩) ⟨rfl, rfl, rfl, rfl, trivial⟩)

set_option maxRecDepth 100000 in
theorem f37_ok (s : (List DExpr)) (f : (DExpr → Option Bool)) {R : Bool} (h : slices_ContainsFunc_api_Expr_api_Expr s f = some R) : Spec Tryz.prog 37 [tD (rSl rpDExpr) s, (tFun Tryz.prog (fun (x : DExpr) => [tD rpDExpr x]) (fun (x : Bool) => tD rB x) (fun (x : DExpr) => f x))] (tD rB R) := by
  refine Spec.of Tryz.func37 rfl rfl rfl fun w0 S0 => ?_
  refine CG.seq ?_
  refine CG.region ?_
  refine RG.op (ok_assign hB) rfl ?_
  refine RG.nil ?_
  refine AT.next ?_
  refine CG.seq ?_
  refine CG.region ?_
  refine RG.op (ok_move (ht rfl)) rfl ?_
  refine RG.op (ok_move (ht rfl)) rfl ?_
  obtain ⟨r, q_r, h⟩ := bs h
  refine RG.op (ok_call cb58 (f58_ok _ _ q_r) ⟨(ht rfl), (ht rfl), trivial⟩) rfl ?_
  refine RG.op (ok_geq (ht rfl) hI) rfl ?_
  refine RG.op (ok_assign (ht rfl)) rfl ?_
  refine RG.nil ?_
  refine AT.next ?_
  refine CG.ret ?_
  cases so h
  exact AT.ret1 rfl rfl

set_option maxRecDepth 100000 in
theorem f59_ok (s : (List DAgg)) (f : (DAgg → Option Bool)) {R : Int} (h : slices_IndexFunc_api_Agg_api_Agg s f = some R) : Spec Tryz.prog 59 [tD (rSl rpDAgg) s, (tFun Tryz.prog (fun (x : DAgg) => [tD rpDAgg x]) (fun (x : Bool) => tD rB x) (fun (x : DAgg) => f x))] (tD (rI .i64) R) := by
  refine Spec.of Tryz.func59 rfl rfl rfl fun w0 S0 => ?_
  refine CG.seq ?_
  refine CG.region ?_
  refine RG.op (ok_assign hI) rfl ?_
  refine RG.nil ?_
  refine AT.next ?_
  refine CG.seq ?_
  refine CG.seq ?_
  refine CG.region ?_
  refine RG.op (ok_move (ht rfl)) rfl ?_
  refine RG.op (ok_lenSl Tryz.underlying26 (ht rfl)) rfl ?_
  refine RG.op (ok_move hI) rfl ?_
  refine RG.nil ?_
  refine AT.next ?_
  refine CG.block ?_
  refine CG.have_len (k := 6) rfl (fun hN => ?_)
  refine CG.loop ?_
  refine LG.sub (LG.list1 (Z := fun ls i  => (s.drop i = ls) ∧ slices_IndexFunc_api_Agg_api_Agg_l1 f ls i  = some R) (Of := fun _ i  => []) (Gf := fun _ i  => [(0, tD (rSl rpDAgg) s), (1, (tFun Tryz.prog (fun (x : DAgg) => [tD rpDAgg x]) (fun (x : Bool) => tD rB x) (fun (x : DAgg) => f x))), (7, tD (rI .i64) (s.length : Int)), (8, tD (rI .i64) (i : Int))]) (fun i  h => ?_) (fun e tl ih i  h => ?_) s 0  ⟨rfl, h⟩) ⟨rfl, rfl, rfl, rfl, trivial⟩
  · obtain ⟨hx, h⟩ := h
    refine LG.unfold ?_
    refine CG.seq ?_
    refine CG.region ?_
    refine RG.op (ok_lss (ht rfl) (ht rfl)) rfl ?_
    refine RG.nil ?_
    refine AT.next ?_
    refine CG.seq ?_
    refine CG.condF (ht rfl) (dropF hx) ?_
    refine CG.exit ?_
    refine AT.then_exit (AT.then_exit (AT.in_exit ?_))
    refine AT.next ?_
    refine CG.seq ?_
    refine CG.region ?_
    refine RG.op (ok_assign hI) rfl ?_
    refine RG.nil ?_
    refine AT.next ?_
    refine CG.ret ?_
    cases so h
    exact AT.ret1 rfl rfl
  · obtain ⟨hx, h⟩ := h
    refine LG.unfold ?_
    refine CG.seq ?_
    refine CG.region ?_
    refine RG.op (ok_lss (ht rfl) (ht rfl)) rfl ?_
    refine RG.nil ?_
    refine AT.next ?_
    refine CG.seq ?_
    refine CG.condT (ht rfl) (dropT hx) ?_
    refine CG.skip ?_
    refine AT.next ?_
    refine CG.seq ?_
    refine CG.block ?_
    refine CG.seq ?_
    refine CG.region ?_
    refine RG.op (ok_move (ht rfl)) rfl ?_
    refine RG.op (ok_assign (ht rfl)) rfl ?_
    refine RG.nil ?_
    refine AT.next ?_
    refine CG.seq ?_
    refine CG.region ?_
    refine RG.op (ok_move (ht rfl)) rfl ?_
    refine RG.op (ok_move (ht rfl)) rfl ?_
    refine RG.op (ok_move (ht rfl)) rfl ?_
    refine RG.op (ok_indexAddr Tryz.underlying26 ti61 rfl (ht rfl) (ht rfl) (dropI hx)) rfl ?_
    refine RG.op (ok_load ti61 rfl rfl (ht rfl)) rfl ?_
    obtain ⟨r, q_r, h⟩ := bs h
    refine RG.op (ok_callV (args := (fun (x : DAgg) => [tD rpDAgg x])) (res := (fun (x : Bool) => tD rB x)) (f := (fun (x : DAgg) => f x)) (x := ((e) : DAgg)) (ht rfl) q_r ⟨(ht rfl), trivial⟩) rfl ?_
    refine RG.nil ?_
    refine AT.next ?_
    refine CG.cond (ht rfl) (fun hc => ?_) (fun hc => ?_)
    · have h := ct h hc
      refine CG.seq ?_
      refine CG.region ?_
      refine RG.op (ok_move (ht rfl)) rfl ?_
      refine RG.op (ok_assign (ht rfl)) rfl ?_
      refine RG.nil ?_
      refine AT.next ?_
      refine CG.ret ?_
      refine AT.in_ret (AT.then_ret (AT.then_ret (AT.in_ret (AT.then_ret ?_))))
      cases so h
      exact AT.ret1 rfl rfl
    · have h := cf h hc
      refine CG.skip ?_
      refine AT.in_normal ?_
      refine AT.next ?_
      refine CG.region ?_
      refine RG.op (ok_incN (dropL hx hN) (ht rfl) hI) rfl ?_
      refine RG.op (ok_move (ht rfl)) rfl ?_
      refine RG.nil ?_
      exact AT.round (LG.sub (ih (i + 1)  ⟨dropS hx, h⟩) ⟨rfl, rfl, rfl, rfl, trivial⟩)

set_option maxRecDepth 100000 in
theorem f38_ok (s : (List DAgg)) (f : (DAgg → Option Bool)) {R : Bool} (h : slices_ContainsFunc_api_Agg_api_Agg s f = some R) : Spec Tryz.prog 38 [tD (rSl rpDAgg) s, (tFun Tryz.prog (fun (x : DAgg) => [tD rpDAgg x]) (fun (x : Bool) => tD rB x) (fun (x : DAgg) => f x))] (tD rB R) := by
  refine Spec.of Tryz.func38 rfl rfl rfl fun w0 S0 => ?_
  refine CG.seq ?_
  refine CG.region ?_
  refine RG.op (ok_assign hB) rfl ?_
  refine RG.nil ?_
  refine AT.next ?_
  refine CG.seq ?_
  refine CG.region ?_
  refine RG.op (ok_move (ht rfl)) rfl ?_
  refine RG.op (ok_move (ht rfl)) rfl ?_
  obtain ⟨r, q_r, h⟩ := bs h
  refine RG.op (ok_call cb59 (f59_ok _ _ q_r) ⟨(ht rfl), (ht rfl), trivial⟩) rfl ?_
  refine RG.op (ok_geq (ht rfl) hI) rfl ?_
  refine RG.op (ok_assign (ht rfl)) rfl ?_
  refine RG.nil ?_
  refine AT.next ?_
  refine CG.ret ?_
  cases so h
  exact AT.ret1 rfl rfl

set_option maxRecDepth 100000 in
theorem f16_ok (l : DLogic) {R : Bool} (h : logic_Safe l = some R) : Spec Tryz.prog 16 [tD rpDLogic l] (tD rB R) := by
  refine Spec.of Tryz.func16 rfl rfl rfl fun w0 S0 => ?_
  refine CG.seq ?_
  refine CG.region ?_
  refine RG.op (ok_box (ht rfl)) rfl ?_
  refine RG.op (ok_assign hB) rfl ?_
  refine RG.nil ?_
  refine AT.next ?_
  refine CG.seq ?_
  refine CG.seq ?_
  refine CG.region ?_
  refine RG.op (ok_load ti33 rfl rfl (ht rfl)) rfl ?_
  obtain ⟨r, q_r, h⟩ := bs h
  refine RG.op (ok_call cb23 (f23_ok _ q_r) ⟨(ht rfl), trivial⟩) rfl ?_
  refine RG.op (ok_move (ht rfl)) rfl ?_
  refine RG.op (ok_extract rfl (ht rfl)) rfl ?_
  refine RG.op (ok_extract rfl (ht rfl)) rfl ?_
  refine RG.op (ok_assign (ht rfl)) rfl ?_
  refine RG.op (ok_assign (ht rfl)) rfl ?_
  refine RG.nil ?_
  refine AT.next ?_
  refine CG.seq ?_
  refine CG.region ?_
  refine RG.op (ok_move (ht rfl)) rfl ?_
  refine RG.op (ok_neqI (ht rfl) hI) rfl ?_
  refine RG.nil ?_
  refine AT.next ?_
  refine CG.cond (ht rfl) (fun hc => ?_) (fun hc => ?_)
  · have h := ct h hc
    refine CG.seq ?_
    refine CG.region ?_
    refine RG.op (ok_assign hB) rfl ?_
    refine RG.nil ?_
    refine AT.next ?_
    refine CG.ret ?_
    refine AT.then_ret ?_
    cases so h
    exact AT.ret1 rfl rfl
  · have h := cf h hc
    refine CG.skip ?_
    refine AT.next ?_
    refine CG.seq ?_
    refine CG.region ?_
    refine RG.alloc (r := rV) (x := .nilFunc) ti59 (fun _ => ⟨rfl, rfl⟩) rfl (fun b => ?_)
    refine RG.eff0 (eff_storeX (r' := rT ((tFun Tryz.prog (fun (x : DExpr) => [tD rpDExpr x]) (fun (x : Bool) => tD rB x) (fun (x : DExpr) => logic_Safe_1 x)))) (x' := ()) (q := rT ((tFun Tryz.prog (fun (x : DExpr) => [tD rpDExpr x]) (fun (x : Bool) => tD rB x) (fun (x : DExpr) => logic_Safe_1 x)))) (y := ()) ti59 rfl (sfx_whole rfl) rfl (ht rfl) (hTT one_fun (show HasTy _ _ _ ((tFun Tryz.prog (fun (x : DExpr) => [tD rpDExpr x]) (fun (x : Bool) => tD rB x) (fun (x : DExpr) => logic_Safe_1 x))) from (hFn cb34 fun x y h => f34_ok _ h)))) (fun _ => ?_)
    refine (show RG _ _ _ _ (bx (rT ((tFun Tryz.prog (fun (x : DExpr) => [tD rpDExpr x]) (fun (x : Bool) => tD rB x) (fun (x : DExpr) => logic_Safe_1 x)))) 59 b () :: _) _ from ?_)
    refine RG.settleB 5 rfl ?_
    refine RG.nil ?_
    refine AT.next ?_
    refine CG.seq ?_
    refine CG.seq ?_
    refine CG.region ?_
    refine RG.op (ok_fieldAddr fd33_0 rfl flDLogic_0 rfl (ht rfl)) rfl ?_
    refine RG.op (ok_load ti31 rfl rfl (ht rfl)) rfl ?_
    refine RG.op (ok_lenSl Tryz.underlying31 (ht rfl)) rfl ?_
    refine RG.op (ok_move hI) rfl ?_
    refine RG.nil ?_
    refine AT.next ?_
    refine CG.block ?_
    refine CG.have_len (k := 17) rfl (fun hN => ?_)
    refine CG.loop ?_
    refine LG.sub (LG.list1 (Z := fun ls i  => (l.Nodes.drop i = ls) ∧ logic_Safe_l1 ls  = some R) (Of := fun _ i  => []) (Gf := fun _ i  => [(5, tPtr (rT (tFun Tryz.prog (fun (x : DExpr) => [tD rpDExpr x]) (fun (x : Bool) => tD rB x) (fun (x : DExpr) => logic_Safe_1 x))) ()), (17, tD (rSl rpDLNode) l.Nodes), (18, tD (rI .i64) (l.Nodes.length : Int)), (19, tD (rI .i64) (i : Int))]) (fun i  h => ?_) (fun e tl ih i  h => ?_) l.Nodes 0  ⟨rfl, h⟩) ⟨rfl, rfl, rfl, rfl, trivial⟩
    · obtain ⟨hx, h⟩ := h
      refine LG.unfold ?_
      refine CG.seq ?_
      refine CG.region ?_
      refine RG.op (ok_lss (ht rfl) (ht rfl)) rfl ?_
      refine RG.nil ?_
      refine AT.next ?_
      refine CG.seq ?_
      refine CG.condF (ht rfl) (dropF hx) ?_
      refine CG.exit ?_
      refine AT.then_exit (AT.then_exit (AT.in_exit ?_))
      refine AT.next ?_
      refine CG.seq ?_
      refine CG.region ?_
      refine RG.op (ok_assign hB) rfl ?_
      refine RG.nil ?_
      refine AT.next ?_
      refine CG.ret ?_
      cases so h
      exact AT.ret1 rfl rfl
    · obtain ⟨hx, h⟩ := h
      refine LG.unfold ?_
      refine CG.seq ?_
      refine CG.region ?_
      refine RG.op (ok_lss (ht rfl) (ht rfl)) rfl ?_
      refine RG.nil ?_
      refine AT.next ?_
      refine CG.seq ?_
      refine CG.condT (ht rfl) (dropT hx) ?_
      refine CG.skip ?_
      refine AT.next ?_
      refine CG.seq ?_
      refine CG.block ?_
      refine CG.seq ?_
      refine CG.region ?_
      refine RG.op (ok_indexAddr Tryz.underlying31 ti30 rfl (ht rfl) (ht rfl) (dropI hx)) rfl ?_
      refine RG.op (ok_load ti30 rfl rfl (ht rfl)) rfl ?_
      refine RG.alloc (r := rpDLNode) (x := (⟨(0 : Int), (0 : Int), (0 : Int), (0 : Int), [], false, (⟨[]⟩ : DExpr), [], [], [], [], (0 : Int)⟩ : DLNode)) ti30 (fun _ => zrDLNode _) rfl (fun b1 => ?_)
      refine RG.storeB ti30 rfl sfld_whole rfl (ht rfl) (ht rfl) ?_
      refine RG.settleB 7 rfl ?_
      refine RG.nil ?_
      refine AT.next ?_
      refine CG.seq ?_
      refine CG.region ?_
      refine RG.op ((show OpOK _ _ _ _ ((tFun Tryz.prog (fun (x : DAgg) => [tD rpDAgg x]) (fun (x : Bool) => tD rB x) (fun (x : DAgg) => (logic_Safe_2 logic_Safe_1) x))) from ok_makeFunc (cts := [tPtr (rT (tFun Tryz.prog (fun (x : DExpr) => [tD rpDExpr x]) (fun (x : Bool) => tD rB x) (fun (x : DExpr) => logic_Safe_1 x))) ()]) (caps := [.tmp 5]) cb36 ⟨(ht rfl), trivial⟩ (fun x y h => f36_ok _ _ h))) rfl ?_
      refine RG.op (ok_assign (ht rfl)) rfl ?_
      refine RG.nil ?_
      refine AT.next ?_
      refine CG.seq ?_
      refine CG.region ?_
      refine RG.op (ok_loadF ti59 (ht rfl)) rfl ?_
      refine RG.op (ok_fieldAddr fd30_6 rfl flDLNode_6 rfl (ht rfl)) rfl ?_
      refine RG.op (ok_load ti25 rfl rfl (ht rfl)) rfl ?_
      obtain ⟨r1, q_r1, h⟩ := bs h
      refine RG.op (ok_callV (args := (fun (x : DExpr) => [tD rpDExpr x])) (res := (fun (x : Bool) => tD rB x)) (f := (fun (x : DExpr) => logic_Safe_1 x)) (x := ((e.Cond) : DExpr)) (ht rfl) q_r1 ⟨(ht rfl), trivial⟩) rfl ?_
      refine RG.op (ok_move (ht rfl)) rfl ?_
      obtain ⟨t, q_t, h⟩ := bs h
      refine RG.opGf rfl rfl rfl rfl (fun hg => ok_fieldAddr fd30_9 rfl flDLNode_9 rfl (ht rfl)) ?_
      refine RG.opGf rfl rfl rfl rfl (fun hg => ok_load ti27 rfl rfl (htO rfl hg)) ?_
      refine RG.opGf rfl rfl rfl rfl (fun hg => ok_loadF ti59 (ht rfl)) ?_
      obtain ⟨r2, h1t, h0t⟩ := og q_t
      have q_r2g := fun hb => (h1t hb).1
      refine RG.opGf rfl rfl rfl rfl (fun hg => ok_call cb37 (f37_ok _ _ (q_r2g hg)) ⟨(htO rfl hg), (htO rfl hg), trivial⟩) ?_
      refine RG.op (ok_pickOrM (ht rfl) (fun hb => (htO rfl (noti hb))) (fun hb => (h1t hb).2) h0t) rfl ?_
      refine RG.op (ok_move (ht rfl)) rfl ?_
      obtain ⟨t1, q_t1, h⟩ := bs h
      refine RG.opGf rfl rfl rfl rfl (fun hg => ok_fieldAddr fd30_8 rfl flDLNode_8 rfl (ht rfl)) ?_
      refine RG.opGf rfl rfl rfl rfl (fun hg => ok_load ti26 rfl rfl (htO rfl hg)) ?_
      refine RG.opGf rfl rfl rfl rfl (fun hg => ok_move (ht rfl)) ?_
      obtain ⟨r3, h1t1, h0t1⟩ := og q_t1
      have q_r3g := fun hb => (h1t1 hb).1
      refine RG.opGf rfl rfl rfl rfl (fun hg => ok_call cb38 (f38_ok _ _ (q_r3g hg)) ⟨(htO rfl hg), (htO rfl hg), trivial⟩) ?_
      refine RG.op (ok_pickOrM (ht rfl) (fun hb => (htO rfl (noti hb))) (fun hb => (h1t1 hb).2) h0t1) rfl ?_
      refine RG.nil ?_
      refine AT.next ?_
      refine CG.cond (ht rfl) (fun hc => ?_) (fun hc => ?_)
      · have h := ct h hc
        refine CG.seq ?_
        refine CG.region ?_
        refine RG.op (ok_assign hB) rfl ?_
        refine RG.nil ?_
        refine AT.next ?_
        refine CG.ret ?_
        refine AT.in_ret (AT.then_ret (AT.then_ret (AT.in_ret (AT.then_ret ?_))))
        cases so h
        exact AT.ret1 rfl rfl
      · have h := cf h hc
        refine CG.skip ?_
        refine AT.in_normal ?_
        refine AT.next ?_
        refine CG.region ?_
        refine RG.op (ok_incN (dropL hx hN) (ht rfl) hI) rfl ?_
        refine RG.op (ok_move (ht rfl)) rfl ?_
        refine RG.nil ?_
        exact AT.round (LG.sub (ih (i + 1)  ⟨dropS hx, h⟩) ⟨rfl, rfl, rfl, rfl, trivial⟩)

end Go.Proofs.YtbhkincjkpeaoaaGreat

