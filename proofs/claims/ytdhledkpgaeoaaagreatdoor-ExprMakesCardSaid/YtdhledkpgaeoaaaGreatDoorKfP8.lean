/- Facts of this claim: P8. -/
import Derived.Test.YtdhledkpgaeoaaaGreatDoorKfT
import Derived.Test.YtdhledkpgaeoaaaGreatDoorKfP7
import Derived.Test.YtdhledkpgaeoaaaGreatDoorKfMS
namespace Go.Proofs.YtdhledkpgaeoaaaGreatDoor
open Go

set_option maxRecDepth 100000 in
theorem f16_ok (n : DENode) {R : DExpr × Int} (h : expr_Leaf n = some R) : Spec Tryz.prog 16 [tD rpDENode n] (tT [tD rpDExpr R.1, tD (rI .i64) R.2]) := by
  refine Spec.of Tryz.func16 rfl rfl rfl fun w0 S0 => ?_
  refine CG.seq ?_
  refine CG.region ?_
  refine RG.op (ok_box (ht rfl)) rfl ?_
  refine RG.alloc (r := rpDExpr) (x := (⟨[]⟩ : DExpr)) ti24 (fun _ => zrDExpr _) rfl (fun b => ?_)
  refine RG.op (ok_assign hI) rfl ?_
  refine RG.nil ?_
  refine AT.next ?_
  refine CG.seq ?_
  refine CG.region ?_
  refine RG.op (ok_load ti42 rfl rfl (ht rfl)) rfl ?_
  obtain ⟨r, q_r, h⟩ := bs h
  refine RG.op (ok_call cb50 (f50_ok _ _ q_r) ⟨(ht rfl), hNil, trivial⟩) rfl ?_
  refine RG.op (ok_extract rfl (ht rfl)) rfl ?_
  refine RG.op (ok_extract rfl (ht rfl)) rfl ?_
  refine RG.storeB ti24 rfl sfld_whole rfl (ht rfl) (ht rfl) ?_
  refine RG.settleB 2 rfl ?_
  refine RG.op (ok_assign (ht rfl)) rfl ?_
  refine RG.nil ?_
  refine AT.next ?_
  refine CG.ret ?_
  cases so h
  exact AT.retL (rvs := [.cell 2 24, .tmp 3]) rfl rfl ⟨res_cell ti24 rfl rfl rfl, res_tmp rfl, trivial⟩

set_option maxRecDepth 100000 in
theorem f17_ok (root : DENode) (l : (List DExpr)) {R : DExpr} (h : ref10_Made root l = some R) : Spec Tryz.prog 17 [tD rpDENode root, tD (rSl rpDExpr) l] (tD rpDExpr R) := by
  refine Spec.of Tryz.func17 rfl rfl rfl fun w0 S0 => ?_
  refine CG.seq ?_
  refine CG.region ?_
  refine RG.boxO (ht rfl) rfl (fun b => ?_)
  refine RG.alloc (r := rpDExpr) (x := (⟨[]⟩ : DExpr)) ti24 (fun _ => zrDExpr _) rfl (fun b1 => ?_)
  refine RG.nil ?_
  refine AT.next ?_
  refine CG.seq ?_
  refine CG.region ?_
  refine RG.fresh true rpDENode 42 ?_
  refine RG.alloc (r := rpOExpr_0) (x := mkOExpr_0 (⟨[]⟩ : DExpr) (oslV none 0 (([] : List DENode).length))) ti24 zrOExpr_0 rfl (fun b2 => ?_)
  refine RG.nil ?_
  refine AT.next ?_
  refine CG.seq ?_
  refine CG.region ?_
  refine RG.op (ok_fieldAddrC (n := 1) fd42_1 rfl (ht rfl) rfl) rfl ?_
  refine RG.front3 ?_
  refine RG.storeB ti3 rfl sfDENode_1 rfl (ht rfl) hI ?_
  refine RG.op (ok_fieldAddrC (n := 2) fd42_2 rfl (ht rfl) rfl) rfl ?_
  refine RG.storeB ti3 rfl sfDENode_2 rfl (ht rfl) hI ?_
  refine RG.nil ?_
  refine AT.next ?_
  refine CG.seq ?_
  refine CG.seq ?_
  refine CG.region ?_
  refine RG.op (ok_move (ht rfl)) rfl ?_
  refine RG.op (ok_lenSl Tryz.underlying51 (ht rfl)) rfl ?_
  refine RG.op (ok_move hI) rfl ?_
  refine RG.nil ?_
  refine AT.next ?_
  refine CG.block ?_
  refine CG.have_len (k := 13) rfl (fun hN => ?_)
  refine CG.loop ?_
  refine LG.front2 ?_
  refine LG.front2 ?_
  refine LG.front3 ?_
  refine LG.front3 ?_
  refine LG.sub (LG.list5 (Z := fun ls i root1 out l1 c => (l.drop i = ls) ∧ ref10_Made_l1 ls i root1 out = some R) (Of := fun _ i root1 out l1 c => [bx rpDENode 42 b root1, bx rpDExpr 24 b1 (⟨[]⟩ : DExpr), bx rpOExpr_0 24 b2 (mkOExpr_0 out (oslV l1 c out.Nodes.length)), tip rpDENode 42 l1 c out.Nodes]) (Gf := fun _ i root1 out l1 c => [(2, tV (bptr b 0)), (4, tV (bptr b1 0)), (5, tV (bptr b2 0)), (13, tD (rSl rpDExpr) l), (14, tD (rI .i64) (l.length : Int)), (15, tD (rI .i64) (i : Int))]) (fun i root1 out l1 c h => ?_) (fun e tl ih i root1 out l1 c h => ?_) l 0 (DENode.mk root.Tag (-1 : Int) (-1 : Int) root.Col root.Value) ({ (⟨[]⟩ : DExpr) with Nodes := ([] : List DENode) } : DExpr) none 0 ⟨rfl, h⟩) ⟨rfl, rfl, rfl, rfl, rfl, rfl, trivial⟩
  · obtain ⟨hx, h⟩ := h
    refine LG.unfold ?_
    refine CG.seq ?_
    refine CG.region ?_
    refine RG.op (ok_lss (ht rfl) (ht rfl)) rfl ?_
    refine RG.nil ?_
    refine AT.next ?_
    refine CG.seq ?_
    refine CG.condF (ht rfl) (dropF hx) ?_
    refine CG.exit ?_
    refine AT.then_exit (AT.then_exit (AT.in_exit ?_))
    refine AT.next ?_
    refine CG.seq ?_
    refine CG.region ?_
    refine RG.op (ok_fieldAddrC (n := 0) fd24_0 rfl (ht rfl) rfl) rfl ?_
    refine RG.op (ok_loadFT ti22 flOExpr_0_0 (.tail _ (.tail _ (.head _))) (.tail _ (.tail _ (.tail _ (.head _)))) rfl (ht rfl)) rfl ?_
    refine RG.op (ok_loadB ti42 rfl rfl fld_whole (.head _) (ht rfl)) rfl ?_
    refine RG.op (ok_buildSlice (r := rpDENode) (ys := [root1]) (xs := [.tmp 68]) Tryz.underlying22 ti42 rfl rfl rfl rfl rfl ⟨(ht rfl), trivial⟩) rfl ?_
    refine RG.front3 ?_
    obtain ⟨l2, q_l2, h⟩ := bs h
    refine RG.appendT ti42 rfl rfl rfl rfl Tryz.underlying22 rfl rfl (ht rfl) (ht rfl) q_l2 (fun l3 c1 => ?_)
    refine RG.op (ok_fieldAddrC (n := 0) fd24_0 rfl (ht rfl) rfl) rfl ?_
    refine RG.front3 ?_
    refine RG.storeFX ti22 rfl (sxOExpr_0_to_0_at_0 _ _ _) rfl (ht rfl) (hRV (tO_v (ht rfl))) ?_
    refine RG.nil ?_
    refine AT.next ?_
    refine CG.seq ?_
    refine CG.region ?_
    refine RG.front1 ?_
    refine RG.op (ok_loadObj (q := rpDExpr) (y := ({ out with Nodes := l2 } : DExpr)) ti24 rfl rfl rfl rfl (.tail _ (.head _)) (fun _ _ _ ho h => cvOExpr_0_to_D (own_tip ho (.head _)) h) (ht rfl)) rfl ?_
    refine RG.front3 ?_
    refine RG.storeB ti24 rfl sfld_whole rfl (ht rfl) (ht rfl) ?_
    refine RG.settleB 4 rfl ?_
    refine RG.nil ?_
    refine AT.next ?_
    refine CG.ret ?_
    refine AT.drop ?_
    refine AT.drop ?_
    refine AT.drop ?_
    cases so h
    exact AT.ret1c rfl ti24 rfl rfl rfl
  · obtain ⟨hx, h⟩ := h
    refine LG.unfold ?_
    refine CG.seq ?_
    refine CG.region ?_
    refine RG.op (ok_lss (ht rfl) (ht rfl)) rfl ?_
    refine RG.nil ?_
    refine AT.next ?_
    refine CG.seq ?_
    refine CG.condT (ht rfl) (dropT hx) ?_
    refine CG.skip ?_
    refine AT.next ?_
    refine CG.seq ?_
    refine CG.block ?_
    refine CG.seq ?_
    refine CG.region ?_
    refine RG.op (ok_move (ht rfl)) rfl ?_
    refine RG.op (ok_indexAddr Tryz.underlying51 ti24 rfl (ht rfl) (ht rfl) (dropI hx)) rfl ?_
    refine RG.op (ok_load ti24 rfl rfl (ht rfl)) rfl ?_
    refine RG.alloc (r := rpDExpr) (x := (⟨[]⟩ : DExpr)) ti24 (fun _ => zrDExpr _) rfl (fun b3 => ?_)
    refine RG.op (ok_assign (ht rfl)) rfl ?_
    refine RG.storeB ti24 rfl sfld_whole rfl (ht rfl) (ht rfl) ?_
    refine RG.settleB 7 rfl ?_
    refine RG.nil ?_
    refine AT.next ?_
    refine CG.seq ?_
    refine CG.region ?_
    refine RG.op (ok_fieldAddrC (n := 0) fd24_0 rfl (ht rfl) rfl) rfl ?_
    refine RG.op (ok_loadFT ti22 flOExpr_0_0 (.tail _ (.tail _ (.head _))) (.tail _ (.tail _ (.tail _ (.head _)))) rfl (ht rfl)) rfl ?_
    refine RG.op (ok_lenSl Tryz.underlying22 (tO_d (ht rfl))) rfl ?_
    refine RG.op (ok_assign (ht rfl)) rfl ?_
    refine RG.nil ?_
    refine AT.next ?_
    refine CG.seq ?_
    refine CG.seq ?_
    refine CG.region ?_
    refine RG.op (ok_fieldAddr fd24_0 rfl flDExpr_0 rfl (ht rfl)) rfl ?_
    refine RG.op (ok_load ti22 rfl rfl (ht rfl)) rfl ?_
    refine RG.op (ok_lenSl Tryz.underlying22 (ht rfl)) rfl ?_
    refine RG.op (ok_move hI) rfl ?_
    refine RG.nil ?_
    refine AT.next ?_
    refine CG.block ?_
    refine CG.have_len (k := 24) rfl (fun hN1 => ?_)
    refine CG.loop ?_
    refine LG.sub (LG.list4 (Z := fun ls1 i1 out1 l4 c2 => (e.Nodes.drop i1 = ls1) ∧ ref10_Made_l2 (ref10_Made_l1 tl) i root1 out ls1 out1 = some R) (Of := fun _ i1 out1 l4 c2 => [bx rpDENode 42 b root1, bx rpDExpr 24 b1 (⟨[]⟩ : DExpr), bx rpOExpr_0 24 b2 (mkOExpr_0 out1 (oslV l4 c2 out1.Nodes.length)), tip rpDENode 42 l4 c2 out1.Nodes]) (Gf := fun _ i1 out1 l4 c2 => [(2, tV (bptr b 0)), (4, tV (bptr b1 0)), (5, tV (bptr b2 0)), (6, tD (rI .i64) (i : Int)), (8, tD (rI .i64) (out.Nodes.length : Int)), (13, tD (rSl rpDExpr) l), (14, tD (rI .i64) (l.length : Int)), (15, tD (rI .i64) (i : Int)), (24, tD (rSl rpDENode) e.Nodes), (25, tD (rI .i64) (e.Nodes.length : Int)), (26, tD (rI .i64) (i1 : Int))]) (fun i1 out1 l4 c2 h => ?_) (fun e1 tl1 ih1 i1 out1 l4 c2 h => ?_) e.Nodes 0 out l1 c ⟨rfl, h⟩) ⟨rfl, rfl, rfl, rfl, rfl, rfl, rfl, rfl, rfl, rfl, rfl, trivial⟩
    · obtain ⟨hx1, h⟩ := h
      refine LG.unfold ?_
      refine CG.seq ?_
      refine CG.region ?_
      refine RG.op (ok_lss (ht rfl) (ht rfl)) rfl ?_
      refine RG.nil ?_
      refine AT.next ?_
      refine CG.seq ?_
      refine CG.condF (ht rfl) (dropF hx1) ?_
      refine CG.exit ?_
      refine AT.then_exit (AT.then_exit (AT.in_exit ?_))
      refine AT.next ?_
      refine CG.seq ?_
      refine CG.region ?_
      refine RG.op (ok_move (ht rfl)) rfl ?_
      refine RG.op (ok_eqlI (ht rfl) hI) rfl ?_
      refine RG.nil ?_
      refine AT.next ?_
      refine CG.cond (ht rfl) (fun hc => ?_) (fun hc => ?_)
      · have h := ct h hc
        refine CG.region ?_
        refine RG.op (ok_fieldAddrC (n := 0) fd24_0 rfl (ht rfl) rfl) rfl ?_
        refine RG.op (ok_loadFT ti22 flOExpr_0_0 (.tail _ (.tail _ (.head _))) (.tail _ (.tail _ (.tail _ (.head _)))) rfl (ht rfl)) rfl ?_
        refine RG.op (ok_lenSl Tryz.underlying22 (tO_d (ht rfl))) rfl ?_
        refine RG.op (ok_sub (ht rfl) hI) rfl ?_
        refine RG.op (ok_fieldAddrC (n := 1) fd42_1 rfl (ht rfl) rfl) rfl ?_
        refine RG.storeB ti3 rfl sfDENode_1 rfl (ht rfl) (ht rfl) ?_
        refine RG.nil ?_
        refine AT.in_normal ?_
        refine AT.next ?_
        refine CG.region ?_
        refine RG.op (ok_incN (dropL hx hN) (ht rfl) hI) rfl ?_
        refine RG.op (ok_move (ht rfl)) rfl ?_
        refine RG.nil ?_
        exact AT.round (LG.sub (ih (i + 1) (DENode.mk root1.Tag (IntKind.i64.wrap ((out1.Nodes.length : Int) - (1 : Int))) root1.R root1.Col root1.Value) out1 l4 c2 ⟨dropS hx, h⟩) ⟨rfl, rfl, rfl, rfl, rfl, rfl, trivial⟩)
      · have h := cf h hc
        refine CG.region ?_
        refine RG.op (ok_fieldAddrC (n := 0) fd24_0 rfl (ht rfl) rfl) rfl ?_
        refine RG.op (ok_loadFT ti22 flOExpr_0_0 (.tail _ (.tail _ (.head _))) (.tail _ (.tail _ (.tail _ (.head _)))) rfl (ht rfl)) rfl ?_
        refine RG.op (ok_lenSl Tryz.underlying22 (tO_d (ht rfl))) rfl ?_
        refine RG.op (ok_sub (ht rfl) hI) rfl ?_
        refine RG.op (ok_fieldAddrC (n := 2) fd42_2 rfl (ht rfl) rfl) rfl ?_
        refine RG.storeB ti3 rfl sfDENode_2 rfl (ht rfl) (ht rfl) ?_
        refine RG.nil ?_
        refine AT.in_normal ?_
        refine AT.next ?_
        refine CG.region ?_
        refine RG.op (ok_incN (dropL hx hN) (ht rfl) hI) rfl ?_
        refine RG.op (ok_move (ht rfl)) rfl ?_
        refine RG.nil ?_
        exact AT.round (LG.sub (ih (i + 1) (DENode.mk root1.Tag root1.L (IntKind.i64.wrap ((out1.Nodes.length : Int) - (1 : Int))) root1.Col root1.Value) out1 l4 c2 ⟨dropS hx, h⟩) ⟨rfl, rfl, rfl, rfl, rfl, rfl, trivial⟩)
    · obtain ⟨hx1, h⟩ := h
      refine LG.unfold ?_
      refine CG.seq ?_
      refine CG.region ?_
      refine RG.op (ok_lss (ht rfl) (ht rfl)) rfl ?_
      refine RG.nil ?_
      refine AT.next ?_
      refine CG.seq ?_
      refine CG.condT (ht rfl) (dropT hx1) ?_
      refine CG.skip ?_
      refine AT.next ?_
      refine CG.seq ?_
      refine CG.block ?_
      refine CG.seq ?_
      refine CG.region ?_
      refine RG.op (ok_indexAddr Tryz.underlying22 ti42 rfl (ht rfl) (ht rfl) (dropI hx1)) rfl ?_
      refine RG.op (ok_load ti42 rfl rfl (ht rfl)) rfl ?_
      refine RG.alloc (r := rpDENode) (x := (⟨(0 : Int), (0 : Int), (0 : Int), (0 : Int), (⟨(0 : Int), (0 : Int), (0 : Int), []⟩ : DValue)⟩ : DENode)) ti42 (fun _ => zrDENode _) rfl (fun b4 => ?_)
      refine RG.storeB ti42 rfl sfld_whole rfl (ht rfl) (ht rfl) ?_
      refine RG.nil ?_
      refine AT.next ?_
      refine CG.sjoin1 (Z := fun n => ref10_Made_k1 out (ref10_Made_l2 (ref10_Made_l1 tl) i root1 out tl1) out1 n = some R) (Of := fun n => [bx rpDENode 42 b root1, bx rpDExpr 24 b1 (⟨[]⟩ : DExpr), bx rpDENode 42 b4 n, bx rpOExpr_0 24 b2 (mkOExpr_0 out1 (oslV l4 c2 out1.Nodes.length)), tip rpDENode 42 l4 c2 out1.Nodes]) (Gf := fun n => [(2, tV (bptr b 0)), (4, tV (bptr b1 0)), (5, tV (bptr b2 0)), (6, tD (rI .i64) (i : Int)), (8, tD (rI .i64) (out.Nodes.length : Int)), (10, tV (bptr b4 0)), (13, tD (rSl rpDExpr) l), (14, tD (rI .i64) (l.length : Int)), (15, tD (rI .i64) (i : Int)), (24, tD (rSl rpDENode) e.Nodes), (25, tD (rI .i64) (e.Nodes.length : Int)), (26, tD (rI .i64) (i1 : Int))]) (fun n h => ?_) (fun K => ?_)
      · skip
        refine CG.sjoin1 (Z := fun n1 => ref10_Made_k2 (ref10_Made_l2 (ref10_Made_l1 tl) i root1 out tl1) out1 n1 = some R) (Of := fun n1 => [bx rpDENode 42 b root1, bx rpDExpr 24 b1 (⟨[]⟩ : DExpr), bx rpDENode 42 b4 n1, bx rpOExpr_0 24 b2 (mkOExpr_0 out1 (oslV l4 c2 out1.Nodes.length)), tip rpDENode 42 l4 c2 out1.Nodes]) (Gf := fun n1 => [(2, tV (bptr b 0)), (4, tV (bptr b1 0)), (5, tV (bptr b2 0)), (6, tD (rI .i64) (i : Int)), (8, tD (rI .i64) (out.Nodes.length : Int)), (10, tV (bptr b4 0)), (13, tD (rSl rpDExpr) l), (14, tD (rI .i64) (l.length : Int)), (15, tD (rI .i64) (i : Int)), (24, tD (rSl rpDENode) e.Nodes), (25, tD (rI .i64) (e.Nodes.length : Int)), (26, tD (rI .i64) (i1 : Int))]) (fun n1 h => ?_) (fun K1 => ?_)
        · skip
          refine CG.region ?_
          refine RG.op (ok_fieldAddrC (n := 0) fd24_0 rfl (ht rfl) rfl) rfl ?_
          refine RG.op (ok_loadFT ti22 flOExpr_0_0 (.tail _ (.tail _ (.tail _ (.head _)))) (.tail _ (.tail _ (.tail _ (.tail _ (.head _))))) rfl (ht rfl)) rfl ?_
          refine RG.op (ok_loadB ti42 rfl rfl fld_whole (.tail _ (.tail _ (.head _))) (ht rfl)) rfl ?_
          refine RG.op (ok_buildSlice (r := rpDENode) (ys := [n1]) (xs := [.tmp 48]) Tryz.underlying22 ti42 rfl rfl rfl rfl rfl ⟨(ht rfl), trivial⟩) rfl ?_
          refine RG.front4 ?_
          obtain ⟨l5, q_l5, h⟩ := bs h
          refine RG.appendT ti42 rfl rfl rfl rfl Tryz.underlying22 rfl rfl (ht rfl) (ht rfl) q_l5 (fun l6 c3 => ?_)
          refine RG.op (ok_fieldAddrC (n := 0) fd24_0 rfl (ht rfl) rfl) rfl ?_
          refine RG.front4 ?_
          refine RG.storeFX ti22 rfl (sxOExpr_0_to_0_at_0 _ _ _) rfl (ht rfl) (hRV (tO_v (ht rfl))) ?_
          refine RG.nil ?_
          refine AT.in_normal ?_
          refine AT.next ?_
          refine CG.region ?_
          refine RG.op (ok_incN (dropL hx1 hN1) (ht rfl) hI) rfl ?_
          refine RG.op (ok_move (ht rfl)) rfl ?_
          refine RG.nil ?_
          refine AT.front4 ?_
          refine AT.drop ?_
          refine AT.front1 ?_
          refine AT.front1 ?_
          refine AT.front3 ?_
          refine AT.front3 ?_
          exact AT.round (LG.sub (ih1 (i1 + 1) ({ out1 with Nodes := l5 } : DExpr) l6 c3 ⟨dropS hx1, h⟩) ⟨rfl, rfl, rfl, rfl, rfl, rfl, rfl, rfl, rfl, rfl, rfl, trivial⟩)
        · skip
          refine CG.seq ?_
          refine CG.region ?_
          refine RG.op (ok_fieldAddrC (n := 2) fd42_2 rfl (ht rfl) rfl) rfl ?_
          refine RG.op (ok_loadB ti3 rfl rfl flDENode_2 (.tail _ (.tail _ (.head _))) (ht rfl)) rfl ?_
          refine RG.op (ok_geq (ht rfl) hI) rfl ?_
          refine RG.nil ?_
          refine AT.next ?_
          refine CG.cond (ht rfl) (fun hc => ?_) (fun hc => ?_)
          · have h := ct h hc
            refine CG.region ?_
            refine RG.op (ok_fieldAddrC (n := 2) fd42_2 rfl (ht rfl) rfl) rfl ?_
            refine RG.op (ok_loadB ti3 rfl rfl flDENode_2 (.tail _ (.tail _ (.head _))) (ht rfl)) rfl ?_
            refine RG.op (ok_move (ht rfl)) rfl ?_
            refine RG.op (ok_add (ht rfl) (ht rfl)) rfl ?_
            refine RG.op (ok_fieldAddrC (n := 2) fd42_2 rfl (ht rfl) rfl) rfl ?_
            refine RG.front2 ?_
            refine RG.storeB ti3 rfl sfDENode_2 rfl (ht rfl) (ht rfl) ?_
            refine RG.nil ?_
            refine AT.front4 ?_
            refine AT.front4 ?_
            refine AT.front2 ?_
            refine AT.front4 ?_
            refine AT.front4 ?_
            exact AT.sub (K1 (DENode.mk n.Tag n.L (IntKind.i64.wrap (n.R + (out.Nodes.length : Int))) n.Col n.Value) h) ⟨rfl, rfl, rfl, rfl, rfl, rfl, rfl, rfl, rfl, rfl, rfl, rfl, trivial⟩
          · have h := cf h hc
            refine CG.skip ?_
            exact AT.sub (K1 n h) ⟨rfl, rfl, rfl, rfl, rfl, rfl, rfl, rfl, rfl, rfl, rfl, rfl, trivial⟩
      · skip
        refine CG.seq ?_
        refine CG.region ?_
        refine RG.op (ok_fieldAddrC (n := 1) fd42_1 rfl (ht rfl) rfl) rfl ?_
        refine RG.op (ok_loadB ti3 rfl rfl flDENode_1 (.head _) (ht rfl)) rfl ?_
        refine RG.op (ok_geq (ht rfl) hI) rfl ?_
        refine RG.nil ?_
        refine AT.next ?_
        refine CG.cond (ht rfl) (fun hc => ?_) (fun hc => ?_)
        · have h := ct h hc
          refine CG.region ?_
          refine RG.op (ok_fieldAddrC (n := 1) fd42_1 rfl (ht rfl) rfl) rfl ?_
          refine RG.op (ok_loadB ti3 rfl rfl flDENode_1 (.head _) (ht rfl)) rfl ?_
          refine RG.op (ok_move (ht rfl)) rfl ?_
          refine RG.op (ok_add (ht rfl) (ht rfl)) rfl ?_
          refine RG.op (ok_fieldAddrC (n := 1) fd42_1 rfl (ht rfl) rfl) rfl ?_
          refine RG.storeB ti3 rfl sfDENode_1 rfl (ht rfl) (ht rfl) ?_
          refine RG.nil ?_
          refine AT.front4 ?_
          refine AT.front4 ?_
          refine AT.front2 ?_
          refine AT.front4 ?_
          refine AT.front4 ?_
          exact AT.sub (K (DENode.mk e1.Tag (IntKind.i64.wrap (e1.L + (out.Nodes.length : Int))) e1.R e1.Col e1.Value) h) ⟨rfl, rfl, rfl, rfl, rfl, rfl, rfl, rfl, rfl, rfl, rfl, rfl, trivial⟩
        · have h := cf h hc
          refine CG.skip ?_
          refine AT.front4 ?_
          refine AT.front4 ?_
          refine AT.front2 ?_
          refine AT.front4 ?_
          refine AT.front4 ?_
          exact AT.sub (K e1 h) ⟨rfl, rfl, rfl, rfl, rfl, rfl, rfl, rfl, rfl, rfl, rfl, rfl, trivial⟩

set_option maxRecDepth 100000 in
theorem f18_ok (e : DExpr) (no : Int) (want : DExpr) (ok : Bool) {R : Bool} (h : law10_made e no want ok = some R) : Spec Tryz.prog 18 [tD rpDExpr e, tD (rI .i64) no, tD rpDExpr want, tD rB ok] (tD rB R) := by
  refine Spec.of Tryz.func18 rfl rfl rfl fun w0 S0 => ?_
  refine CG.seq ?_
  refine CG.region ?_
  refine RG.op (ok_box (ht rfl)) rfl ?_
  refine RG.op (ok_box (ht rfl)) rfl ?_
  refine RG.op (ok_assign hB) rfl ?_
  refine RG.nil ?_
  refine AT.next ?_
  refine CG.seq ?_
  refine CG.seq ?_
  refine CG.region ?_
  refine RG.op (ok_move (ht rfl)) rfl ?_
  refine RG.op (ok_not (ht rfl)) rfl ?_
  refine RG.nil ?_
  refine AT.next ?_
  refine CG.cond (ht rfl) (fun hc => ?_) (fun hc => ?_)
  · have h := ct h hc
    refine CG.seq ?_
    refine CG.region ?_
    refine RG.op (ok_move (ht rfl)) rfl ?_
    refine RG.op (ok_eqlI (ht rfl) hI) rfl ?_
    refine RG.op (ok_move (ht rfl)) rfl ?_
    refine RG.opGt rfl rfl rfl rfl (fun hg => ok_fieldAddr fd24_0 rfl flDExpr_0 rfl (ht rfl)) ?_
    refine RG.opGt rfl rfl rfl rfl (fun hg => ok_load ti22 rfl rfl (htO rfl hg)) ?_
    refine RG.opGt rfl rfl rfl rfl (fun hg => ok_lenSl Tryz.underlying22 (htO rfl hg)) ?_
    refine RG.opGt rfl rfl rfl rfl (fun hg => ok_eqlI (htO rfl hg) hI) ?_
    refine RG.op (ok_pickAnd (ht rfl) (fun hb => (htO rfl hb))) rfl ?_
    refine RG.op (ok_assign (ht rfl)) rfl ?_
    refine RG.nil ?_
    refine AT.next ?_
    refine CG.ret ?_
    refine AT.then_ret ?_
    cases so h
    exact AT.ret1 rfl rfl
  · have h := cf h hc
    refine CG.skip ?_
    refine AT.next ?_
    refine CG.seq ?_
    refine CG.region ?_
    refine RG.op (ok_move (ht rfl)) rfl ?_
    refine RG.op (ok_eqlI (ht rfl) hI) rfl ?_
    refine RG.op (ok_move (ht rfl)) rfl ?_
    obtain ⟨t, q_t, h⟩ := bs h
    refine RG.opGt rfl rfl rfl rfl (fun hg => ok_load ti24 rfl rfl (ht rfl)) ?_
    refine RG.opGt rfl rfl rfl rfl (fun hg => ok_load ti24 rfl rfl (ht rfl)) ?_
    obtain ⟨r, h1t, h0t⟩ := og q_t
    have q_rg := fun hb => (h1t hb).1
    refine RG.opGt rfl rfl rfl rfl (fun hg => ok_call cb15 (f15_ok _ _ (q_rg hg)) ⟨(htO rfl hg), (htO rfl hg), trivial⟩) ?_
    refine RG.op (ok_pickAndM (ht rfl) (fun hb => (htO rfl hb)) (fun hb => (h1t hb).2) h0t) rfl ?_
    refine RG.op (ok_assign (ht rfl)) rfl ?_
    refine RG.nil ?_
    refine AT.next ?_
    refine CG.ret ?_
    cases so h
    exact AT.ret1 rfl rfl

set_option maxRecDepth 100000 in
theorem f19_ok (tag : Int) (l : DExpr) {R : DExpr × Int} (h : expr_One tag l = some R) : Spec Tryz.prog 19 [tD (rI .i64) tag, tD rpDExpr l] (tT [tD rpDExpr R.1, tD (rI .i64) R.2]) := by
  refine Spec.of Tryz.func19 rfl rfl rfl fun w0 S0 => ?_
  refine CG.seq ?_
  refine CG.region ?_
  refine RG.op (ok_box (ht rfl)) rfl ?_
  refine RG.alloc (r := rpDExpr) (x := (⟨[]⟩ : DExpr)) ti24 (fun _ => zrDExpr _) rfl (fun b => ?_)
  refine RG.op (ok_assign hI) rfl ?_
  refine RG.nil ?_
  refine AT.next ?_
  refine CG.seq ?_
  refine CG.region ?_
  refine RG.op (ok_move (ht rfl)) rfl ?_
  refine RG.op (ok_build (y := (⟨tag, (0 : Int), (0 : Int), (0 : Int), (⟨(0 : Int), (0 : Int), (0 : Int), []⟩ : DValue)⟩ : DENode)) ti42 fs42 zrDENode (⟨_, _, _, _, _, rfl, sfDENode_0, rfl, (ht rfl), rfl⟩)) rfl ?_
  refine RG.op (ok_load ti24 rfl rfl (ht rfl)) rfl ?_
  refine RG.op (ok_buildSlice (r := rpDExpr) (ys := [l]) (xs := [.tmp 8]) Tryz.underlying51 ti24 rfl rfl rfl rfl rfl ⟨(ht rfl), trivial⟩) rfl ?_
  obtain ⟨r, q_r, h⟩ := bs h
  refine RG.op (ok_call cb50 (f50_ok _ _ q_r) ⟨(ht rfl), (ht rfl), trivial⟩) rfl ?_
  refine RG.op (ok_extract rfl (ht rfl)) rfl ?_
  refine RG.op (ok_extract rfl (ht rfl)) rfl ?_
  refine RG.storeB ti24 rfl sfld_whole rfl (ht rfl) (ht rfl) ?_
  refine RG.settleB 4 rfl ?_
  refine RG.op (ok_assign (ht rfl)) rfl ?_
  refine RG.nil ?_
  refine AT.next ?_
  refine CG.ret ?_
  cases so h
  exact AT.retL (rvs := [.cell 4 24, .tmp 5]) rfl rfl ⟨res_cell ti24 rfl rfl rfl, res_tmp rfl, trivial⟩

set_option maxRecDepth 100000 in
theorem f4_ok (tags : (List Int)) (leaf : DENode) (pair : (List DExpr)) {R : Bool} (h : law10_ExprMakes tags leaf pair = some R) : Spec Tryz.prog 4 [tD (rSl (rI .i64)) tags, tD rpDENode leaf, tD (rArr rpDExpr 2) pair] (tD rB R) := by
  refine Spec.of Tryz.func4 rfl rfl rfl fun w0 S0 => ?_
  refine CG.seq ?_
  refine CG.region ?_
  refine RG.boxO (ht rfl) rfl (fun b => ?_)
  refine RG.op (ok_box (ht rfl)) rfl ?_
  refine RG.op (ok_assign hB) rfl ?_
  refine RG.nil ?_
  refine AT.next ?_
  refine CG.seq ?_
  refine CG.seq ?_
  refine CG.region ?_
  obtain ⟨r, q_r, h⟩ := bs h
  refine RG.op (ok_call cb9 (f9_ok  q_r) trivial) rfl ?_
  refine RG.op (ok_not (ht rfl)) rfl ?_
  refine RG.nil ?_
  refine AT.next ?_
  refine CG.cond (ht rfl) (fun hc => ?_) (fun hc => ?_)
  · have h := ct h hc
    refine CG.seq ?_
    refine CG.region ?_
    refine RG.op (ok_assign hB) rfl ?_
    refine RG.nil ?_
    refine AT.next ?_
    refine CG.ret ?_
    refine AT.then_ret ?_
    refine AT.drop ?_
    cases so h
    exact AT.ret1 rfl rfl
  · have h := cf h hc
    refine CG.skip ?_
    refine AT.next ?_
    refine CG.seq ?_
    obtain ⟨e, q_e, h⟩ := bs h
    obtain ⟨r1, q_r1, h⟩ := bs h
    obtain ⟨e1, q_e1, h⟩ := bs h
    obtain ⟨r2, q_r2, h⟩ := bs h
    refine CG.drawU 8 [tc (tPtr rpDExpr e), tc (tD rpDExpr e), tc (tD rpDExpr r1), tc (tPtr rpDExpr e1), tc (tD rpDExpr e1), tc (tD rpDExpr r2), ([6], fun s => tV (bptr ((s.getD 0 zoi).h 0).2 0)), ([7], fun s => tV (bptr ((s.getD 0 zoi).h 0).2 0))] [false, false, false, false, false, false, true, true] [([], fun _ => [bx rpDENode 42 b leaf]), ([6], fun sg => [bx rpDExpr 24 ((sg 6).h 0).2 (⟨[]⟩ : DExpr), bx rpDENode 42 b leaf]), ([7], fun sg => [bx rpDExpr 24 ((sg 7).h 0).2 (⟨[]⟩ : DExpr), bx rpDENode 42 b leaf]), ([6, 7], fun sg => [bx rpDExpr 24 ((sg 7).h 0).2 (⟨[]⟩ : DExpr), bx rpDExpr 24 ((sg 6).h 0).2 (⟨[]⟩ : DExpr), bx rpDENode 42 b leaf])] (fun _ => rfl) mixed rfl rfl rfl rfl
      ⟨⟨[⟨5, fun _ => tPtr (rArr rpDExpr 2) pair, none⟩], _, [[], [6], [7], [6, 7]], rfl, ⟨(fun _ => rfl), trivial⟩, rfl, rfl, rfl, rfl, rfl, ⟨fun sg => OpG.plain rfl (ok_indexAddrP Tryz.underlying43 ti24 rfl (ht rfl) hI q_e), fun sg => OpG.plain rfl (ok_indexAddrP Tryz.underlying43 ti24 rfl (ht rfl) hI q_e), fun sg => OpG.plain rfl (ok_indexAddrP Tryz.underlying43 ti24 rfl (ht rfl) hI q_e), fun sg => OpG.plain rfl (ok_indexAddrP Tryz.underlying43 ti24 rfl (ht rfl) hI q_e), trivial⟩⟩,
      ⟨⟨[⟨24, fun _ => tPtr rpDExpr e, some 0⟩], _, [[], [6], [7], [6, 7]], rfl, ⟨(fun _ => rfl), trivial⟩, rfl, rfl, rfl, rfl, rfl, ⟨fun sg => OpG.plain rfl (ok_load ti24 rfl rfl (ht rfl)), fun sg => OpG.plain rfl (ok_load ti24 rfl rfl (ht rfl)), fun sg => OpG.plain rfl (ok_load ti24 rfl rfl (ht rfl)), fun sg => OpG.plain rfl (ok_load ti24 rfl rfl (ht rfl)), trivial⟩⟩,
      ⟨⟨[⟨25, fun _ => tD rpDExpr e, some 1⟩], _, [[], [6], [7], [6, 7]], rfl, ⟨(fun _ => rfl), trivial⟩, rfl, rfl, rfl, rfl, rfl, ⟨fun sg => OpG.plain rfl (ok_call cb10 (f10_ok _ _ q_r1) ⟨(ht rfl), hI, trivial⟩), fun sg => OpG.plain rfl (ok_call cb10 (f10_ok _ _ q_r1) ⟨(ht rfl), hI, trivial⟩), fun sg => OpG.plain rfl (ok_call cb10 (f10_ok _ _ q_r1) ⟨(ht rfl), hI, trivial⟩), fun sg => OpG.plain rfl (ok_call cb10 (f10_ok _ _ q_r1) ⟨(ht rfl), hI, trivial⟩), trivial⟩⟩,
      ⟨⟨[⟨5, fun _ => tPtr (rArr rpDExpr 2) pair, none⟩], _, [[], [6], [7], [6, 7]], rfl, ⟨(fun _ => rfl), trivial⟩, rfl, rfl, rfl, rfl, rfl, ⟨fun sg => OpG.plain rfl (ok_indexAddrP Tryz.underlying43 ti24 rfl (ht rfl) hI q_e1), fun sg => OpG.plain rfl (ok_indexAddrP Tryz.underlying43 ti24 rfl (ht rfl) hI q_e1), fun sg => OpG.plain rfl (ok_indexAddrP Tryz.underlying43 ti24 rfl (ht rfl) hI q_e1), fun sg => OpG.plain rfl (ok_indexAddrP Tryz.underlying43 ti24 rfl (ht rfl) hI q_e1), trivial⟩⟩,
      ⟨⟨[⟨27, fun _ => tPtr rpDExpr e1, some 3⟩], _, [[], [6], [7], [6, 7]], rfl, ⟨(fun _ => rfl), trivial⟩, rfl, rfl, rfl, rfl, rfl, ⟨fun sg => OpG.plain rfl (ok_load ti24 rfl rfl (ht rfl)), fun sg => OpG.plain rfl (ok_load ti24 rfl rfl (ht rfl)), fun sg => OpG.plain rfl (ok_load ti24 rfl rfl (ht rfl)), fun sg => OpG.plain rfl (ok_load ti24 rfl rfl (ht rfl)), trivial⟩⟩,
      ⟨⟨[⟨28, fun _ => tD rpDExpr e1, some 4⟩], _, [[], [6], [7], [6, 7]], rfl, ⟨(fun _ => rfl), trivial⟩, rfl, rfl, rfl, rfl, rfl, ⟨fun sg => OpG.plain rfl (ok_call cb10 (f10_ok _ _ q_r2) ⟨(ht rfl), hI, trivial⟩), fun sg => OpG.plain rfl (ok_call cb10 (f10_ok _ _ q_r2) ⟨(ht rfl), hI, trivial⟩), fun sg => OpG.plain rfl (ok_call cb10 (f10_ok _ _ q_r2) ⟨(ht rfl), hI, trivial⟩), fun sg => OpG.plain rfl (ok_call cb10 (f10_ok _ _ q_r2) ⟨(ht rfl), hI, trivial⟩), trivial⟩⟩,
      ⟨⟨[], _, [([], [6]), ([7], [6, 7])], rfl, trivial, rfl, rfl, rfl, rfl, rfl, ⟨fun sg => EffG.plain rfl (eff_alloc (r := rpDExpr) (x := (⟨[]⟩ : DExpr)) ti24 (fun _ => zrDExpr _)), fun sg => EffG.plain rfl (EffOK.post_imp (post := fun x__ => (fun (sg : Nat → OI) => [bx rpDExpr 24 ((sg 6).h 0).2 (⟨[]⟩ : DExpr), bx rpDExpr 24 ((sg 7).h 0).2 (⟨[]⟩ : DExpr), bx rpDENode 42 b leaf]) (upd sg 6 x__)) (eff_alloc (r := rpDExpr) (x := (⟨[]⟩ : DExpr)) ti24 (fun _ => zrDExpr _)) (fun h => Own.pick [1, 0, 2] rfl h)), trivial⟩⟩,
      ⟨⟨[], _, [([], [7]), ([6], [6, 7])], rfl, trivial, rfl, rfl, rfl, rfl, rfl, ⟨fun sg => EffG.plain rfl (eff_alloc (r := rpDExpr) (x := (⟨[]⟩ : DExpr)) ti24 (fun _ => zrDExpr _)), fun sg => EffG.plain rfl (eff_alloc (r := rpDExpr) (x := (⟨[]⟩ : DExpr)) ti24 (fun _ => zrDExpr _)), trivial⟩⟩,
      trivial⟩⟩⟩⟩⟩⟩⟩⟩ (fun sg => ?_)
    refine (show RG _ _ _ _ [bx rpDExpr 24 ((sg 7).h 0).2 (⟨[]⟩ : DExpr), bx rpDExpr 24 ((sg 6).h 0).2 (⟨[]⟩ : DExpr), bx rpDENode 42 b leaf] _ from ?_)
    refine RG.front1 ?_
    refine RG.storeB ti24 rfl sfld_whole rfl (ht rfl) (ht rfl) ?_
    refine RG.settleB 7 rfl ?_
    refine RG.storeB ti24 rfl sfld_whole rfl (ht rfl) (ht rfl) ?_
    refine RG.settleB 8 rfl ?_
    refine RG.nil ?_
    refine AT.next ?_
    refine CG.seq ?_
    refine CG.region ?_
    refine RG.op (ok_loadB ti42 rfl rfl fld_whole (.head _) (ht rfl)) rfl ?_
    refine RG.op (ok_buildSlice (r := rpDENode) (ys := [leaf]) (xs := [.tmp 30]) Tryz.underlying22 ti42 rfl rfl rfl rfl rfl ⟨(ht rfl), trivial⟩) rfl ?_
    refine RG.op (ok_build (y := (⟨[leaf]⟩ : DExpr)) ti24 fs24 zrDExpr (⟨_, _, _, _, _, rfl, sfDExpr_0, rfl, (ht rfl), rfl⟩)) rfl ?_
    obtain ⟨r3, q_r3, h⟩ := bs h
    refine RG.op (ok_call cb10 (f10_ok _ _ q_r3) ⟨(ht rfl), hI, trivial⟩) rfl ?_
    refine RG.op (ok_field (show fieldT Tryz.prog 24 0 = some (22, 0) by kernel_rfl) ti22 rfl rfl rfl flDExpr_0 (ht rfl)) rfl ?_
    obtain ⟨e2, q_e2, h⟩ := bs h
    refine RG.op (ok_indexAddr Tryz.underlying22 ti42 rfl (ht rfl) hI q_e2) rfl ?_
    refine RG.op (ok_load ti42 rfl rfl (ht rfl)) rfl ?_
    refine RG.storeB ti42 rfl sfld_whole rfl (ht rfl) (ht rfl) ?_
    refine RG.nil ?_
    refine AT.next ?_
    refine CG.seq ?_
    refine CG.region ?_
    refine RG.op (ok_loadB ti42 rfl rfl fld_whole (.head _) (ht rfl)) rfl ?_
    obtain ⟨r4, q_r4, h⟩ := bs h
    refine RG.op (ok_call cb16 (f16_ok _ q_r4) ⟨(ht rfl), trivial⟩) rfl ?_
    refine RG.op (ok_move (ht rfl)) rfl ?_
    refine RG.op (ok_extract rfl (ht rfl)) rfl ?_
    refine RG.op (ok_extract rfl (ht rfl)) rfl ?_
    refine RG.alloc (r := rpDExpr) (x := (⟨[]⟩ : DExpr)) ti24 (fun _ => zrDExpr _) rfl (fun b1 => ?_)
    refine RG.storeB ti24 rfl sfld_whole rfl (ht rfl) (ht rfl) ?_
    refine RG.settleB 9 rfl ?_
    refine RG.op (ok_assign (ht rfl)) rfl ?_
    refine RG.nil ?_
    refine AT.next ?_
    refine CG.seq ?_
    refine CG.region ?_
    refine RG.op (ok_loadB ti42 rfl rfl fld_whole (.head _) (ht rfl)) rfl ?_
    obtain ⟨r5, q_r5, h⟩ := bs h
    refine RG.op (ok_call cb17 (f17_ok _ _ q_r5) ⟨(ht rfl), hNil, trivial⟩) rfl ?_
    refine RG.alloc (r := rpDExpr) (x := (⟨[]⟩ : DExpr)) ti24 (fun _ => zrDExpr _) rfl (fun b2 => ?_)
    refine RG.storeB ti24 rfl sfld_whole rfl (ht rfl) (ht rfl) ?_
    refine RG.settleB 11 rfl ?_
    refine RG.nil ?_
    refine AT.next ?_
    refine CG.seq ?_
    refine CG.seq ?_
    obtain ⟨r6, q_r6, h⟩ := bs h
    obtain ⟨r7, q_r7, h⟩ := bs h
    refine CG.draw (ts := [tD rpDExpr r4.1, tD (rI .i64) r4.2, tD rpDExpr r5, tD rpDExpr r5, tD rB r6, tD rB r7, tD rB (!r7)]) mixed rfl rfl
      ⟨⟨[⟨9, _, none⟩], _, rfl, ⟨rfl, trivial⟩, rfl, rfl, OpG.plain rfl (ok_load ti24 rfl rfl (ht rfl))⟩,
      ⟨⟨[⟨10, _, none⟩], _, rfl, ⟨rfl, trivial⟩, rfl, rfl, OpG.plain rfl (ok_move (ht rfl))⟩,
      ⟨⟨[⟨11, _, none⟩], _, rfl, ⟨rfl, trivial⟩, rfl, rfl, OpG.plain rfl (ok_load ti24 rfl rfl (ht rfl))⟩,
      ⟨⟨[⟨11, _, none⟩], _, rfl, ⟨rfl, trivial⟩, rfl, rfl, OpG.plain rfl (ok_load ti24 rfl rfl (ht rfl))⟩,
      ⟨⟨[⟨47, _, some 3⟩], _, rfl, ⟨rfl, trivial⟩, rfl, rfl, OpG.plain rfl (ok_call cb13 (f13_ok _ q_r6) ⟨(ht rfl), trivial⟩)⟩,
      ⟨⟨[⟨44, _, some 0⟩, ⟨45, _, some 1⟩, ⟨46, _, some 2⟩, ⟨48, _, some 4⟩], _, rfl, ⟨rfl, rfl, rfl, rfl, trivial⟩, rfl, rfl, OpG.plain rfl (ok_call cb18 (f18_ok _ _ _ _ q_r7) ⟨(ht rfl), (ht rfl), (ht rfl), (ht rfl), trivial⟩)⟩,
      ⟨⟨[⟨49, _, some 5⟩], _, rfl, ⟨rfl, trivial⟩, rfl, rfl, OpG.plain rfl (ok_not (ht rfl))⟩,
      trivial⟩⟩⟩⟩⟩⟩⟩ ?_
    refine AT.next ?_
    refine CG.cond (ht rfl) (fun hc => ?_) (fun hc => ?_)
    · have h := ct h hc
      refine CG.seq ?_
      refine CG.region ?_
      refine RG.op (ok_assign hB) rfl ?_
      refine RG.nil ?_
      refine AT.next ?_
      refine CG.ret ?_
      refine AT.then_ret ?_
      refine AT.drop ?_
      cases so h
      exact AT.ret1 rfl rfl
    · have h := cf h hc
      refine CG.skip ?_
      refine AT.next ?_
      refine CG.seq ?_
      refine CG.seq ?_
      refine CG.region ?_
      refine RG.op (ok_move (ht rfl)) rfl ?_
      refine RG.op (ok_lenSl Tryz.underlying40 (ht rfl)) rfl ?_
      refine RG.op (ok_move hI) rfl ?_
      refine RG.nil ?_
      refine AT.next ?_
      refine CG.bjoin0 (Z := law10_ExprMakes_k1 = some R) (Of := []) (Gf := []) (fun h => ?_) (fun K => ?_)
      · skip
        refine AT.next ?_
        refine CG.seq ?_
        refine CG.region ?_
        refine RG.op (ok_assign hB) rfl ?_
        refine RG.nil ?_
        refine AT.next ?_
        refine CG.ret ?_
        cases so h
        exact AT.ret1 rfl rfl
      · skip
        refine CG.have_len (k := 51) rfl (fun hN => ?_)
        refine CG.loop ?_
        refine LG.drop ?_
        refine LG.sub (LG.list1 (Z := fun ls i  => (tags.drop i = ls) ∧ law10_ExprMakes_l1 e r1 e1 r2 ls i  = some R) (Of := fun _ i  => []) (Gf := fun _ i  => [(5, tPtr (rArr rpDExpr 2) pair), (7, tPtr rpDExpr r1), (8, tPtr rpDExpr r2), (51, tD (rSl (rI .i64)) tags), (52, tD (rI .i64) (tags.length : Int)), (53, tD (rI .i64) (i : Int))]) (fun i  h => ?_) (fun e3 tl ih i  h => ?_) tags 0  ⟨rfl, h⟩) ⟨rfl, rfl, rfl, rfl, rfl, rfl, trivial⟩
        · obtain ⟨hx, h⟩ := h
          refine LG.unfold ?_
          refine CG.seq ?_
          refine CG.region ?_
          refine RG.op (ok_lss (ht rfl) (ht rfl)) rfl ?_
          refine RG.nil ?_
          refine AT.next ?_
          refine CG.seq ?_
          refine CG.condF (ht rfl) (dropF hx) ?_
          refine CG.exit ?_
          refine AT.then_exit (AT.then_exit (AT.in_exit ?_))
          exact AT.sub (K h) trivial
        · obtain ⟨hx, h⟩ := h
          refine LG.unfold ?_
          refine CG.seq ?_
          refine CG.region ?_
          refine RG.op (ok_lss (ht rfl) (ht rfl)) rfl ?_
          refine RG.nil ?_
          refine AT.next ?_
          refine CG.seq ?_
          refine CG.condT (ht rfl) (dropT hx) ?_
          refine CG.skip ?_
          refine AT.next ?_
          refine CG.seq ?_
          refine CG.block ?_
          refine CG.seq ?_
          refine CG.region ?_
          refine RG.op (ok_move (ht rfl)) rfl ?_
          refine RG.op (ok_indexAddr Tryz.underlying40 ti3 rfl (ht rfl) (ht rfl) (dropI hx)) rfl ?_
          refine RG.op (ok_load ti3 rfl rfl (ht rfl)) rfl ?_
          refine RG.op (ok_assign (ht rfl)) rfl ?_
          refine RG.op (ok_assign (ht rfl)) rfl ?_
          refine RG.nil ?_
          refine AT.next ?_
          refine CG.seq ?_
          refine CG.seq ?_
          refine CG.region ?_
          refine RG.op (ok_move (ht rfl)) rfl ?_
          refine RG.op (ok_eqlI (ht rfl) hI) rfl ?_
          refine RG.nil ?_
          refine AT.next ?_
          refine CG.cond (ht rfl) (fun hc => ?_) (fun hc => ?_)
          · have h := ct h hc
            refine CG.exit ?_
            refine AT.then_exit (AT.in_exit_ne rfl (AT.then_exit (AT.then_exit (AT.in_exit ?_))))
            exact AT.sub (K h) trivial
          · have h := cf h hc
            refine CG.skip ?_
            refine AT.next ?_
            refine CG.seq ?_
            refine CG.region ?_
            refine RG.op (ok_move (ht rfl)) rfl ?_
            refine RG.op (ok_load ti24 rfl rfl (ht rfl)) rfl ?_
            obtain ⟨r8, q_r8, h⟩ := bs h
            refine RG.op (ok_call cb19 (f19_ok _ _ q_r8) ⟨(ht rfl), (ht rfl), trivial⟩) rfl ?_
            refine RG.op (ok_move (ht rfl)) rfl ?_
            refine RG.op (ok_extract rfl (ht rfl)) rfl ?_
            refine RG.op (ok_extract rfl (ht rfl)) rfl ?_
            refine RG.alloc (r := rpDExpr) (x := (⟨[]⟩ : DExpr)) ti24 (fun _ => zrDExpr _) rfl (fun b3 => ?_)
            refine RG.storeB ti24 rfl sfld_whole rfl (ht rfl) (ht rfl) ?_
            refine RG.settleB 14 rfl ?_
            refine RG.op (ok_assign (ht rfl)) rfl ?_
            refine RG.nil ?_
            refine AT.next ?_
            refine CG.seq ?_
            refine CG.region ?_
            refine RG.op (ok_move (ht rfl)) rfl ?_
            refine RG.op (ok_load ti24 rfl rfl (ht rfl)) rfl ?_
            refine RG.op (ok_load ti24 rfl rfl (ht rfl)) rfl ?_
            obtain ⟨r9, q_r9, h⟩ := bs h
            refine RG.callM [] _ rfl cb20 (f20_a _ _ _ q_r9) ⟨(ht rfl), (ht rfl), (ht rfl), trivial⟩ rfl (fun i1 => ?_)
            refine (show RG _ _ _ _ [arr rpDENode 42 (i1.h 0).1 (i1.h 0).2 r9.1.Nodes] _ from ?_)
            refine RG.op (ok_move (ht rfl)) rfl ?_
            refine RG.op (ok_extract rfl (ht rfl)) rfl ?_
            refine RG.op (ok_extract rfl (ht rfl)) rfl ?_
            refine RG.fresh false rpDENode 42 ?_
            refine RG.alloc (r := rpOExpr_0) (x := mkOExpr_0 (⟨[]⟩ : DExpr) (oslV none 0 (([] : List DENode).length))) ti24 zrOExpr_0 rfl (fun b4 => ?_)
            refine RG.storeFX ti24 rfl (sfx_whole rfl) rfl (ht rfl) (ht rfl) ?_
            refine RG.front1 ?_
            refine RG.drop ?_
            refine RG.op (ok_assign (ht rfl)) rfl ?_
            refine RG.nil ?_
            refine AT.next ?_
            refine CG.seq ?_
            obtain ⟨r10, q_r10, h⟩ := bs h
            obtain ⟨r11, q_r11, h⟩ := bs h
            refine CG.drawU 13 [tc (tD (rI .i64) e3), tc (tD rpDENode (⟨e3, (0 : Int), (0 : Int), (0 : Int), (⟨(0 : Int), (0 : Int), (0 : Int), []⟩ : DValue)⟩ : DENode)), tc (tD rpDExpr r1), tc (tD (rSl rpDExpr) ([r1])), tc (tD rpDExpr r10), tc (tD (rI .i64) e3), tc (tD rpDENode (⟨e3, (0 : Int), (0 : Int), (0 : Int), (⟨(0 : Int), (0 : Int), (0 : Int), []⟩ : DValue)⟩ : DENode)), tc (tD rpDExpr r1), tc (tD rpDExpr r2), tc (tD (rSl rpDExpr) ([r1, r2])), tc (tD rpDExpr r11), ([11], fun s => tV (bptr ((s.getD 0 zoi).h 0).2 0)), ([12], fun s => tV (bptr ((s.getD 0 zoi).h 0).2 0))] [false, false, false, false, false, false, false, false, false, false, false, true, true] [([], fun _ => [bx rpOExpr_0 24 b4 (mkOExpr_0 r9.1 (oslV (i1.h 0).1 (i1.h 0).2 r9.1.Nodes.length)), arr rpDENode 42 (i1.h 0).1 (i1.h 0).2 r9.1.Nodes]), ([11], fun sg1 => [bx rpDExpr 24 ((sg1 11).h 0).2 (⟨[]⟩ : DExpr), bx rpOExpr_0 24 b4 (mkOExpr_0 r9.1 (oslV (i1.h 0).1 (i1.h 0).2 r9.1.Nodes.length)), arr rpDENode 42 (i1.h 0).1 (i1.h 0).2 r9.1.Nodes]), ([12], fun sg1 => [bx rpDExpr 24 ((sg1 12).h 0).2 (⟨[]⟩ : DExpr), bx rpOExpr_0 24 b4 (mkOExpr_0 r9.1 (oslV (i1.h 0).1 (i1.h 0).2 r9.1.Nodes.length)), arr rpDENode 42 (i1.h 0).1 (i1.h 0).2 r9.1.Nodes]), ([11, 12], fun sg1 => [bx rpDExpr 24 ((sg1 12).h 0).2 (⟨[]⟩ : DExpr), bx rpDExpr 24 ((sg1 11).h 0).2 (⟨[]⟩ : DExpr), bx rpOExpr_0 24 b4 (mkOExpr_0 r9.1 (oslV (i1.h 0).1 (i1.h 0).2 r9.1.Nodes.length)), arr rpDENode 42 (i1.h 0).1 (i1.h 0).2 r9.1.Nodes])] (fun _ => rfl) mixed rfl rfl rfl rfl
              ⟨⟨[⟨13, fun _ => tD (rI .i64) e3, none⟩], _, [[], [11], [12], [11, 12]], rfl, ⟨(fun _ => rfl), trivial⟩, rfl, rfl, rfl, rfl, rfl, ⟨fun sg1 => OpG.plain rfl (ok_move (ht rfl)), fun sg1 => OpG.plain rfl (ok_move (ht rfl)), fun sg1 => OpG.plain rfl (ok_move (ht rfl)), fun sg1 => OpG.plain rfl (ok_move (ht rfl)), trivial⟩⟩,
              ⟨⟨[⟨73, fun _ => tD (rI .i64) e3, some 0⟩], _, [[], [11], [12], [11, 12]], rfl, ⟨(fun _ => rfl), trivial⟩, rfl, rfl, rfl, rfl, rfl, ⟨fun sg1 => OpG.plain rfl (ok_build (y := (⟨e3, (0 : Int), (0 : Int), (0 : Int), (⟨(0 : Int), (0 : Int), (0 : Int), []⟩ : DValue)⟩ : DENode)) ti42 fs42 zrDENode (⟨_, _, _, _, _, rfl, sfDENode_0, rfl, (ht rfl), rfl⟩)), fun sg1 => OpG.plain rfl (ok_build (y := (⟨e3, (0 : Int), (0 : Int), (0 : Int), (⟨(0 : Int), (0 : Int), (0 : Int), []⟩ : DValue)⟩ : DENode)) ti42 fs42 zrDENode (⟨_, _, _, _, _, rfl, sfDENode_0, rfl, (ht rfl), rfl⟩)), fun sg1 => OpG.plain rfl (ok_build (y := (⟨e3, (0 : Int), (0 : Int), (0 : Int), (⟨(0 : Int), (0 : Int), (0 : Int), []⟩ : DValue)⟩ : DENode)) ti42 fs42 zrDENode (⟨_, _, _, _, _, rfl, sfDENode_0, rfl, (ht rfl), rfl⟩)), fun sg1 => OpG.plain rfl (ok_build (y := (⟨e3, (0 : Int), (0 : Int), (0 : Int), (⟨(0 : Int), (0 : Int), (0 : Int), []⟩ : DValue)⟩ : DENode)) ti42 fs42 zrDENode (⟨_, _, _, _, _, rfl, sfDENode_0, rfl, (ht rfl), rfl⟩)), trivial⟩⟩,
              ⟨⟨[⟨7, fun _ => tPtr rpDExpr r1, none⟩], _, [[], [11], [12], [11, 12]], rfl, ⟨(fun _ => rfl), trivial⟩, rfl, rfl, rfl, rfl, rfl, ⟨fun sg1 => OpG.plain rfl (ok_load ti24 rfl rfl (ht rfl)), fun sg1 => OpG.plain rfl (ok_load ti24 rfl rfl (ht rfl)), fun sg1 => OpG.plain rfl (ok_load ti24 rfl rfl (ht rfl)), fun sg1 => OpG.plain rfl (ok_load ti24 rfl rfl (ht rfl)), trivial⟩⟩,
              ⟨⟨[⟨75, fun _ => tD rpDExpr r1, some 2⟩], _, [[], [11], [12], [11, 12]], rfl, ⟨(fun _ => rfl), trivial⟩, rfl, rfl, rfl, rfl, rfl, ⟨fun sg1 => OpG.plain rfl (ok_buildSlice (r := rpDExpr) (ys := [r1]) (xs := [.tmp 75]) Tryz.underlying51 ti24 rfl rfl rfl rfl rfl ⟨(ht rfl), trivial⟩), fun sg1 => OpG.plain rfl (ok_buildSlice (r := rpDExpr) (ys := [r1]) (xs := [.tmp 75]) Tryz.underlying51 ti24 rfl rfl rfl rfl rfl ⟨(ht rfl), trivial⟩), fun sg1 => OpG.plain rfl (ok_buildSlice (r := rpDExpr) (ys := [r1]) (xs := [.tmp 75]) Tryz.underlying51 ti24 rfl rfl rfl rfl rfl ⟨(ht rfl), trivial⟩), fun sg1 => OpG.plain rfl (ok_buildSlice (r := rpDExpr) (ys := [r1]) (xs := [.tmp 75]) Tryz.underlying51 ti24 rfl rfl rfl rfl rfl ⟨(ht rfl), trivial⟩), trivial⟩⟩,
              ⟨⟨[⟨74, fun _ => tD rpDENode (⟨e3, (0 : Int), (0 : Int), (0 : Int), (⟨(0 : Int), (0 : Int), (0 : Int), []⟩ : DValue)⟩ : DENode), some 1⟩, ⟨76, fun _ => tD (rSl rpDExpr) ([r1]), some 3⟩], _, [[], [11], [12], [11, 12]], rfl, ⟨(fun _ => rfl), (fun _ => rfl), trivial⟩, rfl, rfl, rfl, rfl, rfl, ⟨fun sg1 => OpG.plain rfl (ok_call cb17 (f17_ok _ _ q_r10) ⟨(ht rfl), (ht rfl), trivial⟩), fun sg1 => OpG.plain rfl (ok_call cb17 (f17_ok _ _ q_r10) ⟨(ht rfl), (ht rfl), trivial⟩), fun sg1 => OpG.plain rfl (ok_call cb17 (f17_ok _ _ q_r10) ⟨(ht rfl), (ht rfl), trivial⟩), fun sg1 => OpG.plain rfl (ok_call cb17 (f17_ok _ _ q_r10) ⟨(ht rfl), (ht rfl), trivial⟩), trivial⟩⟩,
              ⟨⟨[⟨13, fun _ => tD (rI .i64) e3, none⟩], _, [[], [11], [12], [11, 12]], rfl, ⟨(fun _ => rfl), trivial⟩, rfl, rfl, rfl, rfl, rfl, ⟨fun sg1 => OpG.plain rfl (ok_move (ht rfl)), fun sg1 => OpG.plain rfl (ok_move (ht rfl)), fun sg1 => OpG.plain rfl (ok_move (ht rfl)), fun sg1 => OpG.plain rfl (ok_move (ht rfl)), trivial⟩⟩,
              ⟨⟨[⟨78, fun _ => tD (rI .i64) e3, some 5⟩], _, [[], [11], [12], [11, 12]], rfl, ⟨(fun _ => rfl), trivial⟩, rfl, rfl, rfl, rfl, rfl, ⟨fun sg1 => OpG.plain rfl (ok_build (y := (⟨e3, (0 : Int), (0 : Int), (0 : Int), (⟨(0 : Int), (0 : Int), (0 : Int), []⟩ : DValue)⟩ : DENode)) ti42 fs42 zrDENode (⟨_, _, _, _, _, rfl, sfDENode_0, rfl, (ht rfl), rfl⟩)), fun sg1 => OpG.plain rfl (ok_build (y := (⟨e3, (0 : Int), (0 : Int), (0 : Int), (⟨(0 : Int), (0 : Int), (0 : Int), []⟩ : DValue)⟩ : DENode)) ti42 fs42 zrDENode (⟨_, _, _, _, _, rfl, sfDENode_0, rfl, (ht rfl), rfl⟩)), fun sg1 => OpG.plain rfl (ok_build (y := (⟨e3, (0 : Int), (0 : Int), (0 : Int), (⟨(0 : Int), (0 : Int), (0 : Int), []⟩ : DValue)⟩ : DENode)) ti42 fs42 zrDENode (⟨_, _, _, _, _, rfl, sfDENode_0, rfl, (ht rfl), rfl⟩)), fun sg1 => OpG.plain rfl (ok_build (y := (⟨e3, (0 : Int), (0 : Int), (0 : Int), (⟨(0 : Int), (0 : Int), (0 : Int), []⟩ : DValue)⟩ : DENode)) ti42 fs42 zrDENode (⟨_, _, _, _, _, rfl, sfDENode_0, rfl, (ht rfl), rfl⟩)), trivial⟩⟩,
              ⟨⟨[⟨7, fun _ => tPtr rpDExpr r1, none⟩], _, [[], [11], [12], [11, 12]], rfl, ⟨(fun _ => rfl), trivial⟩, rfl, rfl, rfl, rfl, rfl, ⟨fun sg1 => OpG.plain rfl (ok_load ti24 rfl rfl (ht rfl)), fun sg1 => OpG.plain rfl (ok_load ti24 rfl rfl (ht rfl)), fun sg1 => OpG.plain rfl (ok_load ti24 rfl rfl (ht rfl)), fun sg1 => OpG.plain rfl (ok_load ti24 rfl rfl (ht rfl)), trivial⟩⟩,
              ⟨⟨[⟨8, fun _ => tPtr rpDExpr r2, none⟩], _, [[], [11], [12], [11, 12]], rfl, ⟨(fun _ => rfl), trivial⟩, rfl, rfl, rfl, rfl, rfl, ⟨fun sg1 => OpG.plain rfl (ok_load ti24 rfl rfl (ht rfl)), fun sg1 => OpG.plain rfl (ok_load ti24 rfl rfl (ht rfl)), fun sg1 => OpG.plain rfl (ok_load ti24 rfl rfl (ht rfl)), fun sg1 => OpG.plain rfl (ok_load ti24 rfl rfl (ht rfl)), trivial⟩⟩,
              ⟨⟨[⟨80, fun _ => tD rpDExpr r1, some 7⟩, ⟨81, fun _ => tD rpDExpr r2, some 8⟩], _, [[], [11], [12], [11, 12]], rfl, ⟨(fun _ => rfl), (fun _ => rfl), trivial⟩, rfl, rfl, rfl, rfl, rfl, ⟨fun sg1 => OpG.plain rfl (ok_buildSlice (r := rpDExpr) (ys := [r1, r2]) (xs := [.tmp 80, .tmp 81]) Tryz.underlying51 ti24 rfl rfl rfl rfl rfl ⟨(ht rfl), (ht rfl), trivial⟩), fun sg1 => OpG.plain rfl (ok_buildSlice (r := rpDExpr) (ys := [r1, r2]) (xs := [.tmp 80, .tmp 81]) Tryz.underlying51 ti24 rfl rfl rfl rfl rfl ⟨(ht rfl), (ht rfl), trivial⟩), fun sg1 => OpG.plain rfl (ok_buildSlice (r := rpDExpr) (ys := [r1, r2]) (xs := [.tmp 80, .tmp 81]) Tryz.underlying51 ti24 rfl rfl rfl rfl rfl ⟨(ht rfl), (ht rfl), trivial⟩), fun sg1 => OpG.plain rfl (ok_buildSlice (r := rpDExpr) (ys := [r1, r2]) (xs := [.tmp 80, .tmp 81]) Tryz.underlying51 ti24 rfl rfl rfl rfl rfl ⟨(ht rfl), (ht rfl), trivial⟩), trivial⟩⟩,
              ⟨⟨[⟨79, fun _ => tD rpDENode (⟨e3, (0 : Int), (0 : Int), (0 : Int), (⟨(0 : Int), (0 : Int), (0 : Int), []⟩ : DValue)⟩ : DENode), some 6⟩, ⟨82, fun _ => tD (rSl rpDExpr) ([r1, r2]), some 9⟩], _, [[], [11], [12], [11, 12]], rfl, ⟨(fun _ => rfl), (fun _ => rfl), trivial⟩, rfl, rfl, rfl, rfl, rfl, ⟨fun sg1 => OpG.plain rfl (ok_call cb17 (f17_ok _ _ q_r11) ⟨(ht rfl), (ht rfl), trivial⟩), fun sg1 => OpG.plain rfl (ok_call cb17 (f17_ok _ _ q_r11) ⟨(ht rfl), (ht rfl), trivial⟩), fun sg1 => OpG.plain rfl (ok_call cb17 (f17_ok _ _ q_r11) ⟨(ht rfl), (ht rfl), trivial⟩), fun sg1 => OpG.plain rfl (ok_call cb17 (f17_ok _ _ q_r11) ⟨(ht rfl), (ht rfl), trivial⟩), trivial⟩⟩,
              ⟨⟨[], _, [([], [11]), ([12], [11, 12])], rfl, trivial, rfl, rfl, rfl, rfl, rfl, ⟨fun sg1 => EffG.plain rfl (eff_alloc (r := rpDExpr) (x := (⟨[]⟩ : DExpr)) ti24 (fun _ => zrDExpr _)), fun sg1 => EffG.plain rfl (EffOK.post_imp (post := fun x__ => (fun (sg1 : Nat → OI) => [bx rpDExpr 24 ((sg1 11).h 0).2 (⟨[]⟩ : DExpr), bx rpDExpr 24 ((sg1 12).h 0).2 (⟨[]⟩ : DExpr), bx rpOExpr_0 24 b4 (mkOExpr_0 r9.1 (oslV (i1.h 0).1 (i1.h 0).2 r9.1.Nodes.length)), arr rpDENode 42 (i1.h 0).1 (i1.h 0).2 r9.1.Nodes]) (upd sg1 11 x__)) (eff_alloc (r := rpDExpr) (x := (⟨[]⟩ : DExpr)) ti24 (fun _ => zrDExpr _)) (fun h => Own.pick [1, 0, 2, 3] rfl h)), trivial⟩⟩,
              ⟨⟨[], _, [([], [12]), ([11], [11, 12])], rfl, trivial, rfl, rfl, rfl, rfl, rfl, ⟨fun sg1 => EffG.plain rfl (eff_alloc (r := rpDExpr) (x := (⟨[]⟩ : DExpr)) ti24 (fun _ => zrDExpr _)), fun sg1 => EffG.plain rfl (eff_alloc (r := rpDExpr) (x := (⟨[]⟩ : DExpr)) ti24 (fun _ => zrDExpr _)), trivial⟩⟩,
              trivial⟩⟩⟩⟩⟩⟩⟩⟩⟩⟩⟩⟩⟩ (fun sg1 => ?_)
            refine (show RG _ _ _ _ [bx rpDExpr 24 ((sg1 12).h 0).2 (⟨[]⟩ : DExpr), bx rpDExpr 24 ((sg1 11).h 0).2 (⟨[]⟩ : DExpr), bx rpOExpr_0 24 b4 (mkOExpr_0 r9.1 (oslV (i1.h 0).1 (i1.h 0).2 r9.1.Nodes.length)), arr rpDENode 42 (i1.h 0).1 (i1.h 0).2 r9.1.Nodes] _ from ?_)
            refine RG.front1 ?_
            refine RG.storeB ti24 rfl sfld_whole rfl (ht rfl) (ht rfl) ?_
            refine RG.settleB 18 rfl ?_
            refine RG.storeB ti24 rfl sfld_whole rfl (ht rfl) (ht rfl) ?_
            refine RG.settleB 19 rfl ?_
            refine RG.nil ?_
            refine AT.next ?_
            refine CG.seq ?_
            refine CG.region ?_
            refine RG.op (ok_load ti24 rfl rfl (ht rfl)) rfl ?_
            obtain ⟨r12, q_r12, h⟩ := bs h
            refine RG.op (ok_call cb13 (f13_ok _ q_r12) ⟨(ht rfl), trivial⟩) rfl ?_
            refine RG.op (ok_assign (ht rfl)) rfl ?_
            refine RG.nil ?_
            refine AT.next ?_
            refine CG.seq ?_
            refine CG.seq ?_
            obtain ⟨t, q_t, h⟩ := bs h
            obtain ⟨r13, h1t, h0t⟩ := og q_t
            have q_r13g := fun hb => (h1t hb).1
            obtain ⟨r14, q_r14, h⟩ := bs h
            obtain ⟨t1, q_t1, h⟩ := bs h
            obtain ⟨t2, h1t1, h0t1⟩ := og q_t1
            have q_t2g := fun hb => (h1t1 hb).1
            obtain ⟨r15, h1t2, h0t2⟩ := og3 q_t2g
            have q_r15g := fun hb => (h1t2 hb).1
            obtain ⟨t3, h1t1⟩ := og2 (fun hb => (h1t1 hb).2)
            have q_t3g := fun hb => (h1t1 hb).1
            obtain ⟨r16, h1t3, h0t3⟩ := og3 q_t3g
            have q_r16g := fun hb => (h1t3 hb).1
            obtain ⟨r17, h1t1⟩ := og2 (fun hb => (h1t1 hb).2)
            have q_r17g := fun hb => (h1t1 hb).1
            refine CG.draw (ts := [tD rpDExpr r8.1, tD (rI .i64) r8.2, tD rpDExpr r10, tD rB r12, tD rB r12, tOpt r12 (tD rpDExpr r10), tOpt r12 (tD rB r13), tD rB t, tD rB r14, tD rB (!r14), tD rB (!r14), tOpt (!(!r14)) (tD rpOExpr_0 (mkOExpr_0 r9.1 (oslV (i1.h 0).1 (i1.h 0).2 r9.1.Nodes.length))), tOpt (!(!r14)) (tD (rI .i64) r9.2), tOpt (!(!r14)) (tD rpDExpr r11), tOpt (!(!r14)) (tD rB r12), tOpt (!(!r14)) (tD rB r12), tOpt ((!(!r14)) && r12) (tD rpDExpr r2), tOpt ((!(!r14)) && r12) (tD rB r15), tOpt (!(!r14)) (tD rB t2), tOpt (!(!r14)) (tD rB t2), tOpt ((!(!r14)) && t2) (tD rpDExpr r11), tOpt ((!(!r14)) && t2) (tD rB r16), tOpt (!(!r14)) (tD rB t3), tOpt (!(!r14)) (tD rB r17), tOpt (!(!r14)) (tD rB (!r17)), tD rB t1]) mixed rfl rfl
              ⟨⟨[⟨14, _, none⟩], _, rfl, ⟨rfl, trivial⟩, rfl, rfl, OpG.plain rfl (ok_load ti24 rfl rfl (ht rfl))⟩,
              ⟨⟨[⟨15, _, none⟩], _, rfl, ⟨rfl, trivial⟩, rfl, rfl, OpG.plain rfl (ok_move (ht rfl))⟩,
              ⟨⟨[⟨18, _, none⟩], _, rfl, ⟨rfl, trivial⟩, rfl, rfl, OpG.plain rfl (ok_load ti24 rfl rfl (ht rfl))⟩,
              ⟨⟨[⟨20, _, none⟩], _, rfl, ⟨rfl, trivial⟩, rfl, rfl, OpG.plain rfl (ok_move (ht rfl))⟩,
              ⟨⟨[⟨89, _, some 3⟩], _, rfl, ⟨rfl, trivial⟩, rfl, rfl, OpG.plain rfl (ok_move (ht rfl))⟩,
              ⟨⟨[⟨18, _, none⟩, ⟨90, _, some 4⟩], _, rfl, ⟨rfl, rfl, trivial⟩, rfl, rfl, OpG.gt rfl rfl rfl rfl (fun hg => ok_load ti24 rfl rfl (ht rfl))⟩,
              ⟨⟨[⟨91, _, some 5⟩, ⟨90, _, some 4⟩], _, rfl, ⟨rfl, rfl, trivial⟩, rfl, rfl, OpG.gt rfl rfl rfl rfl (fun hg => ok_call cb13 (f13_ok _ (q_r13g hg)) ⟨(htO rfl hg), trivial⟩)⟩,
              ⟨⟨[⟨90, _, some 4⟩, ⟨92, _, some 6⟩], _, rfl, ⟨rfl, rfl, trivial⟩, rfl, rfl, OpG.plain rfl (ok_pickAndM (ht rfl) (fun hb => (htO rfl hb)) (fun hb => (h1t hb).2) h0t)⟩,
              ⟨⟨[⟨86, _, some 0⟩, ⟨87, _, some 1⟩, ⟨88, _, some 2⟩, ⟨93, _, some 7⟩], _, rfl, ⟨rfl, rfl, rfl, rfl, trivial⟩, rfl, rfl, OpG.plain rfl (ok_call cb18 (f18_ok _ _ _ _ q_r14) ⟨(ht rfl), (ht rfl), (ht rfl), (ht rfl), trivial⟩)⟩,
              ⟨⟨[⟨94, _, some 8⟩], _, rfl, ⟨rfl, trivial⟩, rfl, rfl, OpG.plain rfl (ok_not (ht rfl))⟩,
              ⟨⟨[⟨95, _, some 9⟩], _, rfl, ⟨rfl, trivial⟩, rfl, rfl, OpG.plain rfl (ok_move (ht rfl))⟩,
              ⟨⟨[⟨16, _, none⟩, ⟨96, _, some 10⟩], _, rfl, ⟨rfl, rfl, trivial⟩, rfl, rfl, OpG.gf rfl rfl rfl rfl (fun hg => ok_loadB (r := rpOExpr_0) (q := rpOExpr_0) (get := fun x => x) (x := mkOExpr_0 r9.1 (oslV (i1.h 0).1 (i1.h 0).2 r9.1.Nodes.length)) ti24 rfl rfl fld_whole (.head _) (ht rfl))⟩,
              ⟨⟨[⟨17, _, none⟩, ⟨96, _, some 10⟩], _, rfl, ⟨rfl, rfl, trivial⟩, rfl, rfl, OpG.gf rfl rfl rfl rfl (fun hg => ok_move (ht rfl))⟩,
              ⟨⟨[⟨19, _, none⟩, ⟨96, _, some 10⟩], _, rfl, ⟨rfl, rfl, trivial⟩, rfl, rfl, OpG.gf rfl rfl rfl rfl (fun hg => ok_load ti24 rfl rfl (ht rfl))⟩,
              ⟨⟨[⟨20, _, none⟩, ⟨96, _, some 10⟩], _, rfl, ⟨rfl, rfl, trivial⟩, rfl, rfl, OpG.gf rfl rfl rfl rfl (fun hg => ok_move (ht rfl))⟩,
              ⟨⟨[⟨100, _, some 14⟩, ⟨96, _, some 10⟩], _, rfl, ⟨rfl, rfl, trivial⟩, rfl, rfl, OpG.gf rfl rfl rfl rfl (fun hg => ok_move (htO rfl hg))⟩,
              ⟨⟨[⟨8, _, none⟩, ⟨101, _, some 15⟩], _, rfl, ⟨rfl, rfl, trivial⟩, rfl, rfl, OpG.got rfl rfl rfl rfl (fun hg => ok_load ti24 rfl rfl (ht rfl))⟩,
              ⟨⟨[⟨102, _, some 16⟩, ⟨101, _, some 15⟩], _, rfl, ⟨rfl, rfl, trivial⟩, rfl, rfl, OpG.got rfl rfl rfl rfl (fun hg => ok_call cb13 (f13_ok _ (q_r15g hg)) ⟨(htO rfl hg), trivial⟩)⟩,
              ⟨⟨[⟨101, _, some 15⟩, ⟨103, _, some 17⟩, ⟨96, _, some 10⟩], _, rfl, ⟨rfl, rfl, rfl, trivial⟩, rfl, rfl, OpG.gf rfl rfl rfl rfl (fun hg => ok_pickAndM (htO rfl hg) (fun hb => (htO rfl (andi hg hb))) (fun hb => (h1t2 (andi hg hb)).2) (fun hb => h0t2 hg hb))⟩,
              ⟨⟨[⟨104, _, some 18⟩, ⟨96, _, some 10⟩], _, rfl, ⟨rfl, rfl, trivial⟩, rfl, rfl, OpG.gf rfl rfl rfl rfl (fun hg => ok_move (htO rfl hg))⟩,
              ⟨⟨[⟨19, _, none⟩, ⟨105, _, some 19⟩], _, rfl, ⟨rfl, rfl, trivial⟩, rfl, rfl, OpG.got rfl rfl rfl rfl (fun hg => ok_load ti24 rfl rfl (ht rfl))⟩,
              ⟨⟨[⟨106, _, some 20⟩, ⟨105, _, some 19⟩], _, rfl, ⟨rfl, rfl, trivial⟩, rfl, rfl, OpG.got rfl rfl rfl rfl (fun hg => ok_call cb13 (f13_ok _ (q_r16g hg)) ⟨(htO rfl hg), trivial⟩)⟩,
              ⟨⟨[⟨105, _, some 19⟩, ⟨107, _, some 21⟩, ⟨96, _, some 10⟩], _, rfl, ⟨rfl, rfl, rfl, trivial⟩, rfl, rfl, OpG.gf rfl rfl rfl rfl (fun hg => ok_pickAndM (htO rfl hg) (fun hb => (htO rfl (andi hg hb))) (fun hb => (h1t3 (andi hg hb)).2) (fun hb => h0t3 hg hb))⟩,
              ⟨⟨[⟨97, _, some 11⟩, ⟨98, _, some 12⟩, ⟨99, _, some 13⟩, ⟨108, _, some 22⟩, ⟨96, _, some 10⟩], _, rfl, ⟨rfl, rfl, rfl, rfl, rfl, trivial⟩, rfl, rfl, OpG.gf rfl rfl rfl rfl (fun hg => ok_callB (r := rpDENode) (T := 42) (l := (i1.h 0).1) (cap := (i1.h 0).2) (zs := r9.1.Nodes) (.tail _ (.head _)) cb18 (f18_ok _ _ _ _ (q_r17g hg)) (fun S S1 a hf hle hk => tys_cons (lend_of (ro := rpOExpr_0) (rd := rpDExpr) rfl (fun k h => cvOExpr_0_to_D k h) (htO rfl hg) hf hle hk) (tys_cons (ty_of (htO rfl hg) hf hle) (tys_cons (ty_of (htO rfl hg) hf hle) (tys_cons (ty_of (htO rfl hg) hf hle) trivial)))) tB_free)⟩,
              ⟨⟨[⟨109, _, some 23⟩, ⟨96, _, some 10⟩], _, rfl, ⟨rfl, rfl, trivial⟩, rfl, rfl, OpG.gf rfl rfl rfl rfl (fun hg => ok_not (htO rfl hg))⟩,
              ⟨⟨[⟨96, _, some 10⟩, ⟨110, _, some 24⟩], _, rfl, ⟨rfl, rfl, trivial⟩, rfl, rfl, OpG.plain rfl (ok_pickOrM (ht rfl) (fun hb => (htO rfl (noti hb))) (fun hb => (h1t1 hb).2) h0t1)⟩,
              trivial⟩⟩⟩⟩⟩⟩⟩⟩⟩⟩⟩⟩⟩⟩⟩⟩⟩⟩⟩⟩⟩⟩⟩⟩⟩⟩ ?_
            refine AT.next ?_
            refine CG.cond (ht rfl) (fun hc => ?_) (fun hc => ?_)
            · have h := ct h hc
              refine CG.seq ?_
              refine CG.region ?_
              refine RG.op (ok_assign hB) rfl ?_
              refine RG.nil ?_
              refine AT.next ?_
              refine CG.ret ?_
              refine AT.then_ret (AT.in_ret (AT.then_ret (AT.then_ret (AT.in_ret (AT.then_ret ?_)))))
              refine AT.drop ?_
              refine AT.drop ?_
              cases so h
              exact AT.ret1 rfl rfl
            · have h := cf h hc
              refine CG.skip ?_
              refine AT.next ?_
              refine CG.seq ?_
              refine CG.seq ?_
              refine CG.region ?_
              refine RG.op (ok_fieldAddrC (n := 0) fd24_0 rfl (ht rfl) rfl) rfl ?_
              refine RG.op (ok_loadFV ti22 flOExpr_0_0 (.head _) rfl (ht rfl)) rfl ?_
              refine RG.op (ok_lenO Tryz.underlying22 (.tail _ (.head _)) (ht rfl)) rfl ?_
              refine RG.op (ok_move hI) rfl ?_
              refine RG.nil ?_
              refine AT.next ?_
              refine CG.block ?_
              refine CG.have_lenA (.tail _ (.head _)) (fun hN1 => ?_)
              refine CG.loop ?_
              refine LG.sub (LG.list4 (Z := fun ls1 i2 b5 l c => (r9.1.Nodes.drop i2 = ls1) ∧ law10_ExprMakes_l2 e r1 e1 r2 (law10_ExprMakes_l1 e r1 e1 r2 tl) i ls1 i2 b5 = some R) (Of := fun _ i2 b5 l c => [bx rpOExpr_0 24 b4 (mkOExpr_0 b5 (oslV l c b5.Nodes.length)), arr rpDENode 42 l c b5.Nodes]) (Gf := fun _ i2 b5 l c => [(5, tPtr (rArr rpDExpr 2) pair), (7, tPtr rpDExpr r1), (8, tPtr rpDExpr r2), (16, tV (bptr b4 0)), (51, tD (rSl (rI .i64)) tags), (52, tD (rI .i64) (tags.length : Int)), (53, tD (rI .i64) (i : Int)), (114, tD (rI .i64) (r9.1.Nodes.length : Int)), (115, tD (rI .i64) (i2 : Int))]) (fun i2 b5 l c h => ?_) (fun e4 tl1 ih1 i2 b5 l c h => ?_) r9.1.Nodes 0 r9.1 (i1.h 0).1 (i1.h 0).2 ⟨rfl, h⟩) ⟨rfl, rfl, rfl, rfl, rfl, rfl, rfl, rfl, rfl, trivial⟩
              · obtain ⟨hx1, h⟩ := h
                refine LG.unfold ?_
                refine CG.seq ?_
                refine CG.region ?_
                refine RG.op (ok_lss (ht rfl) (ht rfl)) rfl ?_
                refine RG.nil ?_
                refine AT.next ?_
                refine CG.seq ?_
                refine CG.condF (ht rfl) (dropF hx1) ?_
                refine CG.exit ?_
                refine AT.then_exit (AT.then_exit (AT.in_exit ?_))
                refine AT.next ?_
                refine CG.seq ?_
                obtain ⟨r18, q_r18, h⟩ := bs h
                obtain ⟨r19, q_r19, h⟩ := bs h
                obtain ⟨t4, q_t4, h⟩ := bs h
                obtain ⟨r20, h1t4, h0t4⟩ := og q_t4
                have q_r20g := fun hb => (h1t4 hb).1
                obtain ⟨r21, h1t4⟩ := og2 (fun hb => (h1t4 hb).2)
                have q_r21g := fun hb => (h1t4 hb).1
                refine CG.draw (ts := [tD rpDExpr r1, tPtr rpDExpr e, tD rpDExpr e, tD rpDExpr r18, tD rB r19, tD rB (!r19), tD rB (!r19), tOpt (!(!r19)) (tD rpDExpr r2), tOpt (!(!r19)) (tPtr rpDExpr e1), tOpt (!(!r19)) (tD rpDExpr e1), tOpt (!(!r19)) (tD rpDExpr r20), tOpt (!(!r19)) (tD rB r21), tOpt (!(!r19)) (tD rB (!r21)), tD rB t4]) mixed rfl rfl
                  ⟨⟨[⟨7, _, none⟩], _, rfl, ⟨rfl, trivial⟩, rfl, rfl, OpG.plain rfl (ok_load ti24 rfl rfl (ht rfl))⟩,
                  ⟨⟨[⟨5, _, none⟩], _, rfl, ⟨rfl, trivial⟩, rfl, rfl, OpG.plain rfl (ok_indexAddrP Tryz.underlying43 ti24 rfl (ht rfl) hI q_e)⟩,
                  ⟨⟨[⟨125, _, some 1⟩], _, rfl, ⟨rfl, trivial⟩, rfl, rfl, OpG.plain rfl (ok_load ti24 rfl rfl (ht rfl))⟩,
                  ⟨⟨[⟨126, _, some 2⟩], _, rfl, ⟨rfl, trivial⟩, rfl, rfl, OpG.plain rfl (ok_call cb10 (f10_ok _ _ q_r18) ⟨(ht rfl), hI, trivial⟩)⟩,
                  ⟨⟨[⟨124, _, some 0⟩, ⟨127, _, some 3⟩], _, rfl, ⟨rfl, rfl, trivial⟩, rfl, rfl, OpG.plain rfl (ok_call cb15 (f15_ok _ _ q_r19) ⟨(ht rfl), (ht rfl), trivial⟩)⟩,
                  ⟨⟨[⟨128, _, some 4⟩], _, rfl, ⟨rfl, trivial⟩, rfl, rfl, OpG.plain rfl (ok_not (ht rfl))⟩,
                  ⟨⟨[⟨129, _, some 5⟩], _, rfl, ⟨rfl, trivial⟩, rfl, rfl, OpG.plain rfl (ok_move (ht rfl))⟩,
                  ⟨⟨[⟨8, _, none⟩, ⟨130, _, some 6⟩], _, rfl, ⟨rfl, rfl, trivial⟩, rfl, rfl, OpG.gf rfl rfl rfl rfl (fun hg => ok_load ti24 rfl rfl (ht rfl))⟩,
                  ⟨⟨[⟨5, _, none⟩, ⟨130, _, some 6⟩], _, rfl, ⟨rfl, rfl, trivial⟩, rfl, rfl, OpG.gf rfl rfl rfl rfl (fun hg => ok_indexAddrP Tryz.underlying43 ti24 rfl (ht rfl) hI q_e1)⟩,
                  ⟨⟨[⟨132, _, some 8⟩, ⟨130, _, some 6⟩], _, rfl, ⟨rfl, rfl, trivial⟩, rfl, rfl, OpG.gf rfl rfl rfl rfl (fun hg => ok_load ti24 rfl rfl (htO rfl hg))⟩,
                  ⟨⟨[⟨133, _, some 9⟩, ⟨130, _, some 6⟩], _, rfl, ⟨rfl, rfl, trivial⟩, rfl, rfl, OpG.gf rfl rfl rfl rfl (fun hg => ok_call cb10 (f10_ok _ _ (q_r20g hg)) ⟨(htO rfl hg), hI, trivial⟩)⟩,
                  ⟨⟨[⟨131, _, some 7⟩, ⟨134, _, some 10⟩, ⟨130, _, some 6⟩], _, rfl, ⟨rfl, rfl, rfl, trivial⟩, rfl, rfl, OpG.gf rfl rfl rfl rfl (fun hg => ok_call cb15 (f15_ok _ _ (q_r21g hg)) ⟨(htO rfl hg), (htO rfl hg), trivial⟩)⟩,
                  ⟨⟨[⟨135, _, some 11⟩, ⟨130, _, some 6⟩], _, rfl, ⟨rfl, rfl, trivial⟩, rfl, rfl, OpG.gf rfl rfl rfl rfl (fun hg => ok_not (htO rfl hg))⟩,
                  ⟨⟨[⟨130, _, some 6⟩, ⟨136, _, some 12⟩], _, rfl, ⟨rfl, rfl, trivial⟩, rfl, rfl, OpG.plain rfl (ok_pickOrM (ht rfl) (fun hb => (htO rfl (noti hb))) (fun hb => (h1t4 hb).2) h0t4)⟩,
                  trivial⟩⟩⟩⟩⟩⟩⟩⟩⟩⟩⟩⟩⟩⟩ ?_
                refine AT.next ?_
                refine CG.cond (ht rfl) (fun hc => ?_) (fun hc => ?_)
                · have h := ct h hc
                  refine CG.seq ?_
                  refine CG.region ?_
                  refine RG.op (ok_assign hB) rfl ?_
                  refine RG.nil ?_
                  refine AT.next ?_
                  refine CG.ret ?_
                  refine AT.in_ret (AT.then_ret (AT.then_ret (AT.in_ret (AT.then_ret ?_))))
                  refine AT.drop ?_
                  refine AT.drop ?_
                  cases so h
                  exact AT.ret1 rfl rfl
                · have h := cf h hc
                  refine CG.skip ?_
                  refine AT.in_normal ?_
                  refine AT.next ?_
                  refine CG.region ?_
                  refine RG.op (ok_incN (dropL hx hN) (ht rfl) hI) rfl ?_
                  refine RG.op (ok_move (ht rfl)) rfl ?_
                  refine RG.nil ?_
                  refine AT.drop ?_
                  refine AT.drop ?_
                  exact AT.round (LG.sub (ih (i + 1)  ⟨dropS hx, h⟩) ⟨rfl, rfl, rfl, rfl, rfl, rfl, trivial⟩)
              · obtain ⟨hx1, h⟩ := h
                refine LG.unfold ?_
                refine CG.seq ?_
                refine CG.region ?_
                refine RG.op (ok_lss (ht rfl) (ht rfl)) rfl ?_
                refine RG.nil ?_
                refine AT.next ?_
                refine CG.seq ?_
                refine CG.condT (ht rfl) (dropT hx1) ?_
                refine CG.skip ?_
                refine AT.next ?_
                refine CG.seq ?_
                refine CG.block ?_
                refine CG.seq ?_
                refine CG.region ?_
                refine RG.op (ok_move (ht rfl)) rfl ?_
                refine RG.op (ok_assign (ht rfl)) rfl ?_
                refine RG.nil ?_
                refine AT.next ?_
                refine CG.region ?_
                refine RG.op (ok_fieldAddrC (n := 0) fd24_0 rfl (ht rfl) rfl) rfl ?_
                refine RG.op (ok_loadFV ti22 flOExpr_0_0 (.head _) rfl (ht rfl)) rfl ?_
                refine RG.op (ok_move (ht rfl)) rfl ?_
                obtain ⟨e5, q_e5, h⟩ := bs h
                refine RG.op (ok_indexAddrO Tryz.underlying22 ti42 (.tail _ (.head _)) (ht rfl) (ht rfl) q_e5) rfl ?_
                refine RG.op (ok_fieldAddrF (o := (i2 : Int).toNat * 8 + 0) (n := (i2 : Int).toNat * 8 + 0) fd42_0 rfl (.tail _ (.head _)) q_e5 (ht rfl) rfl) rfl ?_
                refine RG.front1 ?_
                obtain ⟨st, q_st, h⟩ := bs h
                refine RG.storeE ti3 rfl sfDENode_0 rfl q_e5 (so q_st) (ht rfl) hI ?_
                refine RG.relen2 (set_len (so q_st)) 119 rfl ?_
                refine RG.castO (O' := [arr rpDENode 42 l c st, bx rpOExpr_0 24 b4 (mkOExpr_0 b5 (oslV l c st.length))]) (by rw [set_len (so q_st)]) ?_
                refine RG.nil ?_
                refine AT.in_normal ?_
                refine AT.next ?_
                refine CG.region ?_
                refine RG.op (ok_incN (dropL hx1 hN1) (ht rfl) hI) rfl ?_
                refine RG.op (ok_move (ht rfl)) rfl ?_
                refine RG.nil ?_
                refine AT.front1 ?_
                exact AT.round (LG.sub (ih1 (i2 + 1) ({ b5 with Nodes := st } : DExpr) l c ⟨dropS hx1, h⟩) ⟨rfl, rfl, rfl, rfl, rfl, rfl, rfl, rfl, rfl, trivial⟩)

end Go.Proofs.YtdhledkpgaeoaaaGreatDoor

