/- Facts of this claim: P5. -/
import Derived.Test.YtbhkincjkpeaoaaDoT
import Derived.Test.YtbhkincjkpeaoaaDoP4
namespace Go.Proofs.Ytbhkincjkpeaoaa
open Go

set_option maxRecDepth 100000 in
theorem f20_ok (n : DLNode) (l : (List DLogic)) {R : DLogic × Int} (h : logic_laid n l = some R) : Spec Try.prog 20 [tD rpDLNode n, tD (rSl rpDLogic) l] (tT [tD rpDLogic R.1, tD (rI .i64) R.2]) := by
  refine Spec.of Try.func20 rfl rfl rfl fun w0 S0 => ?_
  refine CG.seq ?_
  refine CG.region ?_
  refine RG.boxO (ht rfl) rfl (fun b => ?_)
  refine RG.alloc (r := rpDLogic) (x := (⟨[]⟩ : DLogic)) ti24 (fun _ => zrDLogic _) rfl (fun b1 => ?_)
  refine RG.op (ok_assign hI) rfl ?_
  refine RG.nil ?_
  refine AT.next ?_
  refine CG.seq ?_
  refine CG.region ?_
  refine RG.op (ok_fieldAddrC (n := 1) fd33_1 rfl (ht rfl) rfl) rfl ?_
  refine RG.front1 ?_
  refine RG.storeB ti3 rfl sfDLNode_1 rfl (ht rfl) hI ?_
  refine RG.op (ok_fieldAddrC (n := 2) fd33_2 rfl (ht rfl) rfl) rfl ?_
  refine RG.storeB ti3 rfl sfDLNode_2 rfl (ht rfl) hI ?_
  refine RG.nil ?_
  refine AT.next ?_
  refine CG.seq ?_
  refine CG.region ?_
  refine RG.fresh true rpDLNode 33 ?_
  refine RG.alloc (r := rpOLogic_0) (x := mkOLogic_0 (⟨[]⟩ : DLogic) (oslV none 0 (([] : List DLNode).length))) ti24 zrOLogic_0 rfl (fun b2 => ?_)
  refine RG.nil ?_
  refine AT.next ?_
  refine CG.seq ?_
  refine CG.seq ?_
  refine CG.region ?_
  refine RG.op (ok_move (ht rfl)) rfl ?_
  refine RG.op (ok_lenSl Try.underlying74 (ht rfl)) rfl ?_
  refine RG.op (ok_move hI) rfl ?_
  refine RG.nil ?_
  refine AT.next ?_
  refine CG.block ?_
  refine CG.have_len (k := 18) rfl (fun hN => ?_)
  refine CG.loop ?_
  refine LG.front1 ?_
  refine LG.front1 ?_
  refine LG.front3 ?_
  refine LG.front3 ?_
  refine LG.sub (LG.list6 (Z := fun ls i n1 x out l1 c => (l.drop i = ls) ∧ logic_laid_l1 ls i n1 x out = some R) (Of := fun _ i n1 x out l1 c => [bx rpDLNode 33 b n1, bx rpDLogic 24 b1 x, bx rpOLogic_0 24 b2 (mkOLogic_0 out (oslV l1 c out.Nodes.length)), tip rpDLNode 33 l1 c out.Nodes]) (Gf := fun _ i n1 x out l1 c => [(2, tV (bptr b 0)), (4, tV (bptr b1 0)), (6, tV (bptr b2 0)), (18, tD (rSl rpDLogic) l), (19, tD (rI .i64) (l.length : Int)), (20, tD (rI .i64) (i : Int))]) (fun i n1 x out l1 c h => ?_) (fun e tl ih i n1 x out l1 c h => ?_) l 0 (DLNode.mk n.Op (-1 : Int) (-1 : Int) n.Table n.Kinds n.Left n.Cond n.Keys n.Aggs n.Items n.Order n.Limit) (⟨[]⟩ : DLogic) ({ (⟨[]⟩ : DLogic) with Nodes := ([] : List DLNode) } : DLogic) none 0 ⟨rfl, h⟩) ⟨rfl, rfl, rfl, rfl, rfl, rfl, trivial⟩
  · obtain ⟨hx, h⟩ := h
    refine LG.unfold ?_
    refine CG.seq ?_
    refine CG.region ?_
    refine RG.op (ok_lss (ht rfl) (ht rfl)) rfl ?_
    refine RG.nil ?_
    refine AT.next ?_
    refine CG.seq ?_
    refine CG.condF (ht rfl) (dropF hx) ?_
    refine CG.exit ?_
    refine AT.then_exit (AT.then_exit (AT.in_exit ?_))
    refine AT.next ?_
    refine CG.seq ?_
    obtain ⟨r, q_r, h⟩ := bs h
    refine CG.drawM 5 (ts := [tV (bptr b2 0), tO rpDLNode l1 c out.Nodes, tD rpDLNode n1, tD rpDLNode r, tD (rSl rpDLNode) ([r])]) mixed rfl rfl rfl
      ⟨⟨[⟨6, _, none⟩], _, rfl, ⟨rfl, trivial⟩, rfl, rfl, OpG.plain rfl (ok_fieldAddrC (n := 0) fd24_0 rfl (ht rfl) rfl)⟩,
      ⟨⟨[⟨66, _, some 0⟩], _, rfl, ⟨rfl, trivial⟩, rfl, rfl, OpG.plain rfl (ok_loadFT ti22 flOLogic_0_0 (.tail _ (.tail _ (.head _))) (.tail _ (.tail _ (.tail _ (.head _)))) rfl (ht rfl))⟩,
      ⟨⟨[⟨2, _, none⟩], _, rfl, ⟨rfl, trivial⟩, rfl, rfl, OpG.plain rfl (ok_loadB ti33 rfl rfl fld_whole (.head _) (ht rfl))⟩,
      ⟨⟨[⟨68, _, some 2⟩], _, rfl, ⟨rfl, trivial⟩, rfl, rfl, OpG.plain rfl (ok_call cb30 (f30_ok _ _ q_r) ⟨(ht rfl), hI, trivial⟩)⟩,
      ⟨⟨[⟨69, _, some 3⟩], _, rfl, ⟨rfl, trivial⟩, rfl, rfl, OpG.plain rfl (ok_buildSlice (r := rpDLNode) (ys := [r]) (xs := [.tmp 69]) Try.underlying22 ti33 rfl rfl rfl rfl rfl ⟨(ht rfl), trivial⟩)⟩,
      trivial⟩⟩⟩⟩⟩ ?_
    refine RG.front3 ?_
    obtain ⟨l2, q_l2, h⟩ := bs h
    refine RG.appendT ti33 rfl rfl rfl rfl Try.underlying22 rfl rfl (ht rfl) (ht rfl) q_l2 (fun l3 c1 => ?_)
    refine RG.op (ok_fieldAddrC (n := 0) fd24_0 rfl (ht rfl) rfl) rfl ?_
    refine RG.front3 ?_
    refine RG.storeFX ti22 rfl (sxOLogic_0_to_0_at_0 _ _ _) rfl (ht rfl) (hRV (tO_v (ht rfl))) ?_
    refine RG.nil ?_
    refine AT.next ?_
    refine CG.seq ?_
    refine CG.seq ?_
    refine CG.region ?_
    refine RG.front1 ?_
    refine RG.op (ok_loadObj (q := rpDLogic) (y := ({ out with Nodes := l2 } : DLogic)) ti24 rfl rfl rfl rfl (.tail _ (.head _)) (fun _ _ _ ho h => cvOLogic_0_to_D (own_tip ho (.head _)) h) (ht rfl)) rfl ?_
    obtain ⟨r1, q_r1, h⟩ := bs h
    refine RG.op (ok_call cb21 (f21_ok _ q_r1) ⟨(ht rfl), trivial⟩) rfl ?_
    refine RG.op (ok_move (ht rfl)) rfl ?_
    refine RG.op (ok_extract rfl (ht rfl)) rfl ?_
    refine RG.op (ok_extract rfl (ht rfl)) rfl ?_
    refine RG.op (ok_assign (ht rfl)) rfl ?_
    refine RG.op (ok_assign (ht rfl)) rfl ?_
    refine RG.nil ?_
    refine AT.next ?_
    refine CG.seq ?_
    refine CG.region ?_
    refine RG.op (ok_move (ht rfl)) rfl ?_
    refine RG.op (ok_neqI (ht rfl) hI) rfl ?_
    refine RG.nil ?_
    refine AT.next ?_
    refine CG.cond (ht rfl) (fun hc => ?_) (fun hc => ?_)
    · have h := ct h hc
      refine CG.seq ?_
      refine CG.region ?_
      refine RG.op (ok_build (y := (⟨[]⟩ : DLogic)) ti24 fs24 zrDLogic (rfl)) rfl ?_
      refine RG.op (ok_move (ht rfl)) rfl ?_
      refine RG.front3 ?_
      refine RG.storeB ti24 rfl sfld_whole rfl (ht rfl) (ht rfl) ?_
      refine RG.op (ok_assign (ht rfl)) rfl ?_
      refine RG.nil ?_
      refine AT.next ?_
      refine CG.ret ?_
      refine AT.then_ret ?_
      refine AT.settleB 4 rfl ?_
      refine AT.drop ?_
      refine AT.drop ?_
      refine AT.drop ?_
      cases so h
      exact AT.retL (rvs := [.cell 4 24, .tmp 5]) rfl rfl ⟨res_cell ti24 rfl rfl rfl, res_tmp rfl, trivial⟩
    · have h := cf h hc
      refine CG.skip ?_
      refine AT.next ?_
      refine CG.seq ?_
      refine CG.region ?_
      refine RG.op (ok_loadObj (q := rpDLogic) (y := ({ out with Nodes := l2 } : DLogic)) ti24 rfl rfl rfl rfl (.tail _ (.head _)) (fun _ _ _ ho h => cvOLogic_0_to_D (own_tip ho (.head _)) h) (ht rfl)) rfl ?_
      refine RG.front3 ?_
      refine RG.storeB ti24 rfl sfld_whole rfl (ht rfl) (ht rfl) ?_
      refine RG.op (ok_assign hI) rfl ?_
      refine RG.nil ?_
      refine AT.next ?_
      refine CG.ret ?_
      refine AT.settleB 4 rfl ?_
      refine AT.drop ?_
      refine AT.drop ?_
      refine AT.drop ?_
      cases so h
      exact AT.retL (rvs := [.cell 4 24, .tmp 5]) rfl rfl ⟨res_cell ti24 rfl rfl rfl, res_tmp rfl, trivial⟩
  · obtain ⟨hx, h⟩ := h
    refine LG.unfold ?_
    refine CG.seq ?_
    refine CG.region ?_
    refine RG.op (ok_lss (ht rfl) (ht rfl)) rfl ?_
    refine RG.nil ?_
    refine AT.next ?_
    refine CG.seq ?_
    refine CG.condT (ht rfl) (dropT hx) ?_
    refine CG.skip ?_
    refine AT.next ?_
    refine CG.seq ?_
    refine CG.block ?_
    refine CG.seq ?_
    refine CG.region ?_
    refine RG.op (ok_move (ht rfl)) rfl ?_
    refine RG.op (ok_indexAddr Try.underlying74 ti24 rfl (ht rfl) (ht rfl) (dropI hx)) rfl ?_
    refine RG.op (ok_load ti24 rfl rfl (ht rfl)) rfl ?_
    refine RG.alloc (r := rpDLogic) (x := (⟨[]⟩ : DLogic)) ti24 (fun _ => zrDLogic _) rfl (fun b3 => ?_)
    refine RG.op (ok_assign (ht rfl)) rfl ?_
    refine RG.storeB ti24 rfl sfld_whole rfl (ht rfl) (ht rfl) ?_
    refine RG.settleB 8 rfl ?_
    refine RG.nil ?_
    refine AT.next ?_
    refine CG.seq ?_
    refine CG.seq ?_
    refine CG.region ?_
    refine RG.op (ok_load ti24 rfl rfl (ht rfl)) rfl ?_
    obtain ⟨r2, q_r2, h⟩ := bs h
    refine RG.op (ok_call cb21 (f21_ok _ q_r2) ⟨(ht rfl), trivial⟩) rfl ?_
    refine RG.op (ok_move (ht rfl)) rfl ?_
    refine RG.op (ok_extract rfl (ht rfl)) rfl ?_
    refine RG.op (ok_extract rfl (ht rfl)) rfl ?_
    refine RG.op (ok_assign (ht rfl)) rfl ?_
    refine RG.op (ok_assign (ht rfl)) rfl ?_
    refine RG.nil ?_
    refine AT.next ?_
    refine CG.seq ?_
    refine CG.region ?_
    refine RG.op (ok_move (ht rfl)) rfl ?_
    refine RG.op (ok_neqI (ht rfl) hI) rfl ?_
    refine RG.nil ?_
    refine AT.next ?_
    refine CG.cond (ht rfl) (fun hc => ?_) (fun hc => ?_)
    · have h := ct h hc
      refine CG.seq ?_
      refine CG.region ?_
      refine RG.op (ok_build (y := (⟨[]⟩ : DLogic)) ti24 fs24 zrDLogic (rfl)) rfl ?_
      refine RG.op (ok_move (ht rfl)) rfl ?_
      refine RG.front1 ?_
      refine RG.storeB ti24 rfl sfld_whole rfl (ht rfl) (ht rfl) ?_
      refine RG.op (ok_assign (ht rfl)) rfl ?_
      refine RG.nil ?_
      refine AT.next ?_
      refine CG.ret ?_
      refine AT.then_ret (AT.in_ret (AT.then_ret (AT.then_ret (AT.in_ret (AT.then_ret ?_)))))
      refine AT.settleB 4 rfl ?_
      refine AT.drop ?_
      refine AT.drop ?_
      refine AT.drop ?_
      cases so h
      exact AT.retL (rvs := [.cell 4 24, .tmp 5]) rfl rfl ⟨res_cell ti24 rfl rfl rfl, res_tmp rfl, trivial⟩
    · have h := cf h hc
      refine CG.skip ?_
      refine AT.next ?_
      refine CG.seq ?_
      refine CG.region ?_
      refine RG.op (ok_fieldAddrC (n := 0) fd24_0 rfl (ht rfl) rfl) rfl ?_
      refine RG.op (ok_loadFT ti22 flOLogic_0_0 (.tail _ (.tail _ (.head _))) (.tail _ (.tail _ (.tail _ (.head _)))) rfl (ht rfl)) rfl ?_
      refine RG.op (ok_lenSl Try.underlying22 (tO_d (ht rfl))) rfl ?_
      refine RG.op (ok_assign (ht rfl)) rfl ?_
      refine RG.nil ?_
      refine AT.next ?_
      refine CG.seq ?_
      refine CG.seq ?_
      refine CG.region ?_
      refine RG.op (ok_fieldAddr fd24_0 rfl flDLogic_0 rfl (ht rfl)) rfl ?_
      refine RG.op (ok_load ti22 rfl rfl (ht rfl)) rfl ?_
      refine RG.op (ok_lenSl Try.underlying22 (ht rfl)) rfl ?_
      refine RG.op (ok_move hI) rfl ?_
      refine RG.nil ?_
      refine AT.next ?_
      refine CG.block ?_
      refine CG.have_len (k := 38) rfl (fun hN1 => ?_)
      refine CG.loop ?_
      refine LG.sub (LG.list4 (Z := fun ls1 i1 out1 l4 c2 => (e.Nodes.drop i1 = ls1) ∧ logic_laid_l2 (logic_laid_l1 tl) i n1 x out ls1 out1 = some R) (Of := fun _ i1 out1 l4 c2 => [bx rpDLNode 33 b n1, bx rpDLogic 24 b1 x, bx rpOLogic_0 24 b2 (mkOLogic_0 out1 (oslV l4 c2 out1.Nodes.length)), tip rpDLNode 33 l4 c2 out1.Nodes]) (Gf := fun _ i1 out1 l4 c2 => [(2, tV (bptr b 0)), (4, tV (bptr b1 0)), (6, tV (bptr b2 0)), (7, tD (rI .i64) (i : Int)), (11, tD (rI .i64) (out.Nodes.length : Int)), (18, tD (rSl rpDLogic) l), (19, tD (rI .i64) (l.length : Int)), (20, tD (rI .i64) (i : Int)), (38, tD (rSl rpDLNode) e.Nodes), (39, tD (rI .i64) (e.Nodes.length : Int)), (40, tD (rI .i64) (i1 : Int))]) (fun i1 out1 l4 c2 h => ?_) (fun e1 tl1 ih1 i1 out1 l4 c2 h => ?_) e.Nodes 0 out l1 c ⟨rfl, h⟩) ⟨rfl, rfl, rfl, rfl, rfl, rfl, rfl, rfl, rfl, rfl, rfl, trivial⟩
      · obtain ⟨hx1, h⟩ := h
        refine LG.unfold ?_
        refine CG.seq ?_
        refine CG.region ?_
        refine RG.op (ok_lss (ht rfl) (ht rfl)) rfl ?_
        refine RG.nil ?_
        refine AT.next ?_
        refine CG.seq ?_
        refine CG.condF (ht rfl) (dropF hx1) ?_
        refine CG.exit ?_
        refine AT.then_exit (AT.then_exit (AT.in_exit ?_))
        refine AT.next ?_
        refine CG.seq ?_
        refine CG.region ?_
        refine RG.op (ok_move (ht rfl)) rfl ?_
        refine RG.op (ok_eqlI (ht rfl) hI) rfl ?_
        refine RG.nil ?_
        refine AT.next ?_
        refine CG.cond (ht rfl) (fun hc => ?_) (fun hc => ?_)
        · have h := ct h hc
          refine CG.region ?_
          refine RG.op (ok_fieldAddrC (n := 0) fd24_0 rfl (ht rfl) rfl) rfl ?_
          refine RG.op (ok_loadFT ti22 flOLogic_0_0 (.tail _ (.tail _ (.head _))) (.tail _ (.tail _ (.tail _ (.head _)))) rfl (ht rfl)) rfl ?_
          refine RG.op (ok_lenSl Try.underlying22 (tO_d (ht rfl))) rfl ?_
          refine RG.op (ok_sub (ht rfl) hI) rfl ?_
          refine RG.op (ok_fieldAddrC (n := 1) fd33_1 rfl (ht rfl) rfl) rfl ?_
          refine RG.storeB ti3 rfl sfDLNode_1 rfl (ht rfl) (ht rfl) ?_
          refine RG.nil ?_
          refine AT.in_normal ?_
          refine AT.next ?_
          refine CG.region ?_
          refine RG.op (ok_incN (dropL hx hN) (ht rfl) hI) rfl ?_
          refine RG.op (ok_move (ht rfl)) rfl ?_
          refine RG.nil ?_
          exact AT.round (LG.sub (ih (i + 1) (DLNode.mk n1.Op (IntKind.i64.wrap ((out1.Nodes.length : Int) - (1 : Int))) n1.B n1.Table n1.Kinds n1.Left n1.Cond n1.Keys n1.Aggs n1.Items n1.Order n1.Limit) x out1 l4 c2 ⟨dropS hx, h⟩) ⟨rfl, rfl, rfl, rfl, rfl, rfl, trivial⟩)
        · have h := cf h hc
          refine CG.region ?_
          refine RG.op (ok_fieldAddrC (n := 0) fd24_0 rfl (ht rfl) rfl) rfl ?_
          refine RG.op (ok_loadFT ti22 flOLogic_0_0 (.tail _ (.tail _ (.head _))) (.tail _ (.tail _ (.tail _ (.head _)))) rfl (ht rfl)) rfl ?_
          refine RG.op (ok_lenSl Try.underlying22 (tO_d (ht rfl))) rfl ?_
          refine RG.op (ok_sub (ht rfl) hI) rfl ?_
          refine RG.op (ok_fieldAddrC (n := 2) fd33_2 rfl (ht rfl) rfl) rfl ?_
          refine RG.storeB ti3 rfl sfDLNode_2 rfl (ht rfl) (ht rfl) ?_
          refine RG.nil ?_
          refine AT.in_normal ?_
          refine AT.next ?_
          refine CG.region ?_
          refine RG.op (ok_incN (dropL hx hN) (ht rfl) hI) rfl ?_
          refine RG.op (ok_move (ht rfl)) rfl ?_
          refine RG.nil ?_
          exact AT.round (LG.sub (ih (i + 1) (DLNode.mk n1.Op n1.A (IntKind.i64.wrap ((out1.Nodes.length : Int) - (1 : Int))) n1.Table n1.Kinds n1.Left n1.Cond n1.Keys n1.Aggs n1.Items n1.Order n1.Limit) x out1 l4 c2 ⟨dropS hx, h⟩) ⟨rfl, rfl, rfl, rfl, rfl, rfl, trivial⟩)
      · obtain ⟨hx1, h⟩ := h
        refine LG.unfold ?_
        refine CG.seq ?_
        refine CG.region ?_
        refine RG.op (ok_lss (ht rfl) (ht rfl)) rfl ?_
        refine RG.nil ?_
        refine AT.next ?_
        refine CG.seq ?_
        refine CG.condT (ht rfl) (dropT hx1) ?_
        refine CG.skip ?_
        refine AT.next ?_
        refine CG.seq ?_
        refine CG.block ?_
        refine CG.seq ?_
        refine CG.region ?_
        refine RG.op (ok_indexAddr Try.underlying22 ti33 rfl (ht rfl) (ht rfl) (dropI hx1)) rfl ?_
        refine RG.op (ok_load ti33 rfl rfl (ht rfl)) rfl ?_
        refine RG.alloc (r := rpDLNode) (x := (⟨(0 : Int), (0 : Int), (0 : Int), (0 : Int), [], false, (⟨[]⟩ : DExpr), [], [], [], [], (0 : Int)⟩ : DLNode)) ti33 (fun _ => zrDLNode _) rfl (fun b4 => ?_)
        refine RG.storeB ti33 rfl sfld_whole rfl (ht rfl) (ht rfl) ?_
        refine RG.settleB 13 rfl ?_
        refine RG.nil ?_
        refine AT.next ?_
        obtain ⟨r3, q_r3, h⟩ := bs h
        refine CG.drawM 6 (ts := [tV (bptr b2 0), tO rpDLNode l4 c2 out1.Nodes, tD rpDLNode e1, tD (rI .i64) (out.Nodes.length : Int), tD rpDLNode r3, tD (rSl rpDLNode) ([r3])]) mixed rfl rfl rfl
          ⟨⟨[⟨6, _, none⟩], _, rfl, ⟨rfl, trivial⟩, rfl, rfl, OpG.plain rfl (ok_fieldAddrC (n := 0) fd24_0 rfl (ht rfl) rfl)⟩,
          ⟨⟨[⟨44, _, some 0⟩], _, rfl, ⟨rfl, trivial⟩, rfl, rfl, OpG.plain rfl (ok_loadFT ti22 flOLogic_0_0 (.tail _ (.tail _ (.head _))) (.tail _ (.tail _ (.tail _ (.head _)))) rfl (ht rfl))⟩,
          ⟨⟨[⟨13, _, none⟩], _, rfl, ⟨rfl, trivial⟩, rfl, rfl, OpG.plain rfl (ok_load ti33 rfl rfl (ht rfl))⟩,
          ⟨⟨[⟨11, _, none⟩], _, rfl, ⟨rfl, trivial⟩, rfl, rfl, OpG.plain rfl (ok_move (ht rfl))⟩,
          ⟨⟨[⟨46, _, some 2⟩, ⟨47, _, some 3⟩], _, rfl, ⟨rfl, rfl, trivial⟩, rfl, rfl, OpG.plain rfl (ok_call cb30 (f30_ok _ _ q_r3) ⟨(ht rfl), (ht rfl), trivial⟩)⟩,
          ⟨⟨[⟨48, _, some 4⟩], _, rfl, ⟨rfl, trivial⟩, rfl, rfl, OpG.plain rfl (ok_buildSlice (r := rpDLNode) (ys := [r3]) (xs := [.tmp 48]) Try.underlying22 ti33 rfl rfl rfl rfl rfl ⟨(ht rfl), trivial⟩)⟩,
          trivial⟩⟩⟩⟩⟩⟩ ?_
        refine RG.front3 ?_
        obtain ⟨l5, q_l5, h⟩ := bs h
        refine RG.appendT ti33 rfl rfl rfl rfl Try.underlying22 rfl rfl (ht rfl) (ht rfl) q_l5 (fun l6 c3 => ?_)
        refine RG.op (ok_fieldAddrC (n := 0) fd24_0 rfl (ht rfl) rfl) rfl ?_
        refine RG.front3 ?_
        refine RG.storeFX ti22 rfl (sxOLogic_0_to_0_at_0 _ _ _) rfl (ht rfl) (hRV (tO_v (ht rfl))) ?_
        refine RG.nil ?_
        refine AT.in_normal ?_
        refine AT.next ?_
        refine CG.region ?_
        refine RG.op (ok_incN (dropL hx1 hN1) (ht rfl) hI) rfl ?_
        refine RG.op (ok_move (ht rfl)) rfl ?_
        refine RG.nil ?_
        refine AT.front1 ?_
        refine AT.front1 ?_
        refine AT.front3 ?_
        refine AT.front3 ?_
        exact AT.round (LG.sub (ih1 (i1 + 1) ({ out1 with Nodes := l5 } : DLogic) l6 c3 ⟨dropS hx1, h⟩) ⟨rfl, rfl, rfl, rfl, rfl, rfl, rfl, rfl, rfl, rfl, rfl, trivial⟩)

set_option maxRecDepth 100000 in
theorem f10_ok (n : DLNode) (a1 : DLogic) (b : DLogic) {R : DLogic × Int} (h : logic_Two n a1 b = some R) : Spec Try.prog 10 [tD rpDLNode n, tD rpDLogic a1, tD rpDLogic b] (tT [tD rpDLogic R.1, tD (rI .i64) R.2]) := by
  refine Spec.of Try.func10 rfl rfl rfl fun w0 S0 => ?_
  refine CG.seq ?_
  refine CG.region ?_
  refine RG.op (ok_box (ht rfl)) rfl ?_
  refine RG.op (ok_box (ht rfl)) rfl ?_
  refine RG.op (ok_box (ht rfl)) rfl ?_
  refine RG.alloc (r := rpDLogic) (x := (⟨[]⟩ : DLogic)) ti24 (fun _ => zrDLogic _) rfl (fun b1 => ?_)
  refine RG.op (ok_assign hI) rfl ?_
  refine RG.nil ?_
  refine AT.next ?_
  refine CG.seq ?_
  refine CG.region ?_
  refine RG.op (ok_load ti33 rfl rfl (ht rfl)) rfl ?_
  refine RG.op (ok_load ti24 rfl rfl (ht rfl)) rfl ?_
  refine RG.op (ok_load ti24 rfl rfl (ht rfl)) rfl ?_
  refine RG.op (ok_buildSlice (r := rpDLogic) (ys := [a1, b]) (xs := [.tmp 9, .tmp 10]) Try.underlying74 ti24 rfl rfl rfl rfl rfl ⟨(ht rfl), (ht rfl), trivial⟩) rfl ?_
  obtain ⟨r, q_r, h⟩ := bs h
  refine RG.op (ok_call cb20 (f20_ok _ _ q_r) ⟨(ht rfl), (ht rfl), trivial⟩) rfl ?_
  refine RG.op (ok_extract rfl (ht rfl)) rfl ?_
  refine RG.op (ok_extract rfl (ht rfl)) rfl ?_
  refine RG.storeB ti24 rfl sfld_whole rfl (ht rfl) (ht rfl) ?_
  refine RG.settleB 6 rfl ?_
  refine RG.op (ok_assign (ht rfl)) rfl ?_
  refine RG.nil ?_
  refine AT.next ?_
  refine CG.ret ?_
  cases so h
  exact AT.retL (rvs := [.cell 6 24, .tmp 7]) rfl rfl ⟨res_cell ti24 rfl rfl rfl, res_tmp rfl, trivial⟩

set_option maxRecDepth 100000 in
theorem f11_ok {R : DExpr} (h : law13_yes = some R) : Spec Try.prog 11 [] (tD rpDExpr R) := by
  refine Spec.of Try.func11 rfl rfl rfl fun w0 S0 => ?_
  refine CG.seq ?_
  refine CG.region ?_
  refine RG.alloc (r := rpDExpr) (x := (⟨[]⟩ : DExpr)) ti28 (fun _ => zrDExpr _) rfl (fun b => ?_)
  refine RG.nil ?_
  refine AT.next ?_
  refine CG.seq ?_
  refine CG.region ?_
  refine RG.op (ok_build (y := (⟨(1 : Int), (1 : Int), (0 : Int), []⟩ : DValue)) ti62 fs62 zrDValue (⟨_, _, _, _, _, rfl, sfDValue_0, rfl, hI, ⟨_, _, _, _, _, rfl, sfDValue_1, rfl, hI, rfl⟩⟩)) rfl ?_
  refine RG.op (ok_build (y := (⟨(1 : Int), (-1 : Int), (-1 : Int), (0 : Int), (⟨(1 : Int), (1 : Int), (0 : Int), []⟩ : DValue)⟩ : DENode)) ti64 fs64 zrDENode (⟨_, _, _, _, _, rfl, sfDENode_0, rfl, hI, ⟨_, _, _, _, _, rfl, sfDENode_1, rfl, hI, ⟨_, _, _, _, _, rfl, sfDENode_2, rfl, hI, ⟨_, _, _, _, _, rfl, sfDENode_4, rfl, (ht rfl), rfl⟩⟩⟩⟩)) rfl ?_
  refine RG.op (ok_buildSlice (r := rpDENode) (ys := [(⟨(1 : Int), (-1 : Int), (-1 : Int), (0 : Int), (⟨(1 : Int), (1 : Int), (0 : Int), []⟩ : DValue)⟩ : DENode)]) (xs := [.tmp 2]) Try.underlying26 ti64 rfl rfl rfl rfl rfl ⟨(ht rfl), trivial⟩) rfl ?_
  refine RG.op (ok_build (y := (⟨[(⟨(1 : Int), (-1 : Int), (-1 : Int), (0 : Int), (⟨(1 : Int), (1 : Int), (0 : Int), []⟩ : DValue)⟩ : DENode)]⟩ : DExpr)) ti28 fs28 zrDExpr (⟨_, _, _, _, _, rfl, sfDExpr_0, rfl, (ht rfl), rfl⟩)) rfl ?_
  refine RG.storeB ti28 rfl sfld_whole rfl (ht rfl) (ht rfl) ?_
  refine RG.settleB 0 rfl ?_
  refine RG.nil ?_
  refine AT.next ?_
  refine CG.ret ?_
  cases so h
  exact AT.ret1c rfl ti28 rfl rfl rfl

set_option maxRecDepth 100000 in
theorem f15_ok (n : DLNode) {R : DLogic × Int} (h : logic_Leaf n = some R) : Spec Try.prog 15 [tD rpDLNode n] (tT [tD rpDLogic R.1, tD (rI .i64) R.2]) := by
  refine Spec.of Try.func15 rfl rfl rfl fun w0 S0 => ?_
  refine CG.seq ?_
  refine CG.region ?_
  refine RG.op (ok_box (ht rfl)) rfl ?_
  refine RG.alloc (r := rpDLogic) (x := (⟨[]⟩ : DLogic)) ti24 (fun _ => zrDLogic _) rfl (fun b => ?_)
  refine RG.op (ok_assign hI) rfl ?_
  refine RG.nil ?_
  refine AT.next ?_
  refine CG.seq ?_
  refine CG.region ?_
  refine RG.op (ok_load ti33 rfl rfl (ht rfl)) rfl ?_
  obtain ⟨r, q_r, h⟩ := bs h
  refine RG.op (ok_call cb20 (f20_ok _ _ q_r) ⟨(ht rfl), hNil, trivial⟩) rfl ?_
  refine RG.op (ok_extract rfl (ht rfl)) rfl ?_
  refine RG.op (ok_extract rfl (ht rfl)) rfl ?_
  refine RG.storeB ti24 rfl sfld_whole rfl (ht rfl) (ht rfl) ?_
  refine RG.settleB 2 rfl ?_
  refine RG.op (ok_assign (ht rfl)) rfl ?_
  refine RG.nil ?_
  refine AT.next ?_
  refine CG.ret ?_
  cases so h
  exact AT.retL (rvs := [.cell 2 24, .tmp 3]) rfl rfl ⟨res_cell ti24 rfl rfl rfl, res_tmp rfl, trivial⟩

set_option maxRecDepth 100000 in
theorem f16_ok {R : DLNode} (h : law13_t = some R) : Spec Try.prog 16 [] (tD rpDLNode R) := by
  refine Spec.of Try.func16 rfl rfl rfl fun w0 S0 => ?_
  refine CG.seq ?_
  refine CG.region ?_
  refine RG.alloc (r := rpDLNode) (x := (⟨(0 : Int), (0 : Int), (0 : Int), (0 : Int), [], false, (⟨[]⟩ : DExpr), [], [], [], [], (0 : Int)⟩ : DLNode)) ti33 (fun _ => zrDLNode _) rfl (fun b => ?_)
  refine RG.nil ?_
  refine AT.next ?_
  refine CG.seq ?_
  refine CG.region ?_
  refine RG.op (ok_buildSlice (r := (rI .i64)) (ys := [(2 : Int), (3 : Int)]) (xs := [.const (.int .i64 (2)), .const (.int .i64 (3))]) Try.underlying25 ti3 rfl rfl rfl rfl rfl ⟨hI, hI, trivial⟩) rfl ?_
  refine RG.op (ok_build (y := (⟨(1 : Int), (0 : Int), (0 : Int), (0 : Int), [(2 : Int), (3 : Int)], false, (⟨[]⟩ : DExpr), [], [], [], [], (0 : Int)⟩ : DLNode)) ti33 fs33 zrDLNode (⟨_, _, _, _, _, rfl, sfDLNode_0, rfl, hI, ⟨_, _, _, _, _, rfl, sfDLNode_4, rfl, (ht rfl), rfl⟩⟩)) rfl ?_
  refine RG.storeB ti33 rfl sfld_whole rfl (ht rfl) (ht rfl) ?_
  refine RG.settleB 0 rfl ?_
  refine RG.nil ?_
  refine AT.next ?_
  refine CG.ret ?_
  cases so h
  exact AT.ret1c rfl ti33 rfl rfl rfl

set_option maxRecDepth 100000 in
theorem f5_ok {R : Bool} (h : law13_wakes = some R) : Spec Try.prog 5 [] (tD rB R) := by
  refine Spec.of Try.func5 rfl rfl rfl fun w0 S0 => ?_
  refine CG.seq ?_
  refine CG.region ?_
  refine RG.op (ok_assign hB) rfl ?_
  refine RG.nil ?_
  refine AT.next ?_
  refine CG.seq ?_
  refine CG.region ?_
  obtain ⟨r, q_r, h⟩ := bs h
  refine RG.op (ok_call cb16 (f16_ok  q_r) trivial) rfl ?_
  obtain ⟨r1, q_r1, h⟩ := bs h
  refine RG.op (ok_call cb15 (f15_ok _ q_r1) ⟨(ht rfl), trivial⟩) rfl ?_
  refine RG.op (ok_move (ht rfl)) rfl ?_
  refine RG.op (ok_extract rfl (ht rfl)) rfl ?_
  refine RG.op (ok_extract rfl (ht rfl)) rfl ?_
  refine RG.alloc (r := rpDLogic) (x := (⟨[]⟩ : DLogic)) ti24 (fun _ => zrDLogic _) rfl (fun b => ?_)
  refine RG.storeB ti24 rfl sfld_whole rfl (ht rfl) (ht rfl) ?_
  refine RG.settleB 1 rfl ?_
  refine RG.op (ok_assign (ht rfl)) rfl ?_
  refine RG.nil ?_
  refine AT.next ?_
  refine CG.seq ?_
  obtain ⟨r2, q_r2, h⟩ := bs h
  obtain ⟨r3, q_r3, h⟩ := bs h
  refine CG.drawS 10 [tc (tD rpDExpr r2), tc (tD rpDLNode (⟨(2 : Int), (0 : Int), (0 : Int), (0 : Int), [], false, r2, [], [], [], [], (0 : Int)⟩ : DLNode)), tc (tD rpDLogic r1.1), tc (tD rpDLogic r1.1), tc (tT [tD rpDLogic r3.1, tD (rI .i64) r3.2]), tc (tT [tD rpDLogic r3.1, tD (rI .i64) r3.2]), tc (tD rpDLogic r3.1), tc (tD (rI .i64) r3.2), ([8], fun s => tV (bptr ((s.getD 0 zoi).h 0).2 0)), tc (tAny)] [false, false, false, false, false, false, false, false, true, true] [fun _ => [], fun sg => [bx rpDLogic 24 ((sg 8).h 0).2 (⟨[]⟩ : DLogic)], fun sg => [bx rpDLogic 24 ((sg 8).h 0).2 r3.1]] rfl mixed rfl rfl rfl rfl rfl
    ⟨⟨[], _, 0, 1, rfl, trivial, rfl, rfl, rfl, rfl, rfl, fun _ sg _ _ => OpG.plain rfl (ok_call cb11 (f11_ok  q_r2) trivial)⟩,
    ⟨⟨[⟨13, fun _ => tD rpDExpr r2, some 0⟩], _, 0, 1, rfl, ⟨(fun _ => rfl), trivial⟩, rfl, rfl, rfl, rfl, rfl, fun _ sg _ _ => OpG.plain rfl (ok_build (y := (⟨(2 : Int), (0 : Int), (0 : Int), (0 : Int), [], false, r2, [], [], [], [], (0 : Int)⟩ : DLNode)) ti33 fs33 zrDLNode (⟨_, _, _, _, _, rfl, sfDLNode_0, rfl, hI, ⟨_, _, _, _, _, rfl, sfDLNode_6, rfl, (ht rfl), rfl⟩⟩))⟩,
    ⟨⟨[⟨1, fun _ => tPtr rpDLogic r1.1, none⟩], _, 0, 1, rfl, ⟨(fun _ => rfl), trivial⟩, rfl, rfl, rfl, rfl, rfl, fun _ sg _ _ => OpG.plain rfl (ok_load ti24 rfl rfl (ht rfl))⟩,
    ⟨⟨[⟨1, fun _ => tPtr rpDLogic r1.1, none⟩], _, 0, 1, rfl, ⟨(fun _ => rfl), trivial⟩, rfl, rfl, rfl, rfl, rfl, fun _ sg _ _ => OpG.plain rfl (ok_load ti24 rfl rfl (ht rfl))⟩,
    ⟨⟨[⟨14, fun _ => tD rpDLNode (⟨(2 : Int), (0 : Int), (0 : Int), (0 : Int), [], false, r2, [], [], [], [], (0 : Int)⟩ : DLNode), some 1⟩, ⟨15, fun _ => tD rpDLogic r1.1, some 2⟩, ⟨16, fun _ => tD rpDLogic r1.1, some 3⟩], _, 0, 1, rfl, ⟨(fun _ => rfl), (fun _ => rfl), (fun _ => rfl), trivial⟩, rfl, rfl, rfl, rfl, rfl, fun _ sg _ _ => OpG.plain rfl (ok_call cb10 (f10_ok _ _ _ q_r3) ⟨(ht rfl), (ht rfl), (ht rfl), trivial⟩)⟩,
    ⟨⟨[⟨17, fun _ => tT [tD rpDLogic r3.1, tD (rI .i64) r3.2], some 4⟩], _, 0, 1, rfl, ⟨(fun _ => rfl), trivial⟩, rfl, rfl, rfl, rfl, rfl, fun _ sg _ _ => OpG.plain rfl (ok_move (ht rfl))⟩,
    ⟨⟨[⟨12, fun _ => tT [tD rpDLogic r3.1, tD (rI .i64) r3.2], some 5⟩], _, 0, 1, rfl, ⟨(fun _ => rfl), trivial⟩, rfl, rfl, rfl, rfl, rfl, fun _ sg _ _ => OpG.plain rfl (ok_extract rfl (ht rfl))⟩,
    ⟨⟨[⟨12, fun _ => tT [tD rpDLogic r3.1, tD (rI .i64) r3.2], some 5⟩], _, 0, 2, rfl, ⟨(fun _ => rfl), trivial⟩, rfl, rfl, rfl, rfl, rfl, fun _ sg _ _ => OpG.plain rfl (ok_extract rfl (ht rfl))⟩,
    ⟨⟨[], _, rfl, trivial, rfl, rfl, rfl, fun sg => EffG.plain rfl (eff_alloc (r := rpDLogic) (x := (⟨[]⟩ : DLogic)) ti24 (fun _ => zrDLogic _))⟩,
    ⟨⟨[⟨3, fun sg => tV (bptr ((sg 8).h 0).2 0), some 8⟩, ⟨18, fun _ => tD rpDLogic r3.1, some 6⟩], _, rfl, ⟨(fun _ => rfl), (fun _ => rfl), trivial⟩, rfl, rfl, rfl, fun sg => EffG.plain rfl (eff_storeX ti24 rfl (sfx_of sfld_whole) rfl (ht rfl) (ht rfl))⟩,
    trivial⟩⟩⟩⟩⟩⟩⟩⟩⟩⟩ (fun sg => ?_)
  refine (show RG _ _ _ _ [bx rpDLogic 24 ((sg 8).h 0).2 r3.1] _ from ?_)
  refine RG.settleB 3 rfl ?_
  refine RG.op (ok_assign (ht rfl)) rfl ?_
  refine RG.nil ?_
  refine AT.next ?_
  refine CG.seq ?_
  refine CG.region ?_
  refine RG.op (ok_load ti24 rfl rfl (ht rfl)) rfl ?_
  obtain ⟨r4, q_r4, h⟩ := bs h
  refine RG.op (ok_call cb9 (f9_ok _ q_r4) ⟨(ht rfl), trivial⟩) rfl ?_
  refine RG.op (ok_move (ht rfl)) rfl ?_
  refine RG.op (ok_extract rfl (ht rfl)) rfl ?_
  refine RG.op (ok_extract rfl (ht rfl)) rfl ?_
  refine RG.op (ok_assign (ht rfl)) rfl ?_
  refine RG.op (ok_assign (ht rfl)) rfl ?_
  refine RG.nil ?_
  refine AT.next ?_
  refine CG.seq ?_
  refine CG.region ?_
  refine RG.op (ok_move (ht rfl)) rfl ?_
  refine RG.op (ok_eqlI (ht rfl) hI) rfl ?_
  refine RG.op (ok_move (ht rfl)) rfl ?_
  refine RG.opGt rfl rfl rfl rfl (fun hg => ok_move (ht rfl)) ?_
  refine RG.opGt rfl rfl rfl rfl (fun hg => ok_eqlI (htO rfl hg) hI) ?_
  refine RG.op (ok_pickAnd (ht rfl) (fun hb => (htO rfl hb))) rfl ?_
  refine RG.op (ok_move (ht rfl)) rfl ?_
  refine RG.opGt rfl rfl rfl rfl (fun hg => ok_move (ht rfl)) ?_
  refine RG.opGt rfl rfl rfl rfl (fun hg => ok_eqlI (htO rfl hg) hI) ?_
  refine RG.op (ok_pickAnd (ht rfl) (fun hb => (htO rfl hb))) rfl ?_
  refine RG.op (ok_move (ht rfl)) rfl ?_
  refine RG.opGt rfl rfl rfl rfl (fun hg => ok_move (ht rfl)) ?_
  refine RG.opGt rfl rfl rfl rfl (fun hg => ok_lenSl Try.underlying25 (htO rfl hg)) ?_
  refine RG.opGt rfl rfl rfl rfl (fun hg => ok_eqlI (htO rfl hg) hI) ?_
  refine RG.op (ok_pickAnd (ht rfl) (fun hb => (htO rfl hb))) rfl ?_
  refine RG.op (ok_move (ht rfl)) rfl ?_
  obtain ⟨t, q_t, h⟩ := bs h
  refine RG.opGt rfl rfl rfl rfl (fun hg => ok_move (ht rfl)) ?_
  obtain ⟨e, h1t, h0t⟩ := og q_t
  have q_eg := fun hb => (h1t hb).1
  refine RG.opGt rfl rfl rfl rfl (fun hg => ok_indexAddr Try.underlying25 ti3 rfl (htO rfl hg) hI (q_eg hg)) ?_
  refine RG.opGt rfl rfl rfl rfl (fun hg => ok_load ti3 rfl rfl (htO rfl hg)) ?_
  refine RG.opGt rfl rfl rfl rfl (fun hg => ok_eqlI (htO rfl hg) hI) ?_
  refine RG.op (ok_pickAndM (ht rfl) (fun hb => (htO rfl hb)) (fun hb => (h1t hb).2) h0t) rfl ?_
  refine RG.op (ok_move (ht rfl)) rfl ?_
  refine RG.opGt rfl rfl rfl rfl (fun hg => ok_fieldAddr fd24_0 rfl flDLogic_0 rfl (ht rfl)) ?_
  refine RG.opGt rfl rfl rfl rfl (fun hg => ok_load ti22 rfl rfl (htO rfl hg)) ?_
  refine RG.opGt rfl rfl rfl rfl (fun hg => ok_lenSl Try.underlying22 (htO rfl hg)) ?_
  refine RG.opGt rfl rfl rfl rfl (fun hg => ok_eqlI (htO rfl hg) hI) ?_
  refine RG.op (ok_pickAnd (ht rfl) (fun hb => (htO rfl hb))) rfl ?_
  refine RG.op (ok_assign (ht rfl)) rfl ?_
  refine RG.nil ?_
  refine AT.next ?_
  refine CG.ret ?_
  cases so h
  exact AT.ret1 rfl rfl

set_option maxRecDepth 100000 in
theorem f17_ok (e : DExpr) {R : Bool} (h : law13_overExpr e = some R) : Spec Try.prog 17 [tD rpDExpr e] (tD rB R) := by
  refine Spec.of Try.func17 rfl rfl rfl fun w0 S0 => ?_
  refine CG.seq ?_
  refine CG.region ?_
  refine RG.op (ok_box (ht rfl)) rfl ?_
  refine RG.op (ok_assign hB) rfl ?_
  refine RG.nil ?_
  refine AT.next ?_
  refine CG.seq ?_
  refine CG.seq ?_
  refine CG.region ?_
  refine RG.op (ok_fieldAddr fd28_0 rfl flDExpr_0 rfl (ht rfl)) rfl ?_
  refine RG.op (ok_load ti26 rfl rfl (ht rfl)) rfl ?_
  refine RG.op (ok_lenSl Try.underlying26 (ht rfl)) rfl ?_
  refine RG.op (ok_gtr (ht rfl) hI) rfl ?_
  refine RG.nil ?_
  refine AT.next ?_
  refine CG.cond (ht rfl) (fun hc => ?_) (fun hc => ?_)
  · have h := ct h hc
    refine CG.seq ?_
    refine CG.region ?_
    refine RG.op (ok_assign hB) rfl ?_
    refine RG.nil ?_
    refine AT.next ?_
    refine CG.ret ?_
    refine AT.then_ret ?_
    cases so h
    exact AT.ret1 rfl rfl
  · have h := cf h hc
    refine CG.skip ?_
    refine AT.next ?_
    refine CG.seq ?_
    refine CG.seq ?_
    refine CG.region ?_
    refine RG.op (ok_fieldAddr fd28_0 rfl flDExpr_0 rfl (ht rfl)) rfl ?_
    refine RG.op (ok_load ti26 rfl rfl (ht rfl)) rfl ?_
    refine RG.op (ok_lenSl Try.underlying26 (ht rfl)) rfl ?_
    refine RG.op (ok_move hI) rfl ?_
    refine RG.nil ?_
    refine AT.next ?_
    refine CG.block ?_
    refine CG.have_len (k := 10) rfl (fun hN => ?_)
    refine CG.loop ?_
    refine LG.sub (LG.list1 (Z := fun ls i  => (e.Nodes.drop i = ls) ∧ law13_overExpr_l1 ls  = some R) (Of := fun _ i  => []) (Gf := fun _ i  => [(10, tD (rSl rpDENode) e.Nodes), (11, tD (rI .i64) (e.Nodes.length : Int)), (12, tD (rI .i64) (i : Int))]) (fun i  h => ?_) (fun e1 tl ih i  h => ?_) e.Nodes 0  ⟨rfl, h⟩) ⟨rfl, rfl, rfl, trivial⟩
    · obtain ⟨hx, h⟩ := h
      refine LG.unfold ?_
      refine CG.seq ?_
      refine CG.region ?_
      refine RG.op (ok_lss (ht rfl) (ht rfl)) rfl ?_
      refine RG.nil ?_
      refine AT.next ?_
      refine CG.seq ?_
      refine CG.condF (ht rfl) (dropF hx) ?_
      refine CG.exit ?_
      refine AT.then_exit (AT.then_exit (AT.in_exit ?_))
      refine AT.next ?_
      refine CG.seq ?_
      refine CG.region ?_
      refine RG.op (ok_assign hB) rfl ?_
      refine RG.nil ?_
      refine AT.next ?_
      refine CG.ret ?_
      cases so h
      exact AT.ret1 rfl rfl
    · obtain ⟨hx, h⟩ := h
      refine LG.unfold ?_
      refine CG.seq ?_
      refine CG.region ?_
      refine RG.op (ok_lss (ht rfl) (ht rfl)) rfl ?_
      refine RG.nil ?_
      refine AT.next ?_
      refine CG.seq ?_
      refine CG.condT (ht rfl) (dropT hx) ?_
      refine CG.skip ?_
      refine AT.next ?_
      refine CG.seq ?_
      refine CG.block ?_
      refine CG.seq ?_
      refine CG.region ?_
      refine RG.op (ok_indexAddr Try.underlying26 ti64 rfl (ht rfl) (ht rfl) (dropI hx)) rfl ?_
      refine RG.op (ok_load ti64 rfl rfl (ht rfl)) rfl ?_
      refine RG.alloc (r := rpDENode) (x := (⟨(0 : Int), (0 : Int), (0 : Int), (0 : Int), (⟨(0 : Int), (0 : Int), (0 : Int), []⟩ : DValue)⟩ : DENode)) ti64 (fun _ => zrDENode _) rfl (fun b => ?_)
      refine RG.storeB ti64 rfl sfld_whole rfl (ht rfl) (ht rfl) ?_
      refine RG.settleB 4 rfl ?_
      refine RG.nil ?_
      refine AT.next ?_
      refine CG.seq ?_
      refine CG.region ?_
      refine RG.op (ok_fieldAddr fd64_4 rfl flDENode_4 rfl (ht rfl)) rfl ?_
      refine RG.op (ok_fieldAddr fd62_3 rfl flDValue_3 rfl (ht rfl)) rfl ?_
      refine RG.op (ok_load ti9 rfl rfl (ht rfl)) rfl ?_
      refine RG.op (ok_lenS Try.underlying9 (ht rfl)) rfl ?_
      refine RG.op (ok_gtr (ht rfl) hI) rfl ?_
      refine RG.nil ?_
      refine AT.next ?_
      refine CG.cond (ht rfl) (fun hc => ?_) (fun hc => ?_)
      · have h := ct h hc
        refine CG.seq ?_
        refine CG.region ?_
        refine RG.op (ok_assign hB) rfl ?_
        refine RG.nil ?_
        refine AT.next ?_
        refine CG.ret ?_
        refine AT.in_ret (AT.then_ret (AT.then_ret (AT.in_ret (AT.then_ret ?_))))
        cases so h
        exact AT.ret1 rfl rfl
      · have h := cf h hc
        refine CG.skip ?_
        refine AT.in_normal ?_
        refine AT.next ?_
        refine CG.region ?_
        refine RG.op (ok_incN (dropL hx hN) (ht rfl) hI) rfl ?_
        refine RG.op (ok_move (ht rfl)) rfl ?_
        refine RG.nil ?_
        exact AT.round (LG.sub (ih (i + 1)  ⟨dropS hx, h⟩) ⟨rfl, rfl, rfl, trivial⟩)

set_option maxRecDepth 100000 in
theorem f7_ok (n : DLNode) {R : Bool} (h : law13_overNode n = some R) : Spec Try.prog 7 [tD rpDLNode n] (tD rB R) := by
  refine Spec.of Try.func7 rfl rfl rfl fun w0 S0 => ?_
  refine CG.seq ?_
  refine CG.region ?_
  refine RG.op (ok_box (ht rfl)) rfl ?_
  refine RG.op (ok_assign hB) rfl ?_
  refine RG.nil ?_
  refine AT.next ?_
  refine CG.seq ?_
  refine CG.seq ?_
  refine CG.region ?_
  refine RG.op (ok_fieldAddr fd33_4 rfl flDLNode_4 rfl (ht rfl)) rfl ?_
  refine RG.op (ok_load ti25 rfl rfl (ht rfl)) rfl ?_
  refine RG.op (ok_lenSl Try.underlying25 (ht rfl)) rfl ?_
  refine RG.op (ok_gtr (ht rfl) hI) rfl ?_
  refine RG.op (ok_move (ht rfl)) rfl ?_
  refine RG.opGf rfl rfl rfl rfl (fun hg => ok_fieldAddr fd33_7 rfl flDLNode_7 rfl (ht rfl)) ?_
  refine RG.opGf rfl rfl rfl rfl (fun hg => ok_load ti25 rfl rfl (htO rfl hg)) ?_
  refine RG.opGf rfl rfl rfl rfl (fun hg => ok_lenSl Try.underlying25 (htO rfl hg)) ?_
  refine RG.opGf rfl rfl rfl rfl (fun hg => ok_gtr (htO rfl hg) hI) ?_
  refine RG.op (ok_pickOr (ht rfl) (fun hb => (htO rfl (noti hb)))) rfl ?_
  refine RG.op (ok_move (ht rfl)) rfl ?_
  refine RG.opGf rfl rfl rfl rfl (fun hg => ok_fieldAddr fd33_8 rfl flDLNode_8 rfl (ht rfl)) ?_
  refine RG.opGf rfl rfl rfl rfl (fun hg => ok_load ti29 rfl rfl (htO rfl hg)) ?_
  refine RG.opGf rfl rfl rfl rfl (fun hg => ok_lenSl Try.underlying29 (htO rfl hg)) ?_
  refine RG.opGf rfl rfl rfl rfl (fun hg => ok_gtr (htO rfl hg) hI) ?_
  refine RG.op (ok_pickOr (ht rfl) (fun hb => (htO rfl (noti hb)))) rfl ?_
  refine RG.op (ok_move (ht rfl)) rfl ?_
  refine RG.opGf rfl rfl rfl rfl (fun hg => ok_fieldAddr fd33_9 rfl flDLNode_9 rfl (ht rfl)) ?_
  refine RG.opGf rfl rfl rfl rfl (fun hg => ok_load ti30 rfl rfl (htO rfl hg)) ?_
  refine RG.opGf rfl rfl rfl rfl (fun hg => ok_lenSl Try.underlying30 (htO rfl hg)) ?_
  refine RG.opGf rfl rfl rfl rfl (fun hg => ok_gtr (htO rfl hg) hI) ?_
  refine RG.op (ok_pickOr (ht rfl) (fun hb => (htO rfl (noti hb)))) rfl ?_
  refine RG.op (ok_move (ht rfl)) rfl ?_
  refine RG.opGf rfl rfl rfl rfl (fun hg => ok_fieldAddr fd33_10 rfl flDLNode_10 rfl (ht rfl)) ?_
  refine RG.opGf rfl rfl rfl rfl (fun hg => ok_load ti31 rfl rfl (htO rfl hg)) ?_
  refine RG.opGf rfl rfl rfl rfl (fun hg => ok_lenSl Try.underlying31 (htO rfl hg)) ?_
  refine RG.opGf rfl rfl rfl rfl (fun hg => ok_gtr (htO rfl hg) hI) ?_
  refine RG.op (ok_pickOr (ht rfl) (fun hb => (htO rfl (noti hb)))) rfl ?_
  refine RG.op (ok_move (ht rfl)) rfl ?_
  refine RG.opGf rfl rfl rfl rfl (fun hg => ok_fieldAddr fd33_6 rfl flDLNode_6 rfl (ht rfl)) ?_
  refine RG.opGf rfl rfl rfl rfl (fun hg => ok_fieldAddr fd28_0 rfl flDExpr_0 rfl (htO rfl hg)) ?_
  refine RG.opGf rfl rfl rfl rfl (fun hg => ok_load ti26 rfl rfl (htO rfl hg)) ?_
  refine RG.opGf rfl rfl rfl rfl (fun hg => ok_lenSl Try.underlying26 (htO rfl hg)) ?_
  refine RG.opGf rfl rfl rfl rfl (fun hg => ok_gtr (htO rfl hg) hI) ?_
  refine RG.op (ok_pickOr (ht rfl) (fun hb => (htO rfl (noti hb)))) rfl ?_
  refine RG.nil ?_
  refine AT.next ?_
  refine CG.cond (ht rfl) (fun hc => ?_) (fun hc => ?_)
  · have h := ct h hc
    refine CG.seq ?_
    refine CG.region ?_
    refine RG.op (ok_assign hB) rfl ?_
    refine RG.nil ?_
    refine AT.next ?_
    refine CG.ret ?_
    refine AT.then_ret ?_
    cases so h
    exact AT.ret1 rfl rfl
  · have h := cf h hc
    refine CG.skip ?_
    refine AT.next ?_
    refine CG.seq ?_
    refine CG.seq ?_
    refine CG.region ?_
    refine RG.op (ok_fieldAddr fd33_9 rfl flDLNode_9 rfl (ht rfl)) rfl ?_
    refine RG.op (ok_load ti30 rfl rfl (ht rfl)) rfl ?_
    refine RG.op (ok_lenSl Try.underlying30 (ht rfl)) rfl ?_
    refine RG.op (ok_move hI) rfl ?_
    refine RG.nil ?_
    refine AT.next ?_
    refine CG.block ?_
    refine CG.have_len (k := 43) rfl (fun hN => ?_)
    refine CG.loop ?_
    refine LG.sub (LG.list1 (Z := fun ls i  => (n.Items.drop i = ls) ∧ law13_overNode_l1 n ls  = some R) (Of := fun _ i  => []) (Gf := fun _ i  => [(1, tPtr rpDLNode n), (43, tD (rSl rpDExpr) n.Items), (44, tD (rI .i64) (n.Items.length : Int)), (45, tD (rI .i64) (i : Int))]) (fun i  h => ?_) (fun e tl ih i  h => ?_) n.Items 0  ⟨rfl, h⟩) ⟨rfl, rfl, rfl, rfl, trivial⟩
    · obtain ⟨hx, h⟩ := h
      refine LG.unfold ?_
      refine CG.seq ?_
      refine CG.region ?_
      refine RG.op (ok_lss (ht rfl) (ht rfl)) rfl ?_
      refine RG.nil ?_
      refine AT.next ?_
      refine CG.seq ?_
      refine CG.condF (ht rfl) (dropF hx) ?_
      refine CG.exit ?_
      refine AT.then_exit (AT.then_exit (AT.in_exit ?_))
      refine AT.next ?_
      refine CG.seq ?_
      refine CG.seq ?_
      refine CG.region ?_
      refine RG.op (ok_fieldAddr fd33_8 rfl flDLNode_8 rfl (ht rfl)) rfl ?_
      refine RG.op (ok_load ti29 rfl rfl (ht rfl)) rfl ?_
      refine RG.op (ok_lenSl Try.underlying29 (ht rfl)) rfl ?_
      refine RG.op (ok_move hI) rfl ?_
      refine RG.nil ?_
      refine AT.next ?_
      refine CG.block ?_
      refine CG.have_len (k := 53) rfl (fun hN1 => ?_)
      refine CG.loop ?_
      refine LG.sub (LG.list1 (Z := fun ls1 i1  => (n.Aggs.drop i1 = ls1) ∧ law13_overNode_l2 n ls1  = some R) (Of := fun _ i1  => []) (Gf := fun _ i1  => [(1, tPtr rpDLNode n), (53, tD (rSl rpDAgg) n.Aggs), (54, tD (rI .i64) (n.Aggs.length : Int)), (55, tD (rI .i64) (i1 : Int))]) (fun i1  h => ?_) (fun e1 tl1 ih1 i1  h => ?_) n.Aggs 0  ⟨rfl, h⟩) ⟨rfl, rfl, rfl, rfl, trivial⟩
      · obtain ⟨hx1, h⟩ := h
        refine LG.unfold ?_
        refine CG.seq ?_
        refine CG.region ?_
        refine RG.op (ok_lss (ht rfl) (ht rfl)) rfl ?_
        refine RG.nil ?_
        refine AT.next ?_
        refine CG.seq ?_
        refine CG.condF (ht rfl) (dropF hx1) ?_
        refine CG.exit ?_
        refine AT.then_exit (AT.then_exit (AT.in_exit ?_))
        refine AT.next ?_
        refine CG.seq ?_
        refine CG.region ?_
        refine RG.op (ok_fieldAddr fd33_6 rfl flDLNode_6 rfl (ht rfl)) rfl ?_
        refine RG.op (ok_load ti28 rfl rfl (ht rfl)) rfl ?_
        obtain ⟨r, q_r, h⟩ := bs h
        refine RG.op (ok_call cb17 (f17_ok _ q_r) ⟨(ht rfl), trivial⟩) rfl ?_
        refine RG.op (ok_assign (ht rfl)) rfl ?_
        refine RG.nil ?_
        refine AT.next ?_
        refine CG.ret ?_
        cases so h
        exact AT.ret1 rfl rfl
      · obtain ⟨hx1, h⟩ := h
        refine LG.unfold ?_
        refine CG.seq ?_
        refine CG.region ?_
        refine RG.op (ok_lss (ht rfl) (ht rfl)) rfl ?_
        refine RG.nil ?_
        refine AT.next ?_
        refine CG.seq ?_
        refine CG.condT (ht rfl) (dropT hx1) ?_
        refine CG.skip ?_
        refine AT.next ?_
        refine CG.seq ?_
        refine CG.block ?_
        refine CG.seq ?_
        refine CG.region ?_
        refine RG.op (ok_indexAddr Try.underlying29 ti51 rfl (ht rfl) (ht rfl) (dropI hx1)) rfl ?_
        refine RG.op (ok_load ti51 rfl rfl (ht rfl)) rfl ?_
        refine RG.alloc (r := rpDAgg) (x := (⟨(0 : Int), (⟨[]⟩ : DExpr)⟩ : DAgg)) ti51 (fun _ => zrDAgg _) rfl (fun b => ?_)
        refine RG.storeB ti51 rfl sfld_whole rfl (ht rfl) (ht rfl) ?_
        refine RG.settleB 6 rfl ?_
        refine RG.nil ?_
        refine AT.next ?_
        refine CG.seq ?_
        refine CG.region ?_
        refine RG.op (ok_fieldAddr fd51_1 rfl flDAgg_1 rfl (ht rfl)) rfl ?_
        refine RG.op (ok_load ti28 rfl rfl (ht rfl)) rfl ?_
        obtain ⟨r1, q_r1, h⟩ := bs h
        refine RG.op (ok_call cb17 (f17_ok _ q_r1) ⟨(ht rfl), trivial⟩) rfl ?_
        refine RG.nil ?_
        refine AT.next ?_
        refine CG.cond (ht rfl) (fun hc => ?_) (fun hc => ?_)
        · have h := ct h hc
          refine CG.seq ?_
          refine CG.region ?_
          refine RG.op (ok_assign hB) rfl ?_
          refine RG.nil ?_
          refine AT.next ?_
          refine CG.ret ?_
          refine AT.in_ret (AT.then_ret (AT.then_ret (AT.in_ret (AT.then_ret ?_))))
          cases so h
          exact AT.ret1 rfl rfl
        · have h := cf h hc
          refine CG.skip ?_
          refine AT.in_normal ?_
          refine AT.next ?_
          refine CG.region ?_
          refine RG.op (ok_incN (dropL hx1 hN1) (ht rfl) hI) rfl ?_
          refine RG.op (ok_move (ht rfl)) rfl ?_
          refine RG.nil ?_
          exact AT.round (LG.sub (ih1 (i1 + 1)  ⟨dropS hx1, h⟩) ⟨rfl, rfl, rfl, rfl, trivial⟩)
    · obtain ⟨hx, h⟩ := h
      refine LG.unfold ?_
      refine CG.seq ?_
      refine CG.region ?_
      refine RG.op (ok_lss (ht rfl) (ht rfl)) rfl ?_
      refine RG.nil ?_
      refine AT.next ?_
      refine CG.seq ?_
      refine CG.condT (ht rfl) (dropT hx) ?_
      refine CG.skip ?_
      refine AT.next ?_
      refine CG.seq ?_
      refine CG.block ?_
      refine CG.seq ?_
      refine CG.region ?_
      refine RG.op (ok_indexAddr Try.underlying30 ti28 rfl (ht rfl) (ht rfl) (dropI hx)) rfl ?_
      refine RG.op (ok_load ti28 rfl rfl (ht rfl)) rfl ?_
      refine RG.alloc (r := rpDExpr) (x := (⟨[]⟩ : DExpr)) ti28 (fun _ => zrDExpr _) rfl (fun b1 => ?_)
      refine RG.storeB ti28 rfl sfld_whole rfl (ht rfl) (ht rfl) ?_
      refine RG.settleB 4 rfl ?_
      refine RG.nil ?_
      refine AT.next ?_
      refine CG.seq ?_
      refine CG.region ?_
      refine RG.op (ok_load ti28 rfl rfl (ht rfl)) rfl ?_
      obtain ⟨r2, q_r2, h⟩ := bs h
      refine RG.op (ok_call cb17 (f17_ok _ q_r2) ⟨(ht rfl), trivial⟩) rfl ?_
      refine RG.nil ?_
      refine AT.next ?_
      refine CG.cond (ht rfl) (fun hc => ?_) (fun hc => ?_)
      · have h := ct h hc
        refine CG.seq ?_
        refine CG.region ?_
        refine RG.op (ok_assign hB) rfl ?_
        refine RG.nil ?_
        refine AT.next ?_
        refine CG.ret ?_
        refine AT.in_ret (AT.then_ret (AT.then_ret (AT.in_ret (AT.then_ret ?_))))
        cases so h
        exact AT.ret1 rfl rfl
      · have h := cf h hc
        refine CG.skip ?_
        refine AT.in_normal ?_
        refine AT.next ?_
        refine CG.region ?_
        refine RG.op (ok_incN (dropL hx hN) (ht rfl) hI) rfl ?_
        refine RG.op (ok_move (ht rfl)) rfl ?_
        refine RG.nil ?_
        exact AT.round (LG.sub (ih (i + 1)  ⟨dropS hx, h⟩) ⟨rfl, rfl, rfl, rfl, trivial⟩)

set_option maxRecDepth 100000 in
theorem f6_ok (l : DLogic) {R : Bool} (h : law13_over l = some R) : Spec Try.prog 6 [tD rpDLogic l] (tD rB R) := by
  refine Spec.of Try.func6 rfl rfl rfl fun w0 S0 => ?_
  refine CG.seq ?_
  refine CG.region ?_
  refine RG.op (ok_box (ht rfl)) rfl ?_
  refine RG.op (ok_assign hB) rfl ?_
  refine RG.nil ?_
  refine AT.next ?_
  refine CG.seq ?_
  refine CG.seq ?_
  refine CG.region ?_
  refine RG.op (ok_fieldAddr fd24_0 rfl flDLogic_0 rfl (ht rfl)) rfl ?_
  refine RG.op (ok_load ti22 rfl rfl (ht rfl)) rfl ?_
  refine RG.op (ok_lenSl Try.underlying22 (ht rfl)) rfl ?_
  refine RG.op (ok_gtr (ht rfl) hI) rfl ?_
  refine RG.nil ?_
  refine AT.next ?_
  refine CG.cond (ht rfl) (fun hc => ?_) (fun hc => ?_)
  · have h := ct h hc
    refine CG.seq ?_
    refine CG.region ?_
    refine RG.op (ok_assign hB) rfl ?_
    refine RG.nil ?_
    refine AT.next ?_
    refine CG.ret ?_
    refine AT.then_ret ?_
    cases so h
    exact AT.ret1 rfl rfl
  · have h := cf h hc
    refine CG.skip ?_
    refine AT.next ?_
    refine CG.seq ?_
    refine CG.seq ?_
    refine CG.region ?_
    refine RG.op (ok_fieldAddr fd24_0 rfl flDLogic_0 rfl (ht rfl)) rfl ?_
    refine RG.op (ok_load ti22 rfl rfl (ht rfl)) rfl ?_
    refine RG.op (ok_lenSl Try.underlying22 (ht rfl)) rfl ?_
    refine RG.op (ok_move hI) rfl ?_
    refine RG.nil ?_
    refine AT.next ?_
    refine CG.block ?_
    refine CG.have_len (k := 10) rfl (fun hN => ?_)
    refine CG.loop ?_
    refine LG.sub (LG.list1 (Z := fun ls i  => (l.Nodes.drop i = ls) ∧ law13_over_l1 ls  = some R) (Of := fun _ i  => []) (Gf := fun _ i  => [(10, tD (rSl rpDLNode) l.Nodes), (11, tD (rI .i64) (l.Nodes.length : Int)), (12, tD (rI .i64) (i : Int))]) (fun i  h => ?_) (fun e tl ih i  h => ?_) l.Nodes 0  ⟨rfl, h⟩) ⟨rfl, rfl, rfl, trivial⟩
    · obtain ⟨hx, h⟩ := h
      refine LG.unfold ?_
      refine CG.seq ?_
      refine CG.region ?_
      refine RG.op (ok_lss (ht rfl) (ht rfl)) rfl ?_
      refine RG.nil ?_
      refine AT.next ?_
      refine CG.seq ?_
      refine CG.condF (ht rfl) (dropF hx) ?_
      refine CG.exit ?_
      refine AT.then_exit (AT.then_exit (AT.in_exit ?_))
      refine AT.next ?_
      refine CG.seq ?_
      refine CG.region ?_
      refine RG.op (ok_assign hB) rfl ?_
      refine RG.nil ?_
      refine AT.next ?_
      refine CG.ret ?_
      cases so h
      exact AT.ret1 rfl rfl
    · obtain ⟨hx, h⟩ := h
      refine LG.unfold ?_
      refine CG.seq ?_
      refine CG.region ?_
      refine RG.op (ok_lss (ht rfl) (ht rfl)) rfl ?_
      refine RG.nil ?_
      refine AT.next ?_
      refine CG.seq ?_
      refine CG.condT (ht rfl) (dropT hx) ?_
      refine CG.skip ?_
      refine AT.next ?_
      refine CG.seq ?_
      refine CG.block ?_
      refine CG.seq ?_
      refine CG.region ?_
      refine RG.op (ok_indexAddr Try.underlying22 ti33 rfl (ht rfl) (ht rfl) (dropI hx)) rfl ?_
      refine RG.op (ok_load ti33 rfl rfl (ht rfl)) rfl ?_
      refine RG.alloc (r := rpDLNode) (x := (⟨(0 : Int), (0 : Int), (0 : Int), (0 : Int), [], false, (⟨[]⟩ : DExpr), [], [], [], [], (0 : Int)⟩ : DLNode)) ti33 (fun _ => zrDLNode _) rfl (fun b => ?_)
      refine RG.storeB ti33 rfl sfld_whole rfl (ht rfl) (ht rfl) ?_
      refine RG.settleB 4 rfl ?_
      refine RG.nil ?_
      refine AT.next ?_
      refine CG.seq ?_
      refine CG.region ?_
      refine RG.op (ok_load ti33 rfl rfl (ht rfl)) rfl ?_
      obtain ⟨r, q_r, h⟩ := bs h
      refine RG.op (ok_call cb7 (f7_ok _ q_r) ⟨(ht rfl), trivial⟩) rfl ?_
      refine RG.nil ?_
      refine AT.next ?_
      refine CG.cond (ht rfl) (fun hc => ?_) (fun hc => ?_)
      · have h := ct h hc
        refine CG.seq ?_
        refine CG.region ?_
        refine RG.op (ok_assign hB) rfl ?_
        refine RG.nil ?_
        refine AT.next ?_
        refine CG.ret ?_
        refine AT.in_ret (AT.then_ret (AT.then_ret (AT.in_ret (AT.then_ret ?_))))
        cases so h
        exact AT.ret1 rfl rfl
      · have h := cf h hc
        refine CG.skip ?_
        refine AT.in_normal ?_
        refine AT.next ?_
        refine CG.region ?_
        refine RG.op (ok_incN (dropL hx hN) (ht rfl) hI) rfl ?_
        refine RG.op (ok_move (ht rfl)) rfl ?_
        refine RG.nil ?_
        exact AT.round (LG.sub (ih (i + 1)  ⟨dropS hx, h⟩) ⟨rfl, rfl, rfl, trivial⟩)

end Go.Proofs.Ytbhkincjkpeaoaa

