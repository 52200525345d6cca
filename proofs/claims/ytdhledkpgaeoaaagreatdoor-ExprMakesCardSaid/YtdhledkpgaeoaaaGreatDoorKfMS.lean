/- Facts of this claim: MS. -/
import Derived.Test.YtdhledkpgaeoaaaGreatDoorKfP3
import Derived.Test.YtdhledkpgaeoaaaGreatDoorKfV3
namespace Go.Proofs.YtdhledkpgaeoaaaGreatDoor
open Go
open Lean Elab

theorem rN_of {N : Fr} {G : Ctx} {x x2 : Operand} {y : DExpr} {l : Option Nat} {c : Nat} {xs : List DENode} (h : HasTy N G x (tD rpOExpr_0 (mkOExpr_0 y (oslV l c xs.length)))) (k : HasTy N G x2 (tO rpDENode l c xs)) : HasTy N G x (tD (rN rpDExpr) ((⟨xs⟩ : DExpr), oslV l c xs.length)) := fun S a hf => by
  obtain ⟨cs, h1, h2⟩ := h S a hf
  obtain ⟨e0, ds, k2, k3⟩ := k S a hf
  have h3 : cs = [oslV l c xs.length] := h2.1
  have h4 : ds = [oslV l c xs.length] := by
    have hl := (rSl rpDENode).len k3
    match ds, hl, k2 with
    | [d], _, k2 => rw [show d = oslV l c xs.length from k2.symm.trans e0]
  exact ⟨cs, h1, cvOExpr_0_to_D (h4 ▸ k3) h2, h3⟩
theorem rN_nil {N : Fr} {G : Ctx} {x : Operand} {y : DExpr} (h : HasTy N G x (tD rpOExpr_0 (mkOExpr_0 y (oslV none 0 0)))) : HasTy N G x (tD (rN rpDExpr) ((⟨[]⟩ : DExpr), oslV none 0 0)) := fun S a hf => by
  obtain ⟨cs, h1, h2⟩ := h S a hf
  have h3 : cs = [oslV none 0 0] := h2.1
  subst h3
  exact ⟨_, h1, zrDExpr _, rfl⟩
set_option maxRecDepth 100000 in
theorem f55_s (root : DENode) (l : (List DExpr)) {R : DExpr} (h : expr_joined root l = some R) : SpecM Tryz.prog 55 [tD rpDENode root, tD (rSl rpDExpr) l] [] (fun i : OI => tD (rN rpDExpr) (R, oslV (i.h 0).1 (i.h 0).2 R.Nodes.length)) (fun i => [tip rpDENode 42 (i.h 0).1 (i.h 0).2 R.Nodes]) := by
  refine SpecM.of Tryz.func55 rfl rfl rfl fun w0 S0 => ?_
  refine CG.seq ?_
  refine CG.region ?_
  refine RG.boxO (ht rfl) rfl (fun b => ?_)
  refine RG.alloc (r := rN rpDExpr) (x := ((⟨[]⟩ : DExpr), oslV none 0 0)) ti24 (fun _ => ⟨zrDExpr _, rfl⟩) rfl (fun b1 => ?_)
  refine RG.nil ?_
  refine AT.next ?_
  refine CG.seq ?_
  refine CG.region ?_
  refine RG.fresh false rpDENode 42 ?_
  refine RG.op (ok_assign hVn) rfl ?_
  refine RG.nil ?_
  refine AT.next ?_
  refine CG.seq ?_
  refine CG.region ?_
  refine RG.op (ok_buildA (r := (rI .i64)) (ys := [(-1 : Int), (-1 : Int)]) (xs := [.const (.int .i64 (-1)), .const (.int .i64 (-1))]) Tryz.underlying114 ti3 rfl ti114 rfl rfl ⟨hI, hI, trivial⟩) rfl ?_
  refine RG.alloc (r := (rArr (rI .i64) 2)) (x := (List.replicate 2 (0 : Int))) ti114 (fun _ => arr_zero (r := (rI .i64)) 2 (fun _ => rfl) _) rfl (fun b2 => ?_)
  refine RG.storeB ti114 rfl sfld_whole rfl (ht rfl) (ht rfl) ?_
  refine RG.nil ?_
  refine AT.next ?_
  refine CG.seq ?_
  refine CG.seq ?_
  refine CG.region ?_
  refine RG.op (ok_move (ht rfl)) rfl ?_
  refine RG.op (ok_lenSl Tryz.underlying51 (ht rfl)) rfl ?_
  refine RG.op (ok_move hI) rfl ?_
  refine RG.nil ?_
  refine AT.next ?_
  refine CG.block ?_
  refine CG.have_len (k := 10) rfl (fun hN => ?_)
  refine CG.loop ?_
  refine LG.front1 ?_
  refine LG.freeze ?_
  refine LG.tipAt 5 rfl ?_
  refine LG.front1 ?_
  refine LG.front2 ?_
  refine LG.front3 ?_
  refine LG.front3 ?_
  refine LG.sub (LG.list5 (Z := fun ls i out l1 c at1 => (l.drop i = ls) ∧ expr_joined_l1 root ls i out at1 = some R) (Of := fun _ i out l1 c at1 => [tip rpDENode 42 l1 c out, bx rpDENode 42 b root, bx (rN rpDExpr) 24 b1 ((⟨[]⟩ : DExpr), oslV none 0 0), bx (rArr (rI .i64) 2) 114 b2 at1]) (Gf := fun _ i out l1 c at1 => [(2, tV (bptr b 0)), (4, tV (bptr b1 0)), (5, tO rpDENode l1 c out), (6, tV (bptr b2 0)), (10, tD (rSl rpDExpr) l), (11, tD (rI .i64) (l.length : Int)), (12, tD (rI .i64) (i : Int))]) (fun i out l1 c at1 h => ?_) (fun e tl ih i out l1 c at1 h => ?_) l 0 ([] : List DENode) none 0 ([(-1 : Int), (-1 : Int)]) ⟨rfl, h⟩) ⟨rfl, rfl, rfl, rfl, rfl, rfl, rfl, trivial⟩
  · obtain ⟨hx, h⟩ := h
    refine LG.unfold ?_
    refine CG.seq ?_
    refine CG.region ?_
    refine RG.op (ok_lss (ht rfl) (ht rfl)) rfl ?_
    refine RG.nil ?_
    refine AT.next ?_
    refine CG.seq ?_
    refine CG.condF (ht rfl) (dropF hx) ?_
    refine CG.exit ?_
    refine AT.then_exit (AT.then_exit (AT.in_exit ?_))
    refine AT.next ?_
    refine CG.seq ?_
    obtain ⟨e1, q_e1, h⟩ := bs h
    obtain ⟨e2, q_e2, h⟩ := bs h
    refine CG.drawS 6 [tc (tV (bptr b2 ((0 : Int).toNat * 1))), tc (tD (rI .i64) e1), tc (tV (bptr b2 ((1 : Int).toNat * 1))), tc (tD (rI .i64) e2), tc (tV (bptr b 1)), tc (tAny)] [false, false, false, false, false, true] [fun _ => [tip rpDENode 42 l1 c out, bx rpDENode 42 b root, bx (rN rpDExpr) 24 b1 ((⟨[]⟩ : DExpr), oslV none 0 0), bx (rArr (rI .i64) 2) 114 b2 at1], fun sg => [bx rpDENode 42 b ({ root with L := e1 } : DENode), tip rpDENode 42 l1 c out, bx (rN rpDExpr) 24 b1 ((⟨[]⟩ : DExpr), oslV none 0 0), bx (rArr (rI .i64) 2) 114 b2 at1]] rfl mixed rfl rfl rfl rfl rfl
      ⟨⟨[⟨6, fun _ => tV (bptr b2 0), none⟩], _, 0, 0, rfl, ⟨(fun _ => rfl), trivial⟩, rfl, rfl, rfl, rfl, rfl, win1 (fun sg => OpG.plain rfl (ok_indexAddrX Tryz.underlying114 ti3 (.tail _ (.tail _ (.tail _ (.head _)))) (ht rfl) hI q_e1))⟩,
      ⟨⟨[⟨26, fun _ => tV (bptr b2 ((0 : Int).toNat * 1)), some 0⟩], _, 0, 0, rfl, ⟨(fun _ => rfl), trivial⟩, rfl, rfl, rfl, rfl, rfl, win1 (fun sg => OpG.plain rfl (ok_loadX ti3 rfl rfl (.tail _ (.tail _ (.tail _ (.head _)))) q_e1 (ht rfl)))⟩,
      ⟨⟨[⟨6, fun _ => tV (bptr b2 0), none⟩], _, 0, 1, rfl, ⟨(fun _ => rfl), trivial⟩, rfl, rfl, rfl, rfl, rfl, winS (fun sg => OpG.plain rfl (ok_indexAddrX Tryz.underlying114 ti3 (.tail _ (.tail _ (.tail _ (.head _)))) (ht rfl) hI q_e2)) (win1 (fun sg => OpG.plain rfl (ok_indexAddrX Tryz.underlying114 ti3 (.tail _ (.tail _ (.tail _ (.head _)))) (ht rfl) hI q_e2)))⟩,
      ⟨⟨[⟨28, fun _ => tV (bptr b2 ((1 : Int).toNat * 1)), some 2⟩], _, 0, 1, rfl, ⟨(fun _ => rfl), trivial⟩, rfl, rfl, rfl, rfl, rfl, winS (fun sg => OpG.plain rfl (ok_loadX ti3 rfl rfl (.tail _ (.tail _ (.tail _ (.head _)))) q_e2 (ht rfl))) (win1 (fun sg => OpG.plain rfl (ok_loadX ti3 rfl rfl (.tail _ (.tail _ (.tail _ (.head _)))) q_e2 (ht rfl))))⟩,
      ⟨⟨[⟨2, fun _ => tV (bptr b 0), none⟩], _, 0, 0, rfl, ⟨(fun _ => rfl), trivial⟩, rfl, rfl, rfl, rfl, rfl, fun _ sg _ _ => OpG.plain rfl (ok_fieldAddrC (n := 1) fd42_1 rfl (ht rfl) rfl)⟩,
      ⟨⟨[⟨30, fun _ => tV (bptr b 1), some 4⟩, ⟨27, fun _ => tD (rI .i64) e1, some 1⟩], _, rfl, ⟨(fun _ => rfl), (fun _ => rfl), trivial⟩, rfl, rfl, rfl, fun sg => EffG.plain rfl (EffOK.fr1 (eff_storeX ti3 rfl (sfx_of sfDENode_1) rfl (ht rfl) (ht rfl)))⟩,
      trivial⟩⟩⟩⟩⟩⟩ (fun sg => ?_)
    refine (show RG _ _ _ _ [bx rpDENode 42 b ({ root with L := e1 } : DENode), tip rpDENode 42 l1 c out, bx (rN rpDExpr) 24 b1 ((⟨[]⟩ : DExpr), oslV none 0 0), bx (rArr (rI .i64) 2) 114 b2 at1] _ from ?_)
    refine RG.op (ok_fieldAddrC (n := 2) fd42_2 rfl (ht rfl) rfl) rfl ?_
    refine RG.storeB ti3 rfl sfDENode_2 rfl (ht rfl) (ht rfl) ?_
    refine RG.nil ?_
    refine AT.next ?_
    refine CG.seq ?_
    refine CG.region ?_
    refine RG.op (ok_move (ht rfl)) rfl ?_
    refine RG.op (ok_loadB ti42 rfl rfl fld_whole (.head _) (ht rfl)) rfl ?_
    refine RG.op (ok_buildSlice (r := rpDENode) (ys := [(DENode.mk ({ root with L := e1 } : DENode).Tag ({ root with L := e1 } : DENode).L e2 ({ root with L := e1 } : DENode).Col ({ root with L := e1 } : DENode).Value)]) (xs := [.tmp 33]) Tryz.underlying22 ti42 rfl rfl rfl rfl rfl ⟨(ht rfl), trivial⟩) rfl ?_
    refine RG.front1 ?_
    obtain ⟨l2, q_l2, h⟩ := bs h
    refine RG.appendT ti42 rfl rfl rfl rfl Tryz.underlying22 rfl rfl (ht rfl) (ht rfl) q_l2 (fun l3 c1 => ?_)
    refine RG.op (ok_build (y := mkOExpr_0 ⟨l2⟩ (oslV l3 c1 l2.length)) ti24 fs24 zrOExpr_0 (⟨_, _, _, _, _, rfl, sfOExpr_0_0, rfl, hRV (tO_v (ht rfl)), rfl⟩)) rfl ?_
    refine RG.front2 ?_
    refine RG.storeB ti24 rfl sfld_whole rfl (ht rfl) (rN_of (x2 := .tmp 35) (ht rfl) (ht rfl)) ?_
    refine RG.settleB 4 rfl ?_
    refine RG.nil ?_
    refine AT.next ?_
    refine CG.ret ?_
    refine AT.front1 ?_
    refine AT.drop ?_
    refine AT.front1 ?_
    refine AT.drop ?_
    cases so h
    exact AT.retMc rfl ti24 rfl rfl rfl (oi l3 c1) rfl rfl
  · obtain ⟨hx, h⟩ := h
    refine LG.unfold ?_
    refine CG.seq ?_
    refine CG.region ?_
    refine RG.op (ok_lss (ht rfl) (ht rfl)) rfl ?_
    refine RG.nil ?_
    refine AT.next ?_
    refine CG.seq ?_
    refine CG.condT (ht rfl) (dropT hx) ?_
    refine CG.skip ?_
    refine AT.next ?_
    refine CG.seq ?_
    refine CG.block ?_
    refine CG.seq ?_
    refine CG.region ?_
    refine RG.op (ok_move (ht rfl)) rfl ?_
    refine RG.op (ok_indexAddr Tryz.underlying51 ti24 rfl (ht rfl) (ht rfl) (dropI hx)) rfl ?_
    refine RG.op (ok_load ti24 rfl rfl (ht rfl)) rfl ?_
    refine RG.alloc (r := rpDExpr) (x := (⟨[]⟩ : DExpr)) ti24 (fun _ => zrDExpr _) rfl (fun b3 => ?_)
    refine RG.op (ok_assign (ht rfl)) rfl ?_
    refine RG.storeB ti24 rfl sfld_whole rfl (ht rfl) (ht rfl) ?_
    refine RG.settleB 8 rfl ?_
    refine RG.nil ?_
    refine AT.next ?_
    refine CG.seq ?_
    refine CG.region ?_
    refine RG.op (ok_move (ht rfl)) rfl ?_
    refine RG.op (ok_load ti24 rfl rfl (ht rfl)) rfl ?_
    obtain ⟨r, q_r, h⟩ := bs h
    refine RG.callM [tip rpDENode 42 l1 c out] _ rfl cb98 (f98_m l1 c _ _ q_r) ⟨(tO_v (ht rfl)), (ht rfl), trivial⟩ rfl (fun i1 => ?_)
    refine (show RG _ _ _ _ [tip rpDENode 42 (i1.h 0).1 (i1.h 0).2 r, bx rpDENode 42 b root, bx (rN rpDExpr) 24 b1 ((⟨[]⟩ : DExpr), oslV none 0 0), bx (rArr (rI .i64) 2) 114 b2 at1] ((19, tO rpDENode (i1.h 0).1 (i1.h 0).2 r) :: _) from ?_)
    refine RG.op (ok_assign (ht rfl)) rfl ?_
    refine RG.nil ?_
    refine AT.next ?_
    refine CG.region ?_
    refine RG.op (ok_move (ht rfl)) rfl ?_
    refine RG.op (ok_move (ht rfl)) rfl ?_
    refine RG.op (ok_lenSl Tryz.underlying22 (tO_d (ht rfl))) rfl ?_
    refine RG.op (ok_sub (ht rfl) hI) rfl ?_
    obtain ⟨e3, q_e3, h⟩ := bs h
    refine RG.op (ok_indexAddrX Tryz.underlying114 ti3 (.tail _ (.tail _ (.tail _ (.head _)))) (ht rfl) (ht rfl) q_e3) rfl ?_
    refine RG.front3 ?_
    obtain ⟨ar, q_ar, h⟩ := bs h
    refine RG.storeX ti3 rfl q_e3 (so q_ar) (ht rfl) (ht rfl) ?_
    refine RG.nil ?_
    refine AT.in_normal ?_
    refine AT.next ?_
    refine CG.region ?_
    refine RG.op (ok_incN (dropL hx hN) (ht rfl) hI) rfl ?_
    refine RG.op (ok_move (ht rfl)) rfl ?_
    refine RG.nil ?_
    refine AT.front3 ?_
    refine AT.front3 ?_
    refine AT.front3 ?_
    exact AT.round (LG.sub (ih (i + 1) r (i1.h 0).1 (i1.h 0).2 ar ⟨dropS hx, h⟩) ⟨rfl, rfl, rfl, rfl, rfl, rfl, rfl, trivial⟩)

set_option maxRecDepth 100000 in
theorem f50_s (root : DENode) (l : (List DExpr)) {R : DExpr × Int} (h : expr_made root l = some R) : SpecM Tryz.prog 50 [tD rpDENode root, tD (rSl rpDExpr) l] [] (fun i : OI => tT [tD (rN rpDExpr) (R.1, oslV (i.h 0).1 (i.h 0).2 R.1.Nodes.length), tD (rI .i64) R.2]) (fun i => [tip rpDENode 42 (i.h 0).1 (i.h 0).2 R.1.Nodes]) := by
  refine SpecM.of Tryz.func50 rfl rfl rfl fun w0 S0 => ?_
  refine CG.seq ?_
  refine CG.region ?_
  refine RG.op (ok_box (ht rfl)) rfl ?_
  refine RG.alloc (r := rN rpDExpr) (x := ((⟨[]⟩ : DExpr), oslV none 0 0)) ti24 (fun _ => ⟨zrDExpr _, rfl⟩) rfl (fun b => ?_)
  refine RG.op (ok_assign hI) rfl ?_
  refine RG.nil ?_
  refine AT.next ?_
  refine CG.seq ?_
  refine CG.seq ?_
  refine CG.region ?_
  refine RG.op (ok_move (ht rfl)) rfl ?_
  refine RG.op (ok_lenSl Tryz.underlying51 (ht rfl)) rfl ?_
  refine RG.op (ok_move hI) rfl ?_
  refine RG.nil ?_
  refine AT.next ?_
  refine CG.block ?_
  refine CG.have_len (k := 11) rfl (fun hN => ?_)
  refine CG.loop ?_
  refine LG.sub (LG.list1 (Z := fun ls i => (l.drop i = ls) ∧ expr_made_l1 root l ls (⟨[]⟩ : DExpr) = some R) (Of := fun _ i => [bx (rN rpDExpr) 24 b ((⟨[]⟩ : DExpr), oslV none 0 0)]) (Gf := fun _ i => [(1, tD (rSl rpDExpr) l), (2, tPtr rpDENode root), (4, tV (bptr b 0)), (11, tD (rSl rpDExpr) l), (12, tD (rI .i64) (l.length : Int)), (13, tD (rI .i64) (i : Int))]) (fun i h => ?_) (fun e tl ih i h => ?_) l 0 ⟨rfl, h⟩) ⟨rfl, rfl, rfl, rfl, rfl, rfl, trivial⟩
  · obtain ⟨hx, h⟩ := h
    refine LG.unfold ?_
    refine CG.seq ?_
    refine CG.region ?_
    refine RG.op (ok_lss (ht rfl) (ht rfl)) rfl ?_
    refine RG.nil ?_
    refine AT.next ?_
    refine CG.seq ?_
    refine CG.condF (ht rfl) (dropF hx) ?_
    refine CG.exit ?_
    refine AT.then_exit (AT.then_exit (AT.in_exit ?_))
    refine AT.next ?_
    refine CG.seq ?_
    refine CG.region ?_
    refine RG.op (ok_load ti42 rfl rfl (ht rfl)) rfl ?_
    refine RG.op (ok_move (ht rfl)) rfl ?_
    obtain ⟨r, q_r, h⟩ := bs h
    refine RG.callM [] _ rfl cb55 (f55_s _ _ q_r) ⟨(ht rfl), (ht rfl), trivial⟩ rfl (fun i1 => ?_)
    refine (show RG _ _ _ _ [tip rpDENode 42 (i1.h 0).1 (i1.h 0).2 r.Nodes, bx (rN rpDExpr) 24 b ((⟨[]⟩ : DExpr), oslV none 0 0)] _ from ?_)
    refine RG.alloc (r := rN rpDExpr) (x := ((⟨[]⟩ : DExpr), oslV none 0 0)) ti24 (fun _ => ⟨zrDExpr _, rfl⟩) rfl (fun b1 => ?_)
    refine RG.storeB ti24 rfl sfld_whole rfl (ht rfl) (ht rfl) ?_
    refine RG.settleB 9 rfl ?_
    refine RG.nil ?_
    refine AT.next ?_
    refine CG.seq ?_
    refine CG.seq ?_
    refine CG.region ?_
    refine RG.op (ok_load ti24 rfl rfl (ht rfl)) rfl ?_
    obtain ⟨r1, q_r1, h⟩ := bs h
    refine RG.op (ok_call cb27 (f27_ok _ q_r1) ⟨rN_d (ht rfl), trivial⟩) rfl ?_
    refine RG.op (ok_assign (ht rfl)) rfl ?_
    refine RG.nil ?_
    refine AT.next ?_
    refine CG.seq ?_
    refine CG.region ?_
    refine RG.op (ok_move (ht rfl)) rfl ?_
    refine RG.op (ok_neqI (ht rfl) hI) rfl ?_
    refine RG.nil ?_
    refine AT.next ?_
    refine CG.cond (ht rfl) (fun hc => ?_) (fun hc => ?_)
    · have h := ct h hc
      refine CG.seq ?_
      refine CG.region ?_
      refine RG.op (ok_build (y := mkOExpr_0 ⟨[]⟩ (oslV none 0 0)) ti24 fs24 zrOExpr_0 (rfl)) rfl ?_
      refine RG.op (ok_move (ht rfl)) rfl ?_
      refine RG.front1 ?_
      refine RG.storeB ti24 rfl sfld_whole rfl (ht rfl) (rN_nil (ht rfl)) ?_
      refine RG.op (ok_assign (ht rfl)) rfl ?_
      refine RG.nil ?_
      refine AT.next ?_
      refine CG.ret ?_
      refine AT.then_ret ?_
      refine AT.settleB 4 rfl ?_
      refine AT.drop ?_
      refine AT.fresh true rpDENode 42 ?_
      cases so h
      exact AT.retML (rvs := [.cell 4 24, .tmp 5]) (ts := [tD (rN rpDExpr) (_, oslV none 0 _), tD (rI .i64) _]) rfl rfl ⟨res_cell ti24 rfl rfl rfl, res_tmp rfl, trivial⟩ (oi none 0) rfl rfl
    · have h := cf h hc
      refine CG.skip ?_
      refine AT.next ?_
      refine CG.seq ?_
      refine CG.region ?_
      refine RG.op (ok_load ti24 rfl rfl (ht rfl)) rfl ?_
      refine RG.front1 ?_
      refine RG.storeB ti24 rfl sfld_whole rfl (ht rfl) (ht rfl) ?_
      refine RG.op (ok_assign hI) rfl ?_
      refine RG.nil ?_
      refine AT.next ?_
      refine CG.ret ?_
      refine AT.settleB 4 rfl ?_
      cases so h
      exact AT.retML (rvs := [.cell 4 24, .tmp 5]) (ts := [tD (rN rpDExpr) (_, oslV (i1.h 0).1 (i1.h 0).2 _), tD (rI .i64) _]) rfl rfl ⟨res_cell ti24 rfl rfl rfl, res_tmp rfl, trivial⟩ i1 rfl rfl
  · obtain ⟨hx, h⟩ := h
    refine LG.unfold ?_
    refine CG.seq ?_
    refine CG.region ?_
    refine RG.op (ok_lss (ht rfl) (ht rfl)) rfl ?_
    refine RG.nil ?_
    refine AT.next ?_
    refine CG.seq ?_
    refine CG.condT (ht rfl) (dropT hx) ?_
    refine CG.skip ?_
    refine AT.next ?_
    refine CG.seq ?_
    refine CG.block ?_
    refine CG.seq ?_
    refine CG.region ?_
    refine RG.op (ok_indexAddr Tryz.underlying51 ti24 rfl (ht rfl) (ht rfl) (dropI hx)) rfl ?_
    refine RG.op (ok_load ti24 rfl rfl (ht rfl)) rfl ?_
    refine RG.alloc (r := rpDExpr) (x := (⟨[]⟩ : DExpr)) ti24 (fun _ => zrDExpr _) rfl (fun b2 => ?_)
    refine RG.storeB ti24 rfl sfld_whole rfl (ht rfl) (ht rfl) ?_
    refine RG.settleB 7 rfl ?_
    refine RG.nil ?_
    refine AT.next ?_
    refine CG.seq ?_
    refine CG.region ?_
    refine RG.op (ok_load ti24 rfl rfl (ht rfl)) rfl ?_
    obtain ⟨r2, q_r2, h⟩ := bs h
    refine RG.op (ok_call cb27 (f27_ok _ q_r2) ⟨(ht rfl), trivial⟩) rfl ?_
    refine RG.op (ok_assign (ht rfl)) rfl ?_
    refine RG.nil ?_
    refine AT.next ?_
    refine CG.seq ?_
    refine CG.region ?_
    refine RG.op (ok_move (ht rfl)) rfl ?_
    refine RG.op (ok_neqI (ht rfl) hI) rfl ?_
    refine RG.nil ?_
    refine AT.next ?_
    refine CG.cond (ht rfl) (fun hc => ?_) (fun hc => ?_)
    · have h := ct h hc
      refine CG.seq ?_
      refine CG.region ?_
      refine RG.op (ok_build (y := mkOExpr_0 ⟨[]⟩ (oslV none 0 0)) ti24 fs24 zrOExpr_0 (rfl)) rfl ?_
      refine RG.op (ok_move (ht rfl)) rfl ?_
      refine RG.storeB ti24 rfl sfld_whole rfl (ht rfl) (rN_nil (ht rfl)) ?_
      refine RG.op (ok_assign (ht rfl)) rfl ?_
      refine RG.nil ?_
      refine AT.next ?_
      refine CG.ret ?_
      refine AT.in_ret (AT.then_ret (AT.then_ret (AT.in_ret (AT.then_ret ?_))))
      refine AT.settleB 4 rfl ?_
      refine AT.fresh true rpDENode 42 ?_
      cases so h
      exact AT.retML (rvs := [.cell 4 24, .tmp 5]) (ts := [tD (rN rpDExpr) (_, oslV none 0 _), tD (rI .i64) _]) rfl rfl ⟨res_cell ti24 rfl rfl rfl, res_tmp rfl, trivial⟩ (oi none 0) rfl rfl
    · have h := cf h hc
      refine CG.skip ?_
      refine AT.in_normal ?_
      refine AT.next ?_
      refine CG.region ?_
      refine RG.op (ok_incN (dropL hx hN) (ht rfl) hI) rfl ?_
      refine RG.op (ok_move (ht rfl)) rfl ?_
      refine RG.nil ?_
      exact AT.round (LG.sub (ih (i + 1) ⟨dropS hx, h⟩) ⟨rfl, rfl, rfl, rfl, rfl, rfl, trivial⟩)

set_option maxRecDepth 100000 in
theorem f20_s (tag : Int) (l : DExpr) (r : DExpr) {R : DExpr × Int} (h : expr_Two tag l r = some R) : SpecM Tryz.prog 20 [tD (rI .i64) tag, tD rpDExpr l, tD rpDExpr r] [] (fun i : OI => tT [tD (rN rpDExpr) (R.1, oslV (i.h 0).1 (i.h 0).2 R.1.Nodes.length), tD (rI .i64) R.2]) (fun i => [tip rpDENode 42 (i.h 0).1 (i.h 0).2 R.1.Nodes]) := by
  refine SpecM.of Tryz.func20 rfl rfl rfl fun w0 S0 => ?_
  refine CG.seq ?_
  refine CG.region ?_
  refine RG.op (ok_box (ht rfl)) rfl ?_
  refine RG.op (ok_box (ht rfl)) rfl ?_
  refine RG.alloc (r := rN rpDExpr) (x := ((⟨[]⟩ : DExpr), oslV none 0 0)) ti24 (fun _ => ⟨zrDExpr _, rfl⟩) rfl (fun b => ?_)
  refine RG.op (ok_assign hI) rfl ?_
  refine RG.nil ?_
  refine AT.next ?_
  refine CG.seq ?_
  refine CG.region ?_
  refine RG.op (ok_move (ht rfl)) rfl ?_
  refine RG.op (ok_build (y := (⟨tag, (0 : Int), (0 : Int), (0 : Int), (⟨(0 : Int), (0 : Int), (0 : Int), []⟩ : DValue)⟩ : DENode)) ti42 fs42 zrDENode (⟨_, _, _, _, _, rfl, sfDENode_0, rfl, (ht rfl), rfl⟩)) rfl ?_
  refine RG.op (ok_load ti24 rfl rfl (ht rfl)) rfl ?_
  refine RG.op (ok_load ti24 rfl rfl (ht rfl)) rfl ?_
  refine RG.op (ok_buildSlice (r := rpDExpr) (ys := [l, r]) (xs := [.tmp 10, .tmp 11]) Tryz.underlying51 ti24 rfl rfl rfl rfl rfl ⟨(ht rfl), (ht rfl), trivial⟩) rfl ?_
  obtain ⟨r1, q_r1, h⟩ := bs h
  refine RG.callM [] _ rfl cb50 (f50_s _ _ q_r1) ⟨(ht rfl), (ht rfl), trivial⟩ rfl (fun i1 => ?_)
  refine (show RG _ _ _ _ [tip rpDENode 42 (i1.h 0).1 (i1.h 0).2 r1.1.Nodes, bx (rN rpDExpr) 24 b ((⟨[]⟩ : DExpr), oslV none 0 0)] _ from ?_)
  refine RG.op (ok_extract rfl (ht rfl)) rfl ?_
  refine RG.op (ok_extract rfl (ht rfl)) rfl ?_
  refine RG.front1 ?_
  refine RG.storeB ti24 rfl sfld_whole rfl (ht rfl) (ht rfl) ?_
  refine RG.settleB 6 rfl ?_
  refine RG.op (ok_assign (ht rfl)) rfl ?_
  refine RG.nil ?_
  refine AT.next ?_
  refine CG.ret ?_
  cases so h
  exact AT.retML (rvs := [.cell 6 24, .tmp 7]) (ts := [tD (rN rpDExpr) (_, oslV (i1.h 0).1 (i1.h 0).2 _), tD (rI .i64) _]) rfl rfl ⟨res_cell ti24 rfl rfl rfl, res_tmp rfl, trivial⟩ i1 rfl rfl

theorem f20_a (tag : Int) (l : DExpr) (r : DExpr) {R : DExpr × Int} (h : expr_Two tag l r = some R) : SpecM Tryz.prog 20 [tD (rI .i64) tag, tD rpDExpr l, tD rpDExpr r] [] (fun i : OI => tT [tD rpOExpr_0 (mkOExpr_0 R.1 (oslV (i.h 0).1 (i.h 0).2 R.1.Nodes.length)), tD (rI .i64) R.2]) (fun i => [arr rpDENode 42 (i.h 0).1 (i.h 0).2 R.1.Nodes]) :=
  SpecM.thaw (t := fun i : OI => tT [tD (rN rpDExpr) (R.1, oslV (i.h 0).1 (i.h 0).2 R.1.Nodes.length), tD (rI .i64) R.2]) (fun h => h) (fun i S S' v hv => by
    obtain ⟨vs, e, h2⟩ := hv
    match vs, h2 with
    | [a, b], h2 =>
      obtain ⟨⟨cs, g1, g2⟩, g3, _⟩ := h2
      refine ⟨[a, b], e, ⟨cs, g1, ?_⟩, g3, trivial⟩
      have h3 : cs = [oslV (i.h 0).1 (i.h 0).2 R.1.Nodes.length] := g2.2
      exact ⟨h3, by cases (i.h 0).1 <;> rfl⟩) (f20_s tag l r h)
end Go.Proofs.YtdhledkpgaeoaaaGreatDoor

