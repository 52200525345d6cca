/- Facts of this claim: P10. -/
import Derived.Test.YtdhledkpgaeoaaaGreatDoorKdT
import Derived.Test.YtdhledkpgaeoaaaGreatDoorKdP9
namespace Go.Proofs.YtdhledkpgaeoaaaGreatDoor
open Go

set_option maxRecDepth 100000 in
theorem f28_own (e : DExpr) {R : (List DExpr)} (h : expr_Ands e = some R) : SpecO Tryz.prog 28 [tD rpDExpr e] false rpDExpr 24 R := by
  refine SpecO.of Tryz.func28 rfl rfl rfl fun w0 S0 => ?_
  refine CG.seq ?_
  refine CG.region ?_
  refine RG.op (ok_box (ht rfl)) rfl ?_
  refine RG.fresh false rpDExpr 24 ?_
  refine RG.op (ok_assign hVn) rfl ?_
  refine RG.nil ?_
  refine AT.next ?_
  refine CG.seq ?_
  refine CG.region ?_
  refine RG.op (ok_load ti24 rfl rfl (ht rfl)) rfl ?_
  obtain ⟨r, q_r, h⟩ := bs h
  refine RG.op (ok_call cb62 (f62_ok _ q_r) ⟨(ht rfl), trivial⟩) rfl ?_
  refine RG.op (ok_move (ht rfl)) rfl ?_
  refine RG.op (ok_extract rfl (ht rfl)) rfl ?_
  refine RG.op (ok_extract rfl (ht rfl)) rfl ?_
  refine RG.op (ok_assign (ht rfl)) rfl ?_
  refine RG.op (ok_assign (ht rfl)) rfl ?_
  refine RG.nil ?_
  refine AT.next ?_
  refine CG.seq ?_
  refine CG.seq ?_
  refine CG.region ?_
  refine RG.op (ok_move (ht rfl)) rfl ?_
  refine RG.op (ok_not (ht rfl)) rfl ?_
  refine RG.nil ?_
  refine AT.next ?_
  refine CG.cond (ht rfl) (fun hc => ?_) (fun hc => ?_)
  · have h := ct h hc
    refine CG.seq ?_
    refine CG.region ?_
    refine RG.fresh false rpDExpr 24 ?_
    refine RG.op (ok_assign hVn) rfl ?_
    refine RG.nil ?_
    refine AT.next ?_
    refine CG.ret ?_
    refine AT.then_ret ?_
    cases so h
    exact AT.retO rfl rfl
  · have h := cf h hc
    refine CG.skip ?_
    refine AT.next ?_
    refine CG.seq ?_
    refine CG.region ?_
    refine RG.fresh false rpDExpr 24 ?_
    refine RG.op (ok_assign hVn) rfl ?_
    refine RG.nil ?_
    refine AT.next ?_
    refine CG.seq ?_
    refine CG.region ?_
    refine RG.op (ok_fieldAddr fd24_0 rfl flDExpr_0 rfl (ht rfl)) rfl ?_
    refine RG.op (ok_load ti22 rfl rfl (ht rfl)) rfl ?_
    refine RG.op (ok_lenSl Tryz.underlying22 (ht rfl)) rfl ?_
    refine RG.op (ok_sub (ht rfl) hI) rfl ?_
    refine RG.buildOwn (r := (rI .i64)) (ys := [(IntKind.i64.wrap ((e.Nodes.length : Int) - (1 : Int)))]) (xs := [.tmp 23]) Tryz.underlying40 ti3 rfl rfl rfl rfl rfl ⟨(ht rfl), trivial⟩ rfl (fun l c => ?_)
    refine RG.op (ok_assign (ht rfl)) rfl ?_
    refine RG.nil ?_
    refine AT.next ?_
    refine CG.seq ?_
    refine CG.block ?_
    refine CG.loop ?_
    refine LG.front2 ?_
    refine LG.drop ?_
    refine LG.front1 ?_
    refine LG.sub (LG.ind6 (Z := fun n out l1 c1 open1 l2 c2 => expr_Ands_l1 e r n out open1 = some R) (Of := fun out l1 c1 open1 l2 c2 => [arr rpDExpr 24 l1 c1 out, arr (rI .i64) 3 l2 c2 open1]) (Gf := fun out l1 c1 open1 l2 c2 => [(1, tPtr rpDExpr e), (3, tD (rSl (rI .i64)) r.1), (5, tV (oslV l1 c1 out.length)), (6, tV (oslV l2 c2 open1.length))]) (fun out l1 c1 open1 l2 c2 h => nn h) (fun n ih out l1 c1 open1 l2 c2 h => ?_) FUEL ([] : List DExpr) none 0 ([(IntKind.i64.wrap ((e.Nodes.length : Int) - (1 : Int)))]) l c h) ⟨rfl, rfl, rfl, rfl, trivial⟩
    refine LG.unfold ?_
    refine CG.seq ?_
    refine CG.seq ?_
    refine CG.region ?_
    refine RG.op (ok_move (ht rfl)) rfl ?_
    refine RG.op (ok_lenO Tryz.underlying40 (.tail _ (.head _)) (ht rfl)) rfl ?_
    refine RG.op (ok_gtr (ht rfl) hI) rfl ?_
    refine RG.nil ?_
    refine AT.next ?_
    refine CG.cond (ht rfl) (fun hc => ?_) (fun hc => ?_)
    · have h := ct h hc
      refine CG.skip ?_
      refine AT.next ?_
      refine CG.bjoin6 (Z := fun out1 l3 c3 open2 l4 c4 => expr_Ands_k1 (expr_Ands_l1 e r n) out1 open2 = some R) (Of := fun out1 l3 c3 open2 l4 c4 => [arr rpDExpr 24 l3 c3 out1, arr (rI .i64) 3 l4 c4 open2]) (Gf := fun out1 l3 c3 open2 l4 c4 => [(1, tPtr rpDExpr e), (3, tD (rSl (rI .i64)) r.1), (5, tV (oslV l3 c3 out1.length)), (6, tV (oslV l4 c4 open2.length))]) (fun out1 l3 c3 open2 l4 c4 h => ?_) (fun K => ?_)
      · skip
        exact AT.round (LG.sub (ih out1 l3 c3 open2 l4 c4 h) ⟨rfl, rfl, rfl, rfl, trivial⟩)
      · skip
        refine CG.seq ?_
        refine CG.region ?_
        refine RG.op (ok_move (ht rfl)) rfl ?_
        refine RG.op (ok_move (ht rfl)) rfl ?_
        refine RG.op (ok_lenO Tryz.underlying40 (.tail _ (.head _)) (ht rfl)) rfl ?_
        refine RG.op (ok_sub (ht rfl) hI) rfl ?_
        obtain ⟨e1, q_e1, h⟩ := bs h
        refine RG.op (ok_indexAddrO Tryz.underlying40 ti3 (.tail _ (.head _)) (ht rfl) (ht rfl) q_e1) rfl ?_
        refine RG.op (ok_loadE (r := (rI .i64)) (i := (IntKind.i64.wrap ((open1.length : Int) - (1 : Int)))) (foff := 0) ti3 rfl rfl fld_whole rfl (.tail _ (.head _)) q_e1 (ht rfl)) rfl ?_
        refine RG.op (ok_assign (ht rfl)) rfl ?_
        refine RG.nil ?_
        refine AT.next ?_
        refine CG.seq ?_
        refine CG.region ?_
        refine RG.op (ok_move (ht rfl)) rfl ?_
        refine RG.op (ok_move (ht rfl)) rfl ?_
        refine RG.op (ok_lenO Tryz.underlying40 (.tail _ (.head _)) (ht rfl)) rfl ?_
        refine RG.op (ok_sub (ht rfl) hI) rfl ?_
        obtain ⟨y, q_y, h⟩ := bs h
        refine RG.op (ok_sliceHiO Tryz.underlying40 ti3 rfl (.tail _ (.head _)) (ht rfl) (ht rfl) q_y) rfl ?_
        refine RG.front1 ?_
        refine RG.cut q_y ?_
        refine RG.op (ok_assign (ht rfl)) rfl ?_
        refine RG.nil ?_
        refine AT.next ?_
        refine CG.seq ?_
        refine CG.region ?_
        refine RG.op (ok_fieldAddr fd24_0 rfl flDExpr_0 rfl (ht rfl)) rfl ?_
        refine RG.op (ok_load ti22 rfl rfl (ht rfl)) rfl ?_
        refine RG.op (ok_move (ht rfl)) rfl ?_
        obtain ⟨e2, q_e2, h⟩ := bs h
        refine RG.op (ok_indexAddr Tryz.underlying22 ti42 rfl (ht rfl) (ht rfl) q_e2) rfl ?_
        refine RG.op (ok_load ti42 rfl rfl (ht rfl)) rfl ?_
        refine RG.alloc (r := rpDENode) (x := (⟨(0 : Int), (0 : Int), (0 : Int), (0 : Int), (⟨(0 : Int), (0 : Int), (0 : Int), []⟩ : DValue)⟩ : DENode)) ti42 (fun _ => zrDENode _) rfl (fun b => ?_)
        refine RG.storeB ti42 rfl sfld_whole rfl (ht rfl) (ht rfl) ?_
        refine RG.settleB 8 rfl ?_
        refine RG.nil ?_
        refine AT.next ?_
        refine CG.seq ?_
        refine CG.seq ?_
        refine CG.region ?_
        refine RG.op (ok_fieldAddr fd42_0 rfl flDENode_0 rfl (ht rfl)) rfl ?_
        refine RG.op (ok_load ti3 rfl rfl (ht rfl)) rfl ?_
        refine RG.op (ok_eqlI (ht rfl) hI) rfl ?_
        refine RG.nil ?_
        refine AT.next ?_
        refine CG.cond (ht rfl) (fun hc => ?_) (fun hc => ?_)
        · have h := ct h hc
          refine CG.seq ?_
          refine CG.region ?_
          refine RG.op (ok_move (ht rfl)) rfl ?_
          refine RG.op (ok_fieldAddr fd42_2 rfl flDENode_2 rfl (ht rfl)) rfl ?_
          refine RG.op (ok_load ti3 rfl rfl (ht rfl)) rfl ?_
          refine RG.op (ok_fieldAddr fd42_1 rfl flDENode_1 rfl (ht rfl)) rfl ?_
          refine RG.op (ok_load ti3 rfl rfl (ht rfl)) rfl ?_
          refine RG.op (ok_buildSlice (r := (rI .i64)) (ys := [e2.R, e2.L]) (xs := [.tmp 49, .tmp 51]) Tryz.underlying40 ti3 rfl rfl rfl rfl rfl ⟨(ht rfl), (ht rfl), trivial⟩) rfl ?_
          obtain ⟨open3, q_open3, h⟩ := bs h
          refine RG.append ti3 rfl rfl rfl rfl Tryz.underlying40 rfl rfl (ht rfl) (ht rfl) q_open3 (fun l5 c5 => ?_)
          refine RG.op (ok_assign (ht rfl)) rfl ?_
          refine RG.nil ?_
          refine AT.next ?_
          refine CG.exit ?_
          refine AT.then_exit (AT.in_exit ?_)
          refine AT.front1 ?_
          exact AT.sub (K out l1 c1 open3 l5 c5 h) ⟨rfl, rfl, rfl, rfl, trivial⟩
        · have h := cf h hc
          refine CG.skip ?_
          refine AT.next ?_
          refine CG.seq ?_
          refine CG.region ?_
          refine RG.op (ok_move (ht rfl)) rfl ?_
          refine RG.op (ok_move (ht rfl)) rfl ?_
          obtain ⟨e3, q_e3, h⟩ := bs h
          refine RG.op (ok_indexAddr Tryz.underlying40 ti3 rfl (ht rfl) (ht rfl) q_e3) rfl ?_
          refine RG.op (ok_load ti3 rfl rfl (ht rfl)) rfl ?_
          refine RG.op (ok_assign (ht rfl)) rfl ?_
          refine RG.nil ?_
          refine AT.next ?_
          refine CG.seq ?_
          refine CG.region ?_
          refine RG.op (ok_fieldAddr fd24_0 rfl flDExpr_0 rfl (ht rfl)) rfl ?_
          refine RG.op (ok_load ti22 rfl rfl (ht rfl)) rfl ?_
          refine RG.op (ok_move (ht rfl)) rfl ?_
          refine RG.op (ok_move (ht rfl)) rfl ?_
          refine RG.op (ok_add (ht rfl) hI) rfl ?_
          obtain ⟨y1, q_y1, h⟩ := bs h
          refine RG.op (ok_slice2 Tryz.underlying22 ti42 rfl (ht rfl) (ht rfl) (ht rfl) q_y1) rfl ?_
          obtain ⟨r1, q_r1, h⟩ := bs h
          refine RG.callO cb54 (f54_own _ q_r1) ⟨(ht rfl), trivial⟩ rfl (fun l6 c6 => ?_)
          refine RG.op (ok_build (y := mkOExpr_0 (⟨r1⟩ : DExpr) (oslV l6 c6 r1.length)) ti24 fs24 zrOExpr_0 (⟨_, _, _, _, _, rfl, sfOExpr_0_0, rfl, (hRV (ht rfl)), rfl⟩)) rfl ?_
          refine RG.fresh false rpDENode 42 ?_
          refine RG.alloc (r := rpOExpr_0) (x := mkOExpr_0 (⟨[]⟩ : DExpr) (oslV none 0 (([] : List DENode).length))) ti24 zrOExpr_0 rfl (fun b1 => ?_)
          refine RG.storeFX ti24 rfl (sfx_whole rfl) rfl (ht rfl) (ht rfl) ?_
          refine RG.front1 ?_
          refine RG.drop ?_
          refine RG.nil ?_
          refine AT.next ?_
          refine CG.seq ?_
          refine CG.seq ?_
          refine CG.region ?_
          refine RG.op (ok_fieldAddrC (n := 0) fd24_0 rfl (ht rfl) rfl) rfl ?_
          refine RG.op (ok_loadFV ti22 flOExpr_0_0 (.head _) rfl (ht rfl)) rfl ?_
          refine RG.op (ok_lenO Tryz.underlying22 (.tail _ (.head _)) (ht rfl)) rfl ?_
          refine RG.op (ok_move hI) rfl ?_
          refine RG.nil ?_
          refine AT.next ?_
          refine CG.block ?_
          refine CG.have_lenA (.tail _ (.head _)) (fun hN => ?_)
          refine CG.loop ?_
          refine LG.front1 ?_
          refine LG.front1 ?_
          refine LG.front2 ?_
          refine LG.front3 ?_
          refine LG.sub (LG.list4 (Z := fun ls i part l7 c7 => (r1.drop i = ls) ∧ expr_Ands_l2 (expr_Ands_l1 e r n) out y e3 ls i part = some R) (Of := fun _ i part l7 c7 => [arr rpDExpr 24 l1 c1 out, arr (rI .i64) 3 l2 c2 y, bx rpOExpr_0 24 b1 (mkOExpr_0 part (oslV l7 c7 part.Nodes.length)), arr rpDENode 42 l7 c7 part.Nodes]) (Gf := fun _ i part l7 c7 => [(1, tPtr rpDExpr e), (3, tD (rSl (rI .i64)) r.1), (5, tV (oslV l1 c1 out.length)), (6, tV (oslV l2 c2 y.length)), (9, tD (rI .i64) e3), (10, tV (bptr b1 0)), (68, tD (rI .i64) (r1.length : Int)), (69, tD (rI .i64) (i : Int))]) (fun i part l7 c7 h => ?_) (fun e4 tl ih1 i part l7 c7 h => ?_) r1 0 ({ (⟨r1⟩ : DExpr) with Nodes := r1 } : DExpr) l6 c6 ⟨rfl, h⟩) ⟨rfl, rfl, rfl, rfl, rfl, rfl, rfl, rfl, trivial⟩
          · obtain ⟨hx, h⟩ := h
            refine LG.unfold ?_
            refine CG.seq ?_
            refine CG.region ?_
            refine RG.op (ok_lss (ht rfl) (ht rfl)) rfl ?_
            refine RG.nil ?_
            refine AT.next ?_
            refine CG.seq ?_
            refine CG.condF (ht rfl) (dropF hx) ?_
            refine CG.exit ?_
            refine AT.then_exit (AT.then_exit (AT.in_exit ?_))
            refine AT.next ?_
            refine CG.region ?_
            refine RG.op (ok_move (ht rfl)) rfl ?_
            refine RG.front3 ?_
            refine RG.freeze ?_
            refine RG.op (ok_loadObj (q := rpDExpr) (y := part) ti24 rfl rfl rfl rfl (.tail _ (.tail _ (.tail _ (.head _)))) (fun _ _ _ ho h => cvOExpr_0_to_D (own_tip ho (.head _)) h) (ht rfl)) rfl ?_
            refine RG.op (ok_buildSlice (r := rpDExpr) (ys := [part]) (xs := [.tmp 104]) Tryz.underlying51 ti24 rfl rfl rfl rfl rfl ⟨(ht rfl), trivial⟩) rfl ?_
            refine RG.front1 ?_
            obtain ⟨out2, q_out2, h⟩ := bs h
            refine RG.append ti24 rfl rfl rfl rfl Tryz.underlying51 rfl rfl (ht rfl) (ht rfl) q_out2 (fun l8 c8 => ?_)
            refine RG.op (ok_assign (ht rfl)) rfl ?_
            refine RG.nil ?_
            refine AT.in_normal ?_
            refine AT.front1 ?_
            refine AT.drop ?_
            refine AT.front2 ?_
            refine AT.drop ?_
            exact AT.sub (K out2 l8 c8 y l2 c2 h) ⟨rfl, rfl, rfl, rfl, trivial⟩
          · obtain ⟨hx, h⟩ := h
            refine LG.unfold ?_
            refine CG.seq ?_
            refine CG.region ?_
            refine RG.op (ok_lss (ht rfl) (ht rfl)) rfl ?_
            refine RG.nil ?_
            refine AT.next ?_
            refine CG.seq ?_
            refine CG.condT (ht rfl) (dropT hx) ?_
            refine CG.skip ?_
            refine AT.next ?_
            refine CG.seq ?_
            refine CG.block ?_
            refine CG.seq ?_
            refine CG.region ?_
            refine RG.op (ok_move (ht rfl)) rfl ?_
            refine RG.op (ok_assign (ht rfl)) rfl ?_
            refine RG.nil ?_
            refine AT.next ?_
            refine CG.seq ?_
            refine CG.region ?_
            refine RG.op (ok_fieldAddrC (n := 0) fd24_0 rfl (ht rfl) rfl) rfl ?_
            refine RG.op (ok_loadFV ti22 flOExpr_0_0 (.tail _ (.tail _ (.head _))) rfl (ht rfl)) rfl ?_
            refine RG.op (ok_move (ht rfl)) rfl ?_
            obtain ⟨e5, q_e5, h⟩ := bs h
            refine RG.op (ok_indexAddrO Tryz.underlying22 ti42 (.tail _ (.tail _ (.tail _ (.head _)))) (ht rfl) (ht rfl) q_e5) rfl ?_
            refine RG.op (ok_assign (ht rfl)) rfl ?_
            refine RG.nil ?_
            refine AT.next ?_
            refine CG.sjoin3 (Z := fun part1 l9 c9 => expr_Ands_k2 e3 (expr_Ands_l2 (expr_Ands_l1 e r n) out y e3 tl) i part1 = some R) (Of := fun part1 l9 c9 => [arr rpDExpr 24 l1 c1 out, arr (rI .i64) 3 l2 c2 y, bx rpOExpr_0 24 b1 (mkOExpr_0 part1 (oslV l9 c9 part1.Nodes.length)), arr rpDENode 42 l9 c9 part1.Nodes]) (Gf := fun part1 l9 c9 => [(1, tPtr rpDExpr e), (3, tD (rSl (rI .i64)) r.1), (5, tV (oslV l1 c1 out.length)), (6, tV (oslV l2 c2 y.length)), (9, tD (rI .i64) e3), (10, tV (bptr b1 0)), (12, tV (eptr l9 ((i : Int).toNat * 8 + 0))), (68, tD (rI .i64) (r1.length : Int)), (69, tD (rI .i64) (i : Int))]) (fun part1 l9 c9 h => ?_) (fun K1 => ?_)
            · skip
              refine CG.seq ?_
              refine CG.region ?_
              refine RG.op (ok_move (ht rfl)) rfl ?_
              obtain ⟨e6, q_e6, h⟩ := bs h
              refine RG.op (ok_nilE (.tail _ (.tail _ (.tail _ (.head _)))) q_e6 (ht rfl)) rfl ?_
              refine RG.op (ok_fieldAddrF (o := (i : Int).toNat * 8 + 0) (n := (i : Int).toNat * 8 + 2) fd42_2 rfl (.tail _ (.tail _ (.tail _ (.head _)))) q_e6 (ht rfl) rfl) rfl ?_
              refine RG.op (ok_loadE (r := rpDENode) (i := (i : Int)) (foff := 2) ti3 rfl rfl flDENode_2 rfl (.tail _ (.tail _ (.tail _ (.head _)))) q_e6 (ht rfl)) rfl ?_
              refine RG.op (ok_geq (ht rfl) hI) rfl ?_
              refine RG.nil ?_
              refine AT.next ?_
              refine CG.cond (ht rfl) (fun hc => ?_) (fun hc => ?_)
              · have h := ct h hc
                refine CG.region ?_
                refine RG.op (ok_move (ht rfl)) rfl ?_
                refine RG.op (ok_nilE (.tail _ (.tail _ (.tail _ (.head _)))) q_e6 (ht rfl)) rfl ?_
                refine RG.op (ok_fieldAddrF (o := (i : Int).toNat * 8 + 0) (n := (i : Int).toNat * 8 + 2) fd42_2 rfl (.tail _ (.tail _ (.tail _ (.head _)))) q_e6 (ht rfl) rfl) rfl ?_
                refine RG.op (ok_loadE (r := rpDENode) (i := (i : Int)) (foff := 2) ti3 rfl rfl flDENode_2 rfl (.tail _ (.tail _ (.tail _ (.head _)))) q_e6 (ht rfl)) rfl ?_
                refine RG.op (ok_move (ht rfl)) rfl ?_
                refine RG.op (ok_sub (ht rfl) (ht rfl)) rfl ?_
                refine RG.op (ok_nilE (.tail _ (.tail _ (.tail _ (.head _)))) q_e6 (ht rfl)) rfl ?_
                refine RG.op (ok_fieldAddrF (o := (i : Int).toNat * 8 + 0) (n := (i : Int).toNat * 8 + 2) fd42_2 rfl (.tail _ (.tail _ (.tail _ (.head _)))) q_e6 (ht rfl) rfl) rfl ?_
                refine RG.front3 ?_
                obtain ⟨st, q_st, h⟩ := bs h
                refine RG.storeE ti3 rfl sfDENode_2 rfl q_e6 (so q_st) (ht rfl) (ht rfl) ?_
                refine RG.castO (O' := [arr rpDENode 42 l9 c9 st, arr rpDExpr 24 l1 c1 out, arr (rI .i64) 3 l2 c2 y, bx rpOExpr_0 24 b1 (mkOExpr_0 part1 (oslV l9 c9 st.length))]) (by rw [set_len (so q_st)]) ?_
                refine RG.nil ?_
                refine AT.in_normal ?_
                refine AT.next ?_
                refine CG.region ?_
                refine RG.op (ok_incN (dropL hx hN) (ht rfl) hI) rfl ?_
                refine RG.op (ok_move (ht rfl)) rfl ?_
                refine RG.nil ?_
                refine AT.front3 ?_
                refine AT.front3 ?_
                refine AT.front3 ?_
                exact AT.round (LG.sub (ih1 (i + 1) ({ part1 with Nodes := st } : DExpr) l9 c9 ⟨dropS hx, h⟩) ⟨rfl, rfl, rfl, rfl, rfl, rfl, rfl, rfl, trivial⟩)
              · have h := cf h hc
                refine CG.skip ?_
                refine AT.in_normal ?_
                refine AT.next ?_
                refine CG.region ?_
                refine RG.op (ok_incN (dropL hx hN) (ht rfl) hI) rfl ?_
                refine RG.op (ok_move (ht rfl)) rfl ?_
                refine RG.nil ?_
                exact AT.round (LG.sub (ih1 (i + 1) part1 l9 c9 ⟨dropS hx, h⟩) ⟨rfl, rfl, rfl, rfl, rfl, rfl, rfl, rfl, trivial⟩)
            · skip
              refine CG.seq ?_
              refine CG.region ?_
              refine RG.op (ok_move (ht rfl)) rfl ?_
              refine RG.op (ok_nilE (.tail _ (.tail _ (.tail _ (.head _)))) q_e5 (ht rfl)) rfl ?_
              refine RG.op (ok_fieldAddrF (o := (i : Int).toNat * 8 + 0) (n := (i : Int).toNat * 8 + 1) fd42_1 rfl (.tail _ (.tail _ (.tail _ (.head _)))) q_e5 (ht rfl) rfl) rfl ?_
              refine RG.op (ok_loadE (r := rpDENode) (i := (i : Int)) (foff := 1) ti3 rfl rfl flDENode_1 rfl (.tail _ (.tail _ (.tail _ (.head _)))) q_e5 (ht rfl)) rfl ?_
              refine RG.op (ok_geq (ht rfl) hI) rfl ?_
              refine RG.nil ?_
              refine AT.next ?_
              refine CG.cond (ht rfl) (fun hc => ?_) (fun hc => ?_)
              · have h := ct h hc
                refine CG.region ?_
                refine RG.op (ok_move (ht rfl)) rfl ?_
                refine RG.op (ok_nilE (.tail _ (.tail _ (.tail _ (.head _)))) q_e5 (ht rfl)) rfl ?_
                refine RG.op (ok_fieldAddrF (o := (i : Int).toNat * 8 + 0) (n := (i : Int).toNat * 8 + 1) fd42_1 rfl (.tail _ (.tail _ (.tail _ (.head _)))) q_e5 (ht rfl) rfl) rfl ?_
                refine RG.op (ok_loadE (r := rpDENode) (i := (i : Int)) (foff := 1) ti3 rfl rfl flDENode_1 rfl (.tail _ (.tail _ (.tail _ (.head _)))) q_e5 (ht rfl)) rfl ?_
                refine RG.op (ok_move (ht rfl)) rfl ?_
                refine RG.op (ok_sub (ht rfl) (ht rfl)) rfl ?_
                refine RG.op (ok_nilE (.tail _ (.tail _ (.tail _ (.head _)))) q_e5 (ht rfl)) rfl ?_
                refine RG.op (ok_fieldAddrF (o := (i : Int).toNat * 8 + 0) (n := (i : Int).toNat * 8 + 1) fd42_1 rfl (.tail _ (.tail _ (.tail _ (.head _)))) q_e5 (ht rfl) rfl) rfl ?_
                refine RG.front3 ?_
                obtain ⟨st1, q_st1, h⟩ := bs h
                refine RG.storeE ti3 rfl sfDENode_1 rfl q_e5 (so q_st1) (ht rfl) (ht rfl) ?_
                refine RG.relen2 (set_len (so q_st1)) 73 rfl ?_
                refine RG.castO (O' := [arr rpDENode 42 l7 c7 st1, arr rpDExpr 24 l1 c1 out, arr (rI .i64) 3 l2 c2 y, bx rpOExpr_0 24 b1 (mkOExpr_0 part (oslV l7 c7 st1.length))]) (by rw [set_len (so q_st1)]) ?_
                refine RG.nil ?_
                refine AT.front3 ?_
                refine AT.front3 ?_
                refine AT.front3 ?_
                exact AT.sub (K1 ({ part with Nodes := st1 } : DExpr) l7 c7 h) ⟨rfl, rfl, rfl, rfl, rfl, rfl, rfl, rfl, rfl, trivial⟩
              · have h := cf h hc
                refine CG.skip ?_
                exact AT.sub (K1 part l7 c7 h) ⟨rfl, rfl, rfl, rfl, rfl, rfl, rfl, rfl, rfl, trivial⟩
    · have h := cf h hc
      refine CG.exit ?_
      refine AT.then_exit (AT.then_exit (AT.in_exit ?_))
      refine AT.next ?_
      refine CG.seq ?_
      refine CG.region ?_
      refine RG.op (ok_move (ht rfl)) rfl ?_
      refine RG.op (ok_assign (ht rfl)) rfl ?_
      refine RG.nil ?_
      refine AT.next ?_
      refine CG.ret ?_
      cases so h
      exact AT.retO rfl rfl
theorem f28_ok (e : DExpr) {R : (List DExpr)} (h : expr_Ands e = some R) : Spec Tryz.prog 28 [tD rpDExpr e] (tD (rSl rpDExpr) R) := (f28_own _ h).spec

set_option maxRecDepth 100000 in
theorem f65_ok (s1 : (List DENode)) (s2 : (List DENode)) {R : Bool} (h : slices_Equal_api_ENode_api_ENode s1 s2 = some R) : Spec Tryz.prog 65 [tD (rSl rpDENode) s1, tD (rSl rpDENode) s2] (tD rB R) := by
  refine Spec.of Tryz.func65 rfl rfl rfl fun w0 S0 => ?_
  refine CG.seq ?_
  refine CG.region ?_
  refine RG.op (ok_assign hB) rfl ?_
  refine RG.nil ?_
  refine AT.next ?_
  refine CG.seq ?_
  refine CG.seq ?_
  refine CG.region ?_
  refine RG.op (ok_move (ht rfl)) rfl ?_
  refine RG.op (ok_lenSl Tryz.underlying22 (ht rfl)) rfl ?_
  refine RG.op (ok_move (ht rfl)) rfl ?_
  refine RG.op (ok_lenSl Tryz.underlying22 (ht rfl)) rfl ?_
  refine RG.op (ok_neqI (ht rfl) (ht rfl)) rfl ?_
  refine RG.nil ?_
  refine AT.next ?_
  refine CG.cond (ht rfl) (fun hc => ?_) (fun hc => ?_)
  · have h := ct h hc
    refine CG.seq ?_
    refine CG.region ?_
    refine RG.op (ok_assign hB) rfl ?_
    refine RG.nil ?_
    refine AT.next ?_
    refine CG.ret ?_
    refine AT.then_ret ?_
    cases so h
    exact AT.ret1 rfl rfl
  · have h := cf h hc
    refine CG.skip ?_
    refine AT.next ?_
    refine CG.seq ?_
    refine CG.seq ?_
    refine CG.region ?_
    refine RG.op (ok_move (ht rfl)) rfl ?_
    refine RG.op (ok_lenSl Tryz.underlying22 (ht rfl)) rfl ?_
    refine RG.op (ok_move hI) rfl ?_
    refine RG.nil ?_
    refine AT.next ?_
    refine CG.block ?_
    refine CG.have_len (k := 11) rfl (fun hN => ?_)
    refine CG.loop ?_
    refine LG.sub (LG.list1 (Z := fun ls i  => (s1.drop i = ls) ∧ slices_Equal_api_ENode_api_ENode_l1 s2 ls i  = some R) (Of := fun _ i  => []) (Gf := fun _ i  => [(0, tD (rSl rpDENode) s1), (1, tD (rSl rpDENode) s2), (12, tD (rI .i64) (s1.length : Int)), (13, tD (rI .i64) (i : Int))]) (fun i  h => ?_) (fun e tl ih i  h => ?_) s1 0  ⟨rfl, h⟩) ⟨rfl, rfl, rfl, rfl, trivial⟩
    · obtain ⟨hx, h⟩ := h
      refine LG.unfold ?_
      refine CG.seq ?_
      refine CG.region ?_
      refine RG.op (ok_lss (ht rfl) (ht rfl)) rfl ?_
      refine RG.nil ?_
      refine AT.next ?_
      refine CG.seq ?_
      refine CG.condF (ht rfl) (dropF hx) ?_
      refine CG.exit ?_
      refine AT.then_exit (AT.then_exit (AT.in_exit ?_))
      refine AT.next ?_
      refine CG.seq ?_
      refine CG.region ?_
      refine RG.op (ok_assign hB) rfl ?_
      refine RG.nil ?_
      refine AT.next ?_
      refine CG.ret ?_
      cases so h
      exact AT.ret1 rfl rfl
    · obtain ⟨hx, h⟩ := h
      refine LG.unfold ?_
      refine CG.seq ?_
      refine CG.region ?_
      refine RG.op (ok_lss (ht rfl) (ht rfl)) rfl ?_
      refine RG.nil ?_
      refine AT.next ?_
      refine CG.seq ?_
      refine CG.condT (ht rfl) (dropT hx) ?_
      refine CG.skip ?_
      refine AT.next ?_
      refine CG.seq ?_
      refine CG.block ?_
      refine CG.seq ?_
      refine CG.region ?_
      refine RG.op (ok_move (ht rfl)) rfl ?_
      refine RG.op (ok_assign (ht rfl)) rfl ?_
      refine RG.nil ?_
      refine AT.next ?_
      refine CG.seq ?_
      obtain ⟨e1, q_e1, h⟩ := bs h
      refine CG.draw (ts := [tD (rSl rpDENode) s1, tD (rI .i64) (i : Int), tPtr rpDENode e, tD rpDENode e, tD (rSl rpDENode) s2, tD (rI .i64) (i : Int), tPtr rpDENode e1, tD rpDENode e1, tD rB (!decide (e = e1))]) mixed rfl rfl
        ⟨⟨[⟨0, _, none⟩], _, rfl, ⟨rfl, trivial⟩, rfl, rfl, OpG.plain rfl (ok_move (ht rfl))⟩,
        ⟨⟨[⟨5, _, none⟩], _, rfl, ⟨rfl, trivial⟩, rfl, rfl, OpG.plain rfl (ok_move (ht rfl))⟩,
        ⟨⟨[⟨16, _, some 0⟩, ⟨17, _, some 1⟩], _, rfl, ⟨rfl, rfl, trivial⟩, rfl, rfl, OpG.plain rfl (ok_indexAddr Tryz.underlying22 ti42 rfl (ht rfl) (ht rfl) (dropI hx))⟩,
        ⟨⟨[⟨18, _, some 2⟩], _, rfl, ⟨rfl, trivial⟩, rfl, rfl, OpG.plain rfl (ok_load ti42 rfl rfl (ht rfl))⟩,
        ⟨⟨[⟨1, _, none⟩], _, rfl, ⟨rfl, trivial⟩, rfl, rfl, OpG.plain rfl (ok_move (ht rfl))⟩,
        ⟨⟨[⟨5, _, none⟩], _, rfl, ⟨rfl, trivial⟩, rfl, rfl, OpG.plain rfl (ok_move (ht rfl))⟩,
        ⟨⟨[⟨20, _, some 4⟩, ⟨21, _, some 5⟩], _, rfl, ⟨rfl, rfl, trivial⟩, rfl, rfl, OpG.plain rfl (ok_indexAddr Tryz.underlying22 ti42 rfl (ht rfl) (ht rfl) q_e1)⟩,
        ⟨⟨[⟨22, _, some 6⟩], _, rfl, ⟨rfl, trivial⟩, rfl, rfl, OpG.plain rfl (ok_load ti42 rfl rfl (ht rfl))⟩,
        ⟨⟨[⟨19, _, some 3⟩, ⟨23, _, some 7⟩], _, rfl, ⟨rfl, rfl, trivial⟩, rfl, rfl, OpG.plain rfl (ok_neqD eq42 (ht rfl) (ht rfl))⟩,
        trivial⟩⟩⟩⟩⟩⟩⟩⟩⟩ ?_
      refine AT.next ?_
      refine CG.cond (ht rfl) (fun hc => ?_) (fun hc => ?_)
      · have h := ct h hc
        refine CG.seq ?_
        refine CG.region ?_
        refine RG.op (ok_assign hB) rfl ?_
        refine RG.nil ?_
        refine AT.next ?_
        refine CG.ret ?_
        refine AT.in_ret (AT.then_ret (AT.then_ret (AT.in_ret (AT.then_ret ?_))))
        cases so h
        exact AT.ret1 rfl rfl
      · have h := cf h hc
        refine CG.skip ?_
        refine AT.in_normal ?_
        refine AT.next ?_
        refine CG.region ?_
        refine RG.op (ok_incN (dropL hx hN) (ht rfl) hI) rfl ?_
        refine RG.op (ok_move (ht rfl)) rfl ?_
        refine RG.nil ?_
        exact AT.round (LG.sub (ih (i + 1)  ⟨dropS hx, h⟩) ⟨rfl, rfl, rfl, rfl, trivial⟩)

set_option maxRecDepth 100000 in
theorem f32_ok (a1 : DExpr) (b : DExpr) {R : Bool} (h : expr_Same a1 b = some R) : Spec Tryz.prog 32 [tD rpDExpr a1, tD rpDExpr b] (tD rB R) := by
  refine Spec.of Tryz.func32 rfl rfl rfl fun w0 S0 => ?_
  refine CG.seq ?_
  refine CG.region ?_
  refine RG.op (ok_box (ht rfl)) rfl ?_
  refine RG.op (ok_box (ht rfl)) rfl ?_
  refine RG.op (ok_assign hB) rfl ?_
  refine RG.nil ?_
  refine AT.next ?_
  refine CG.seq ?_
  refine CG.region ?_
  refine RG.op (ok_fieldAddr fd24_0 rfl flDExpr_0 rfl (ht rfl)) rfl ?_
  refine RG.op (ok_load ti22 rfl rfl (ht rfl)) rfl ?_
  refine RG.op (ok_fieldAddr fd24_0 rfl flDExpr_0 rfl (ht rfl)) rfl ?_
  refine RG.op (ok_load ti22 rfl rfl (ht rfl)) rfl ?_
  obtain ⟨r, q_r, h⟩ := bs h
  refine RG.op (ok_call cb65 (f65_ok _ _ q_r) ⟨(ht rfl), (ht rfl), trivial⟩) rfl ?_
  refine RG.op (ok_assign (ht rfl)) rfl ?_
  refine RG.nil ?_
  refine AT.next ?_
  refine CG.ret ?_
  cases so h
  exact AT.ret1 rfl rfl

set_option maxRecDepth 100000 in
theorem f108_ok (k : Int) (want : Int) {R : Bool} (h : ref10_fits k want = some R) : Spec Tryz.prog 108 [tD (rI .i64) k, tD (rI .i64) want] (tD rB R) := by
  refine Spec.of Tryz.func108 rfl rfl rfl fun w0 S0 => ?_
  refine CG.seq ?_
  refine CG.region ?_
  refine RG.op (ok_assign hB) rfl ?_
  refine RG.nil ?_
  refine AT.next ?_
  refine CG.seq ?_
  refine CG.region ?_
  refine RG.op (ok_move (ht rfl)) rfl ?_
  refine RG.op (ok_move (ht rfl)) rfl ?_
  refine RG.op (ok_eqlI (ht rfl) (ht rfl)) rfl ?_
  refine RG.op (ok_move (ht rfl)) rfl ?_
  refine RG.opGf rfl rfl rfl rfl (fun hg => ok_move (ht rfl)) ?_
  refine RG.opGf rfl rfl rfl rfl (fun hg => ok_eqlI (htO rfl hg) hI) ?_
  refine RG.op (ok_pickOr (ht rfl) (fun hb => (htO rfl (noti hb)))) rfl ?_
  refine RG.op (ok_assign (ht rfl)) rfl ?_
  refine RG.nil ?_
  refine AT.next ?_
  refine CG.ret ?_
  cases so h
  exact AT.ret1 rfl rfl

set_option maxRecDepth 100000 in
theorem f68_ok (tag : Int) (l : Int) (r : Int) {R : Int × Bool} (h : ref10_kind tag l r = some R) : Spec Tryz.prog 68 [tD (rI .i64) tag, tD (rI .i64) l, tD (rI .i64) r] (tT [tD (rI .i64) R.1, tD rB R.2]) := by
  refine Spec.of Tryz.func68 rfl rfl rfl fun w0 S0 => ?_
  refine CG.seq ?_
  refine CG.region ?_
  refine RG.op (ok_assign hI) rfl ?_
  refine RG.op (ok_assign hB) rfl ?_
  refine RG.nil ?_
  refine AT.next ?_
  refine CG.seq ?_
  refine CG.block ?_
  refine CG.seq ?_
  refine CG.region ?_
  refine RG.op (ok_move (ht rfl)) rfl ?_
  refine RG.op (ok_eqlI (ht rfl) hI) rfl ?_
  refine RG.op (ok_move (ht rfl)) rfl ?_
  refine RG.opGf rfl rfl rfl rfl (fun hg => ok_move (ht rfl)) ?_
  refine RG.opGf rfl rfl rfl rfl (fun hg => ok_geq (htO rfl hg) hI) ?_
  refine RG.opGf rfl rfl rfl rfl (fun hg => ok_move (htO rfl hg)) ?_
  refine RG.opGot rfl rfl rfl rfl (fun hg => ok_move (ht rfl)) ?_
  refine RG.opGot rfl rfl rfl rfl (fun hg => ok_leq (htO rfl hg) hI) ?_
  refine RG.opGf rfl rfl rfl rfl (fun hg => ok_pickAnd (htO rfl hg) (fun hb => (htO rfl (andi hg hb)))) ?_
  refine RG.op (ok_pickOr (ht rfl) (fun hb => (htO rfl (noti hb)))) rfl ?_
  refine RG.op (ok_assign (ht rfl)) rfl ?_
  refine RG.nil ?_
  refine AT.next ?_
  refine CG.cond (ht rfl) (fun hc => ?_) (fun hc => ?_)
  · have h := ct h hc
    refine CG.seq ?_
    refine CG.region ?_
    refine RG.op (ok_move (ht rfl)) rfl ?_
    obtain ⟨r1, q_r1, h⟩ := bs h
    refine RG.op (ok_call cb108 (f108_ok _ _ q_r1) ⟨(ht rfl), hI, trivial⟩) rfl ?_
    refine RG.op (ok_move (ht rfl)) rfl ?_
    obtain ⟨t, q_t, h⟩ := bs h
    refine RG.opGt rfl rfl rfl rfl (fun hg => ok_move (ht rfl)) ?_
    obtain ⟨r2, h1t, h0t⟩ := og q_t
    have q_r2g := fun hb => (h1t hb).1
    refine RG.opGt rfl rfl rfl rfl (fun hg => ok_call cb108 (f108_ok _ _ (q_r2g hg)) ⟨(htO rfl hg), hI, trivial⟩) ?_
    refine RG.op (ok_pickAndM (ht rfl) (fun hb => (htO rfl hb)) (fun hb => (h1t hb).2) h0t) rfl ?_
    refine RG.op (ok_assign hI) rfl ?_
    refine RG.op (ok_assign (ht rfl)) rfl ?_
    refine RG.nil ?_
    refine AT.next ?_
    refine CG.ret ?_
    refine AT.in_ret (AT.then_ret ?_)
    cases so h
    exact AT.ret2 rfl rfl rfl
  · have h := cf h hc
    refine CG.seq ?_
    refine CG.region ?_
    refine RG.op (ok_move (ht rfl)) rfl ?_
    refine RG.op (ok_eqlI (ht rfl) hI) rfl ?_
    refine RG.op (ok_move (ht rfl)) rfl ?_
    refine RG.opGf rfl rfl rfl rfl (fun hg => ok_move (ht rfl)) ?_
    refine RG.opGf rfl rfl rfl rfl (fun hg => ok_geq (htO rfl hg) hI) ?_
    refine RG.op (ok_pickOr (ht rfl) (fun hb => (htO rfl (noti hb)))) rfl ?_
    refine RG.op (ok_assign (ht rfl)) rfl ?_
    refine RG.nil ?_
    refine AT.next ?_
    refine CG.cond (ht rfl) (fun hc => ?_) (fun hc => ?_)
    · have h := ct h hc
      refine CG.seq ?_
      refine CG.region ?_
      refine RG.op (ok_move (ht rfl)) rfl ?_
      obtain ⟨r3, q_r3, h⟩ := bs h
      refine RG.op (ok_call cb108 (f108_ok _ _ q_r3) ⟨(ht rfl), hI, trivial⟩) rfl ?_
      refine RG.op (ok_move (ht rfl)) rfl ?_
      obtain ⟨t1, q_t1, h⟩ := bs h
      refine RG.opGt rfl rfl rfl rfl (fun hg => ok_move (ht rfl)) ?_
      obtain ⟨r4, h1t1, h0t1⟩ := og q_t1
      have q_r4g := fun hb => (h1t1 hb).1
      refine RG.opGt rfl rfl rfl rfl (fun hg => ok_call cb108 (f108_ok _ _ (q_r4g hg)) ⟨(htO rfl hg), hI, trivial⟩) ?_
      refine RG.op (ok_pickAndM (ht rfl) (fun hb => (htO rfl hb)) (fun hb => (h1t1 hb).2) h0t1) rfl ?_
      refine RG.op (ok_assign hI) rfl ?_
      refine RG.op (ok_assign (ht rfl)) rfl ?_
      refine RG.nil ?_
      refine AT.next ?_
      refine CG.ret ?_
      refine AT.in_ret (AT.then_ret ?_)
      cases so h
      exact AT.ret2 rfl rfl rfl
    · have h := cf h hc
      refine CG.seq ?_
      refine CG.region ?_
      refine RG.op (ok_move (ht rfl)) rfl ?_
      refine RG.op (ok_eqlI (ht rfl) hI) rfl ?_
      refine RG.op (ok_move (ht rfl)) rfl ?_
      refine RG.opGf rfl rfl rfl rfl (fun hg => ok_move (ht rfl)) ?_
      refine RG.opGf rfl rfl rfl rfl (fun hg => ok_eqlI (htO rfl hg) hI) ?_
      refine RG.op (ok_pickOr (ht rfl) (fun hb => (htO rfl (noti hb)))) rfl ?_
      refine RG.op (ok_assign (ht rfl)) rfl ?_
      refine RG.nil ?_
      refine AT.next ?_
      refine CG.cond (ht rfl) (fun hc => ?_) (fun hc => ?_)
      · have h := ct h hc
        refine CG.seq ?_
        refine CG.region ?_
        refine RG.op (ok_assign hI) rfl ?_
        refine RG.op (ok_assign hB) rfl ?_
        refine RG.nil ?_
        refine AT.next ?_
        refine CG.ret ?_
        refine AT.in_ret (AT.then_ret ?_)
        cases so h
        exact AT.ret2 rfl rfl rfl
      · have h := cf h hc
        refine CG.skip ?_
        refine AT.in_normal ?_
        refine AT.next ?_
        refine CG.seq ?_
        refine CG.region ?_
        refine RG.op (ok_move (ht rfl)) rfl ?_
        refine RG.op (ok_move (ht rfl)) rfl ?_
        refine RG.op (ok_eqlI (ht rfl) (ht rfl)) rfl ?_
        refine RG.op (ok_move (ht rfl)) rfl ?_
        refine RG.opGf rfl rfl rfl rfl (fun hg => ok_move (ht rfl)) ?_
        refine RG.opGf rfl rfl rfl rfl (fun hg => ok_eqlI (htO rfl hg) hI) ?_
        refine RG.op (ok_pickOr (ht rfl) (fun hb => (htO rfl (noti hb)))) rfl ?_
        refine RG.op (ok_move (ht rfl)) rfl ?_
        refine RG.opGf rfl rfl rfl rfl (fun hg => ok_move (ht rfl)) ?_
        refine RG.opGf rfl rfl rfl rfl (fun hg => ok_eqlI (htO rfl hg) hI) ?_
        refine RG.op (ok_pickOr (ht rfl) (fun hb => (htO rfl (noti hb)))) rfl ?_
        refine RG.op (ok_assign hI) rfl ?_
        refine RG.op (ok_assign (ht rfl)) rfl ?_
        refine RG.nil ?_
        refine AT.next ?_
        refine CG.ret ?_
        cases so h
        exact AT.ret2 rfl rfl rfl

end Go.Proofs.YtdhledkpgaeoaaaGreatDoor

