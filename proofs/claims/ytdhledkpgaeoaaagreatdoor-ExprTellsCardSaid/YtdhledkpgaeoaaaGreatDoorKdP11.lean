/- Facts of this claim: P11. -/
import Derived.Test.YtdhledkpgaeoaaaGreatDoorKdT
import Derived.Test.YtdhledkpgaeoaaaGreatDoorKdP10
namespace Go.Proofs.YtdhledkpgaeoaaaGreatDoor
open Go

set_option maxRecDepth 100000 in
theorem f34_ok (e : DExpr) (kinds : (List Int)) {R : Int × Int} (h : ref10_Kind e kinds = some R) : Spec Tryz.prog 34 [tD rpDExpr e, tD (rSl (rI .i64)) kinds] (tT [tD (rI .i64) R.1, tD (rI .i64) R.2]) := by
  refine Spec.of Tryz.func34 rfl rfl rfl fun w0 S0 => ?_
  refine CG.seq ?_
  refine CG.region ?_
  refine RG.op (ok_box (ht rfl)) rfl ?_
  refine RG.op (ok_assign hI) rfl ?_
  refine RG.op (ok_assign hI) rfl ?_
  refine RG.nil ?_
  refine AT.next ?_
  refine CG.seq ?_
  refine CG.seq ?_
  refine CG.region ?_
  refine RG.op (ok_load ti24 rfl rfl (ht rfl)) rfl ?_
  obtain ⟨r, q_r, h⟩ := bs h
  refine RG.op (ok_call cb13 (f13_ok _ q_r) ⟨(ht rfl), trivial⟩) rfl ?_
  refine RG.op (ok_not (ht rfl)) rfl ?_
  refine RG.nil ?_
  refine AT.next ?_
  refine CG.cond (ht rfl) (fun hc => ?_) (fun hc => ?_)
  · have h := ct h hc
    refine CG.seq ?_
    refine CG.region ?_
    refine RG.op (ok_assign hI) rfl ?_
    refine RG.op (ok_assign hI) rfl ?_
    refine RG.nil ?_
    refine AT.next ?_
    refine CG.ret ?_
    refine AT.then_ret ?_
    cases so h
    exact AT.ret2 rfl rfl rfl
  · have h := cf h hc
    refine CG.skip ?_
    refine AT.next ?_
    refine CG.seq ?_
    refine CG.seq ?_
    refine CG.region ?_
    refine RG.op (ok_move (ht rfl)) rfl ?_
    refine RG.op (ok_lenSl Tryz.underlying40 (ht rfl)) rfl ?_
    refine RG.op (ok_move hI) rfl ?_
    refine RG.nil ?_
    refine AT.next ?_
    refine CG.block ?_
    refine CG.have_len (k := 20) rfl (fun hN => ?_)
    refine CG.loop ?_
    refine LG.sub (LG.list1 (Z := fun ls i  => (kinds.drop i = ls) ∧ ref10_Kind_l1 e kinds ls  = some R) (Of := fun _ i  => []) (Gf := fun _ i  => [(1, tD (rSl (rI .i64)) kinds), (2, tPtr rpDExpr e), (20, tD (rSl (rI .i64)) kinds), (21, tD (rI .i64) (kinds.length : Int)), (22, tD (rI .i64) (i : Int))]) (fun i  h => ?_) (fun e1 tl ih i  h => ?_) kinds 0  ⟨rfl, h⟩) ⟨rfl, rfl, rfl, rfl, rfl, trivial⟩
    · obtain ⟨hx, h⟩ := h
      refine LG.unfold ?_
      refine CG.seq ?_
      refine CG.region ?_
      refine RG.op (ok_lss (ht rfl) (ht rfl)) rfl ?_
      refine RG.nil ?_
      refine AT.next ?_
      refine CG.seq ?_
      refine CG.condF (ht rfl) (dropF hx) ?_
      refine CG.exit ?_
      refine AT.then_exit (AT.then_exit (AT.in_exit ?_))
      refine AT.next ?_
      refine CG.seq ?_
      refine CG.seq ?_
      refine CG.region ?_
      refine RG.op (ok_fieldAddr fd24_0 rfl flDExpr_0 rfl (ht rfl)) rfl ?_
      refine RG.op (ok_load ti22 rfl rfl (ht rfl)) rfl ?_
      refine RG.op (ok_lenSl Tryz.underlying22 (ht rfl)) rfl ?_
      refine RG.op (ok_move hI) rfl ?_
      refine RG.nil ?_
      refine AT.next ?_
      refine CG.block ?_
      refine CG.have_len (k := 34) rfl (fun hN1 => ?_)
      refine CG.loop ?_
      refine LG.sub (LG.list1 (Z := fun ls1 i1  => (e.Nodes.drop i1 = ls1) ∧ ref10_Kind_l2 e kinds ls1  = some R) (Of := fun _ i1  => []) (Gf := fun _ i1  => [(1, tD (rSl (rI .i64)) kinds), (2, tPtr rpDExpr e), (34, tD (rSl rpDENode) e.Nodes), (35, tD (rI .i64) (e.Nodes.length : Int)), (36, tD (rI .i64) (i1 : Int))]) (fun i1  h => ?_) (fun e2 tl1 ih1 i1  h => ?_) e.Nodes 0  ⟨rfl, h⟩) ⟨rfl, rfl, rfl, rfl, rfl, trivial⟩
      · obtain ⟨hx1, h⟩ := h
        refine LG.unfold ?_
        refine CG.seq ?_
        refine CG.region ?_
        refine RG.op (ok_lss (ht rfl) (ht rfl)) rfl ?_
        refine RG.nil ?_
        refine AT.next ?_
        refine CG.seq ?_
        refine CG.condF (ht rfl) (dropF hx1) ?_
        refine CG.exit ?_
        refine AT.then_exit (AT.then_exit (AT.in_exit ?_))
        refine AT.next ?_
        refine CG.seq ?_
        refine CG.region ?_
        refine RG.fresh false (rI .i64) 3 ?_
        refine RG.op (ok_assign hVn) rfl ?_
        refine RG.nil ?_
        refine AT.next ?_
        refine CG.seq ?_
        refine CG.seq ?_
        refine CG.region ?_
        refine RG.op (ok_fieldAddr fd24_0 rfl flDExpr_0 rfl (ht rfl)) rfl ?_
        refine RG.op (ok_load ti22 rfl rfl (ht rfl)) rfl ?_
        refine RG.op (ok_lenSl Tryz.underlying22 (ht rfl)) rfl ?_
        refine RG.op (ok_move hI) rfl ?_
        refine RG.nil ?_
        refine AT.next ?_
        refine CG.block ?_
        refine CG.have_len (k := 52) rfl (fun hN2 => ?_)
        refine CG.loop ?_
        refine LG.sub (LG.list4 (Z := fun ls2 i2 own l c => (e.Nodes.drop i2 = ls2) ∧ ref10_Kind_l3 kinds ls2 own = some R) (Of := fun _ i2 own l c => [arr (rI .i64) 3 l c own]) (Gf := fun _ i2 own l c => [(1, tD (rSl (rI .i64)) kinds), (10, tV (oslV l c own.length)), (52, tD (rSl rpDENode) e.Nodes), (53, tD (rI .i64) (e.Nodes.length : Int)), (54, tD (rI .i64) (i2 : Int))]) (fun i2 own l c h => ?_) (fun e3 tl2 ih2 i2 own l c h => ?_) e.Nodes 0 ([] : List Int) none 0 ⟨rfl, h⟩) ⟨rfl, rfl, rfl, rfl, rfl, trivial⟩
        · obtain ⟨hx2, h⟩ := h
          refine LG.unfold ?_
          refine CG.seq ?_
          refine CG.region ?_
          refine RG.op (ok_lss (ht rfl) (ht rfl)) rfl ?_
          refine RG.nil ?_
          refine AT.next ?_
          refine CG.seq ?_
          refine CG.condF (ht rfl) (dropF hx2) ?_
          refine CG.exit ?_
          refine AT.then_exit (AT.then_exit (AT.in_exit ?_))
          refine AT.next ?_
          refine CG.seq ?_
          refine CG.region ?_
          refine RG.op (ok_move (ht rfl)) rfl ?_
          refine RG.op (ok_move (ht rfl)) rfl ?_
          refine RG.op (ok_lenO Tryz.underlying40 (.head _) (ht rfl)) rfl ?_
          refine RG.op (ok_sub (ht rfl) hI) rfl ?_
          obtain ⟨e4, q_e4, h⟩ := bs h
          refine RG.op (ok_indexAddrO Tryz.underlying40 ti3 (.head _) (ht rfl) (ht rfl) q_e4) rfl ?_
          refine RG.op (ok_loadE (r := (rI .i64)) (i := (IntKind.i64.wrap ((own.length : Int) - (1 : Int)))) (foff := 0) ti3 rfl rfl fld_whole rfl (.head _) q_e4 (ht rfl)) rfl ?_
          refine RG.op (ok_assign (ht rfl)) rfl ?_
          refine RG.op (ok_assign hI) rfl ?_
          refine RG.nil ?_
          refine AT.next ?_
          refine CG.ret ?_
          refine AT.drop ?_
          cases so h
          exact AT.ret2 rfl rfl rfl
        · obtain ⟨hx2, h⟩ := h
          refine LG.unfold ?_
          refine CG.seq ?_
          refine CG.region ?_
          refine RG.op (ok_lss (ht rfl) (ht rfl)) rfl ?_
          refine RG.nil ?_
          refine AT.next ?_
          refine CG.seq ?_
          refine CG.condT (ht rfl) (dropT hx2) ?_
          refine CG.skip ?_
          refine AT.next ?_
          refine CG.seq ?_
          refine CG.block ?_
          refine CG.seq ?_
          refine CG.region ?_
          refine RG.op (ok_indexAddr Tryz.underlying22 ti42 rfl (ht rfl) (ht rfl) (dropI hx2)) rfl ?_
          refine RG.op (ok_load ti42 rfl rfl (ht rfl)) rfl ?_
          refine RG.alloc (r := rpDENode) (x := (⟨(0 : Int), (0 : Int), (0 : Int), (0 : Int), (⟨(0 : Int), (0 : Int), (0 : Int), []⟩ : DValue)⟩ : DENode)) ti42 (fun _ => zrDENode _) rfl (fun b => ?_)
          refine RG.storeB ti42 rfl sfld_whole rfl (ht rfl) (ht rfl) ?_
          refine RG.settleB 12 rfl ?_
          refine RG.nil ?_
          refine AT.next ?_
          refine CG.block ?_
          refine CG.seq ?_
          refine CG.region ?_
          refine RG.op (ok_fieldAddr fd42_0 rfl flDENode_0 rfl (ht rfl)) rfl ?_
          refine RG.op (ok_load ti3 rfl rfl (ht rfl)) rfl ?_
          refine RG.op (ok_eqlI (ht rfl) hI) rfl ?_
          refine RG.op (ok_assign (ht rfl)) rfl ?_
          refine RG.nil ?_
          refine AT.next ?_
          refine CG.cond (ht rfl) (fun hc => ?_) (fun hc => ?_)
          · have h := ct h hc
            refine CG.region ?_
            refine RG.op (ok_move (ht rfl)) rfl ?_
            refine RG.op (ok_fieldAddr fd42_4 rfl flDENode_4 rfl (ht rfl)) rfl ?_
            refine RG.op (ok_fieldAddr fd33_0 rfl flDValue_0 rfl (ht rfl)) rfl ?_
            refine RG.op (ok_load ti3 rfl rfl (ht rfl)) rfl ?_
            refine RG.op (ok_buildSlice (r := (rI .i64)) (ys := [e3.Value.Kind]) (xs := [.tmp 92]) Tryz.underlying40 ti3 rfl rfl rfl rfl rfl ⟨(ht rfl), trivial⟩) rfl ?_
            obtain ⟨own1, q_own1, h⟩ := bs h
            refine RG.append ti3 rfl rfl rfl rfl Tryz.underlying40 rfl rfl (ht rfl) (ht rfl) q_own1 (fun l1 c1 => ?_)
            refine RG.op (ok_assign (ht rfl)) rfl ?_
            refine RG.nil ?_
            refine AT.in_normal ?_
            refine AT.in_normal ?_
            refine AT.next ?_
            refine CG.region ?_
            refine RG.op (ok_incN (dropL hx2 hN2) (ht rfl) hI) rfl ?_
            refine RG.op (ok_move (ht rfl)) rfl ?_
            refine RG.nil ?_
            exact AT.round (LG.sub (ih2 (i2 + 1) own1 l1 c1 ⟨dropS hx2, h⟩) ⟨rfl, rfl, rfl, rfl, rfl, trivial⟩)
          · have h := cf h hc
            refine CG.seq ?_
            refine CG.region ?_
            refine RG.op (ok_fieldAddr fd42_0 rfl flDENode_0 rfl (ht rfl)) rfl ?_
            refine RG.op (ok_load ti3 rfl rfl (ht rfl)) rfl ?_
            refine RG.op (ok_eqlI (ht rfl) hI) rfl ?_
            refine RG.op (ok_assign (ht rfl)) rfl ?_
            refine RG.nil ?_
            refine AT.next ?_
            refine CG.cond (ht rfl) (fun hc => ?_) (fun hc => ?_)
            · have h := ct h hc
              refine CG.region ?_
              refine RG.op (ok_move (ht rfl)) rfl ?_
              refine RG.op (ok_move (ht rfl)) rfl ?_
              refine RG.op (ok_fieldAddr fd42_3 rfl flDENode_3 rfl (ht rfl)) rfl ?_
              refine RG.op (ok_load ti3 rfl rfl (ht rfl)) rfl ?_
              obtain ⟨e5, q_e5, h⟩ := bs h
              refine RG.op (ok_indexAddr Tryz.underlying40 ti3 rfl (ht rfl) (ht rfl) q_e5) rfl ?_
              refine RG.op (ok_load ti3 rfl rfl (ht rfl)) rfl ?_
              refine RG.op (ok_buildSlice (r := (rI .i64)) (ys := [e5]) (xs := [.tmp 104]) Tryz.underlying40 ti3 rfl rfl rfl rfl rfl ⟨(ht rfl), trivial⟩) rfl ?_
              obtain ⟨own2, q_own2, h⟩ := bs h
              refine RG.append ti3 rfl rfl rfl rfl Tryz.underlying40 rfl rfl (ht rfl) (ht rfl) q_own2 (fun l2 c2 => ?_)
              refine RG.op (ok_assign (ht rfl)) rfl ?_
              refine RG.nil ?_
              refine AT.in_normal ?_
              refine AT.in_normal ?_
              refine AT.next ?_
              refine CG.region ?_
              refine RG.op (ok_incN (dropL hx2 hN2) (ht rfl) hI) rfl ?_
              refine RG.op (ok_move (ht rfl)) rfl ?_
              refine RG.nil ?_
              exact AT.round (LG.sub (ih2 (i2 + 1) own2 l2 c2 ⟨dropS hx2, h⟩) ⟨rfl, rfl, rfl, rfl, rfl, trivial⟩)
            · have h := cf h hc
              refine CG.seq ?_
              refine CG.region ?_
              refine RG.op (ok_move (ht rfl)) rfl ?_
              refine RG.op (ok_fieldAddr fd42_1 rfl flDENode_1 rfl (ht rfl)) rfl ?_
              refine RG.op (ok_load ti3 rfl rfl (ht rfl)) rfl ?_
              obtain ⟨e6, q_e6, h⟩ := bs h
              refine RG.op (ok_indexAddrO Tryz.underlying40 ti3 (.head _) (ht rfl) (ht rfl) q_e6) rfl ?_
              refine RG.op (ok_loadE (r := (rI .i64)) (i := e3.L) (foff := 0) ti3 rfl rfl fld_whole rfl (.head _) q_e6 (ht rfl)) rfl ?_
              refine RG.op (ok_assign (ht rfl)) rfl ?_
              refine RG.op (ok_assign hI) rfl ?_
              refine RG.nil ?_
              refine AT.next ?_
              refine CG.sjoin1 (Z := fun r1 => ref10_Kind_k1 (ref10_Kind_l3 kinds tl2) e3 own e6 r1 = some R) (Of := fun r1 => [arr (rI .i64) 3 l c own]) (Gf := fun r1 => [(1, tD (rSl (rI .i64)) kinds), (10, tV (oslV l c own.length)), (12, tPtr rpDENode e3), (13, tD (rI .i64) e6), (14, tD (rI .i64) r1), (52, tD (rSl rpDENode) e.Nodes), (53, tD (rI .i64) (e.Nodes.length : Int)), (54, tD (rI .i64) (i2 : Int))]) (fun r1 h => ?_) (fun K => ?_)
              · skip
                refine CG.seq ?_
                refine CG.region ?_
                refine RG.op (ok_fieldAddr fd42_0 rfl flDENode_0 rfl (ht rfl)) rfl ?_
                refine RG.op (ok_load ti3 rfl rfl (ht rfl)) rfl ?_
                refine RG.op (ok_move (ht rfl)) rfl ?_
                refine RG.op (ok_move (ht rfl)) rfl ?_
                obtain ⟨r2, q_r2, h⟩ := bs h
                refine RG.op (ok_call cb68 (f68_ok _ _ _ q_r2) ⟨(ht rfl), (ht rfl), (ht rfl), trivial⟩) rfl ?_
                refine RG.op (ok_move (ht rfl)) rfl ?_
                refine RG.op (ok_extract rfl (ht rfl)) rfl ?_
                refine RG.op (ok_extract rfl (ht rfl)) rfl ?_
                refine RG.op (ok_assign (ht rfl)) rfl ?_
                refine RG.op (ok_assign (ht rfl)) rfl ?_
                refine RG.nil ?_
                refine AT.next ?_
                refine CG.seq ?_
                refine CG.seq ?_
                refine CG.region ?_
                refine RG.op (ok_move (ht rfl)) rfl ?_
                refine RG.op (ok_not (ht rfl)) rfl ?_
                refine RG.nil ?_
                refine AT.next ?_
                refine CG.cond (ht rfl) (fun hc => ?_) (fun hc => ?_)
                · have h := ct h hc
                  refine CG.seq ?_
                  refine CG.region ?_
                  refine RG.op (ok_assign hI) rfl ?_
                  refine RG.op (ok_assign hI) rfl ?_
                  refine RG.nil ?_
                  refine AT.next ?_
                  refine CG.ret ?_
                  refine AT.then_ret (AT.in_ret (AT.in_ret (AT.then_ret (AT.then_ret (AT.in_ret (AT.then_ret ?_))))))
                  refine AT.drop ?_
                  cases so h
                  exact AT.ret2 rfl rfl rfl
                · have h := cf h hc
                  refine CG.skip ?_
                  refine AT.next ?_
                  refine CG.region ?_
                  refine RG.op (ok_move (ht rfl)) rfl ?_
                  refine RG.op (ok_move (ht rfl)) rfl ?_
                  refine RG.op (ok_buildSlice (r := (rI .i64)) (ys := [r2.1]) (xs := [.tmp 82]) Tryz.underlying40 ti3 rfl rfl rfl rfl rfl ⟨(ht rfl), trivial⟩) rfl ?_
                  obtain ⟨own3, q_own3, h⟩ := bs h
                  refine RG.append ti3 rfl rfl rfl rfl Tryz.underlying40 rfl rfl (ht rfl) (ht rfl) q_own3 (fun l3 c3 => ?_)
                  refine RG.op (ok_assign (ht rfl)) rfl ?_
                  refine RG.nil ?_
                  refine AT.in_normal ?_
                  refine AT.in_normal ?_
                  refine AT.next ?_
                  refine CG.region ?_
                  refine RG.op (ok_incN (dropL hx2 hN2) (ht rfl) hI) rfl ?_
                  refine RG.op (ok_move (ht rfl)) rfl ?_
                  refine RG.nil ?_
                  exact AT.round (LG.sub (ih2 (i2 + 1) own3 l3 c3 ⟨dropS hx2, h⟩) ⟨rfl, rfl, rfl, rfl, rfl, trivial⟩)
              · skip
                refine CG.seq ?_
                refine CG.region ?_
                refine RG.op (ok_fieldAddr fd42_2 rfl flDENode_2 rfl (ht rfl)) rfl ?_
                refine RG.op (ok_load ti3 rfl rfl (ht rfl)) rfl ?_
                refine RG.op (ok_geq (ht rfl) hI) rfl ?_
                refine RG.nil ?_
                refine AT.next ?_
                refine CG.cond (ht rfl) (fun hc => ?_) (fun hc => ?_)
                · have h := ct h hc
                  refine CG.region ?_
                  refine RG.op (ok_move (ht rfl)) rfl ?_
                  refine RG.op (ok_fieldAddr fd42_2 rfl flDENode_2 rfl (ht rfl)) rfl ?_
                  refine RG.op (ok_load ti3 rfl rfl (ht rfl)) rfl ?_
                  obtain ⟨e7, q_e7, h⟩ := bs h
                  refine RG.op (ok_indexAddrO Tryz.underlying40 ti3 (.head _) (ht rfl) (ht rfl) q_e7) rfl ?_
                  refine RG.op (ok_loadE (r := (rI .i64)) (i := e3.R) (foff := 0) ti3 rfl rfl fld_whole rfl (.head _) q_e7 (ht rfl)) rfl ?_
                  refine RG.op (ok_assign (ht rfl)) rfl ?_
                  refine RG.nil ?_
                  exact AT.sub (K e7 h) ⟨rfl, rfl, rfl, rfl, rfl, rfl, rfl, rfl, trivial⟩
                · have h := cf h hc
                  refine CG.skip ?_
                  exact AT.sub (K (0 : Int) h) ⟨rfl, rfl, rfl, rfl, rfl, rfl, rfl, rfl, trivial⟩
      · obtain ⟨hx1, h⟩ := h
        refine LG.unfold ?_
        refine CG.seq ?_
        refine CG.region ?_
        refine RG.op (ok_lss (ht rfl) (ht rfl)) rfl ?_
        refine RG.nil ?_
        refine AT.next ?_
        refine CG.seq ?_
        refine CG.condT (ht rfl) (dropT hx1) ?_
        refine CG.skip ?_
        refine AT.next ?_
        refine CG.seq ?_
        refine CG.block ?_
        refine CG.seq ?_
        refine CG.region ?_
        refine RG.op (ok_indexAddr Tryz.underlying22 ti42 rfl (ht rfl) (ht rfl) (dropI hx1)) rfl ?_
        refine RG.op (ok_load ti42 rfl rfl (ht rfl)) rfl ?_
        refine RG.alloc (r := rpDENode) (x := (⟨(0 : Int), (0 : Int), (0 : Int), (0 : Int), (⟨(0 : Int), (0 : Int), (0 : Int), []⟩ : DValue)⟩ : DENode)) ti42 (fun _ => zrDENode _) rfl (fun b1 => ?_)
        refine RG.storeB ti42 rfl sfld_whole rfl (ht rfl) (ht rfl) ?_
        refine RG.settleB 9 rfl ?_
        refine RG.nil ?_
        refine AT.next ?_
        refine CG.seq ?_
        refine CG.region ?_
        refine RG.op (ok_fieldAddr fd42_0 rfl flDENode_0 rfl (ht rfl)) rfl ?_
        refine RG.op (ok_load ti3 rfl rfl (ht rfl)) rfl ?_
        refine RG.op (ok_eqlI (ht rfl) hI) rfl ?_
        refine RG.op (ok_move (ht rfl)) rfl ?_
        refine RG.opGt rfl rfl rfl rfl (fun hg => ok_fieldAddr fd42_3 rfl flDENode_3 rfl (ht rfl)) ?_
        refine RG.opGt rfl rfl rfl rfl (fun hg => ok_load ti3 rfl rfl (htO rfl hg)) ?_
        refine RG.opGt rfl rfl rfl rfl (fun hg => ok_move (ht rfl)) ?_
        refine RG.opGt rfl rfl rfl rfl (fun hg => ok_lenSl Tryz.underlying40 (htO rfl hg)) ?_
        refine RG.opGt rfl rfl rfl rfl (fun hg => ok_geq (htO rfl hg) (htO rfl hg)) ?_
        refine RG.op (ok_pickAnd (ht rfl) (fun hb => (htO rfl hb))) rfl ?_
        refine RG.nil ?_
        refine AT.next ?_
        refine CG.cond (ht rfl) (fun hc => ?_) (fun hc => ?_)
        · have h := ct h hc
          refine CG.seq ?_
          refine CG.region ?_
          refine RG.op (ok_assign hI) rfl ?_
          refine RG.op (ok_assign hI) rfl ?_
          refine RG.nil ?_
          refine AT.next ?_
          refine CG.ret ?_
          refine AT.in_ret (AT.then_ret (AT.then_ret (AT.in_ret (AT.then_ret ?_))))
          cases so h
          exact AT.ret2 rfl rfl rfl
        · have h := cf h hc
          refine CG.skip ?_
          refine AT.in_normal ?_
          refine AT.next ?_
          refine CG.region ?_
          refine RG.op (ok_incN (dropL hx1 hN1) (ht rfl) hI) rfl ?_
          refine RG.op (ok_move (ht rfl)) rfl ?_
          refine RG.nil ?_
          exact AT.round (LG.sub (ih1 (i1 + 1)  ⟨dropS hx1, h⟩) ⟨rfl, rfl, rfl, rfl, rfl, trivial⟩)
    · obtain ⟨hx, h⟩ := h
      refine LG.unfold ?_
      refine CG.seq ?_
      refine CG.region ?_
      refine RG.op (ok_lss (ht rfl) (ht rfl)) rfl ?_
      refine RG.nil ?_
      refine AT.next ?_
      refine CG.seq ?_
      refine CG.condT (ht rfl) (dropT hx) ?_
      refine CG.skip ?_
      refine AT.next ?_
      refine CG.seq ?_
      refine CG.block ?_
      refine CG.seq ?_
      refine CG.region ?_
      refine RG.op (ok_indexAddr Tryz.underlying40 ti3 rfl (ht rfl) (ht rfl) (dropI hx)) rfl ?_
      refine RG.op (ok_load ti3 rfl rfl (ht rfl)) rfl ?_
      refine RG.op (ok_assign (ht rfl)) rfl ?_
      refine RG.nil ?_
      refine AT.next ?_
      refine CG.seq ?_
      refine CG.region ?_
      refine RG.op (ok_move (ht rfl)) rfl ?_
      refine RG.op (ok_lss (ht rfl) hI) rfl ?_
      refine RG.op (ok_move (ht rfl)) rfl ?_
      refine RG.opGf rfl rfl rfl rfl (fun hg => ok_move (ht rfl)) ?_
      refine RG.opGf rfl rfl rfl rfl (fun hg => ok_gtr (htO rfl hg) hI) ?_
      refine RG.op (ok_pickOr (ht rfl) (fun hb => (htO rfl (noti hb)))) rfl ?_
      refine RG.nil ?_
      refine AT.next ?_
      refine CG.cond (ht rfl) (fun hc => ?_) (fun hc => ?_)
      · have h := ct h hc
        refine CG.seq ?_
        refine CG.region ?_
        refine RG.op (ok_assign hI) rfl ?_
        refine RG.op (ok_assign hI) rfl ?_
        refine RG.nil ?_
        refine AT.next ?_
        refine CG.ret ?_
        refine AT.in_ret (AT.then_ret (AT.then_ret (AT.in_ret (AT.then_ret ?_))))
        cases so h
        exact AT.ret2 rfl rfl rfl
      · have h := cf h hc
        refine CG.skip ?_
        refine AT.in_normal ?_
        refine AT.next ?_
        refine CG.region ?_
        refine RG.op (ok_incN (dropL hx hN) (ht rfl) hI) rfl ?_
        refine RG.op (ok_move (ht rfl)) rfl ?_
        refine RG.nil ?_
        exact AT.round (LG.sub (ih (i + 1)  ⟨dropS hx, h⟩) ⟨rfl, rfl, rfl, rfl, rfl, trivial⟩)

set_option maxRecDepth 100000 in
theorem f35_own (e : DExpr) {R : (List Int)} (h : ref10_Cols e = some R) : SpecO Tryz.prog 35 [tD rpDExpr e] false (rI .i64) 3 R := by
  refine SpecO.of Tryz.func35 rfl rfl rfl fun w0 S0 => ?_
  refine CG.seq ?_
  refine CG.region ?_
  refine RG.op (ok_box (ht rfl)) rfl ?_
  refine RG.fresh false (rI .i64) 3 ?_
  refine RG.op (ok_assign hVn) rfl ?_
  refine RG.nil ?_
  refine AT.next ?_
  refine CG.seq ?_
  refine CG.region ?_
  refine RG.fresh false (rI .i64) 3 ?_
  refine RG.op (ok_assign hVn) rfl ?_
  refine RG.nil ?_
  refine AT.next ?_
  refine CG.seq ?_
  refine CG.seq ?_
  refine CG.region ?_
  refine RG.op (ok_move hI) rfl ?_
  refine RG.nil ?_
  refine AT.next ?_
  refine CG.block ?_
  refine CG.loop ?_
  refine LG.front1 ?_
  refine LG.drop ?_
  refine LG.sub (LG.nat4 (Z := fun k i out l c => (16 - i = k) ∧ ref10_Cols_l1 e k i out = some R) (Of := fun _ i out l c => [arr (rI .i64) 3 l c out]) (Gf := fun _ i out l c => [(1, tPtr rpDExpr e), (3, tV (oslV l c out.length)), (7, tD (rI .i64) (i : Int))]) (fun i out l c h => ?_) (fun k1 ih i out l c h => ?_) 16 0 ([] : List Int) none 0 ⟨rfl, h⟩) ⟨rfl, rfl, rfl, trivial⟩
  · obtain ⟨hx, h⟩ := h
    refine LG.unfold ?_
    refine CG.seq ?_
    refine CG.region ?_
    refine RG.op (ok_lss (ht rfl) hI) rfl ?_
    refine RG.nil ?_
    refine AT.next ?_
    refine CG.seq ?_
    refine CG.condF (ht rfl) (natF hx) ?_
    refine CG.exit ?_
    refine AT.then_exit (AT.then_exit (AT.in_exit ?_))
    refine AT.next ?_
    refine CG.seq ?_
    refine CG.region ?_
    refine RG.op (ok_move (ht rfl)) rfl ?_
    refine RG.op (ok_assign (ht rfl)) rfl ?_
    refine RG.nil ?_
    refine AT.next ?_
    refine CG.ret ?_
    cases so h
    exact AT.retO rfl rfl
  · obtain ⟨hx, h⟩ := h
    refine LG.unfold ?_
    refine CG.seq ?_
    refine CG.region ?_
    refine RG.op (ok_lss (ht rfl) hI) rfl ?_
    refine RG.nil ?_
    refine AT.next ?_
    refine CG.seq ?_
    refine CG.condT (ht rfl) (natT hx) ?_
    refine CG.skip ?_
    refine AT.next ?_
    refine CG.seq ?_
    refine CG.block ?_
    refine CG.seq ?_
    refine CG.region ?_
    refine RG.op (ok_move (ht rfl)) rfl ?_
    refine RG.op (ok_assign (ht rfl)) rfl ?_
    refine RG.nil ?_
    refine AT.next ?_
    refine CG.seq ?_
    refine CG.region ?_
    refine RG.op (ok_fieldAddr fd24_0 rfl flDExpr_0 rfl (ht rfl)) rfl ?_
    refine RG.op (ok_load ti22 rfl rfl (ht rfl)) rfl ?_
    refine RG.op (ok_lenSl Tryz.underlying22 (ht rfl)) rfl ?_
    refine RG.op (ok_move hI) rfl ?_
    refine RG.nil ?_
    refine AT.next ?_
    refine CG.bjoin3 (Z := fun out1 l1 c1 => ref10_Cols_k1 (ref10_Cols_l1 e k1) i out1 = some R) (Of := fun out1 l1 c1 => [arr (rI .i64) 3 l1 c1 out1]) (Gf := fun out1 l1 c1 => [(1, tPtr rpDExpr e), (3, tV (oslV l1 c1 out1.length)), (7, tD (rI .i64) (i : Int))]) (fun out1 l1 c1 h => ?_) (fun K => ?_)
    · skip
      refine AT.in_normal ?_
      refine AT.next ?_
      refine CG.region ?_
      refine RG.op (ok_incN (natL hx (by decide)) (ht rfl) hI) rfl ?_
      refine RG.op (ok_move (ht rfl)) rfl ?_
      refine RG.nil ?_
      exact AT.round (LG.sub (ih (i + 1) out1 l1 c1 ⟨natS hx, h⟩) ⟨rfl, rfl, rfl, trivial⟩)
    · skip
      refine CG.have_len (k := 11) rfl (fun hN1 => ?_)
      refine CG.loop ?_
      refine LG.sub (LG.list4 (Z := fun ls i1 out2 l2 c2 => (e.Nodes.drop i1 = ls) ∧ ref10_Cols_l2 (ref10_Cols_l1 e k1) i ls out2 = some R) (Of := fun _ i1 out2 l2 c2 => [arr (rI .i64) 3 l2 c2 out2]) (Gf := fun _ i1 out2 l2 c2 => [(1, tPtr rpDExpr e), (3, tV (oslV l2 c2 out2.length)), (4, tD (rI .i64) (i : Int)), (7, tD (rI .i64) (i : Int)), (11, tD (rSl rpDENode) e.Nodes), (12, tD (rI .i64) (e.Nodes.length : Int)), (13, tD (rI .i64) (i1 : Int))]) (fun i1 out2 l2 c2 h => ?_) (fun e2 tl ih1 i1 out2 l2 c2 h => ?_) e.Nodes 0 out l c ⟨rfl, h⟩) ⟨rfl, rfl, rfl, rfl, rfl, rfl, rfl, trivial⟩
      · obtain ⟨hx1, h⟩ := h
        refine LG.unfold ?_
        refine CG.seq ?_
        refine CG.region ?_
        refine RG.op (ok_lss (ht rfl) (ht rfl)) rfl ?_
        refine RG.nil ?_
        refine AT.next ?_
        refine CG.seq ?_
        refine CG.condF (ht rfl) (dropF hx1) ?_
        refine CG.exit ?_
        refine AT.then_exit (AT.then_exit (AT.in_exit ?_))
        exact AT.sub (K out2 l2 c2 h) ⟨rfl, rfl, rfl, trivial⟩
      · obtain ⟨hx1, h⟩ := h
        refine LG.unfold ?_
        refine CG.seq ?_
        refine CG.region ?_
        refine RG.op (ok_lss (ht rfl) (ht rfl)) rfl ?_
        refine RG.nil ?_
        refine AT.next ?_
        refine CG.seq ?_
        refine CG.condT (ht rfl) (dropT hx1) ?_
        refine CG.skip ?_
        refine AT.next ?_
        refine CG.seq ?_
        refine CG.block ?_
        refine CG.seq ?_
        refine CG.region ?_
        refine RG.op (ok_indexAddr Tryz.underlying22 ti42 rfl (ht rfl) (ht rfl) (dropI hx1)) rfl ?_
        refine RG.op (ok_load ti42 rfl rfl (ht rfl)) rfl ?_
        refine RG.alloc (r := rpDENode) (x := (⟨(0 : Int), (0 : Int), (0 : Int), (0 : Int), (⟨(0 : Int), (0 : Int), (0 : Int), []⟩ : DValue)⟩ : DENode)) ti42 (fun _ => zrDENode _) rfl (fun b => ?_)
        refine RG.storeB ti42 rfl sfld_whole rfl (ht rfl) (ht rfl) ?_
        refine RG.settleB 6 rfl ?_
        refine RG.nil ?_
        refine AT.next ?_
        refine CG.seq ?_
        refine CG.region ?_
        refine RG.op (ok_fieldAddr fd42_0 rfl flDENode_0 rfl (ht rfl)) rfl ?_
        refine RG.op (ok_load ti3 rfl rfl (ht rfl)) rfl ?_
        refine RG.op (ok_eqlI (ht rfl) hI) rfl ?_
        refine RG.op (ok_move (ht rfl)) rfl ?_
        refine RG.opGt rfl rfl rfl rfl (fun hg => ok_fieldAddr fd42_3 rfl flDENode_3 rfl (ht rfl)) ?_
        refine RG.opGt rfl rfl rfl rfl (fun hg => ok_load ti3 rfl rfl (htO rfl hg)) ?_
        refine RG.opGt rfl rfl rfl rfl (fun hg => ok_move (ht rfl)) ?_
        refine RG.opGt rfl rfl rfl rfl (fun hg => ok_eqlI (htO rfl hg) (htO rfl hg)) ?_
        refine RG.op (ok_pickAnd (ht rfl) (fun hb => (htO rfl hb))) rfl ?_
        refine RG.nil ?_
        refine AT.next ?_
        refine CG.cond (ht rfl) (fun hc => ?_) (fun hc => ?_)
        · have h := ct h hc
          refine CG.seq ?_
          refine CG.region ?_
          refine RG.op (ok_move (ht rfl)) rfl ?_
          refine RG.op (ok_move (ht rfl)) rfl ?_
          refine RG.op (ok_buildSlice (r := (rI .i64)) (ys := [(i : Int)]) (xs := [.tmp 27]) Tryz.underlying40 ti3 rfl rfl rfl rfl rfl ⟨(ht rfl), trivial⟩) rfl ?_
          obtain ⟨out3, q_out3, h⟩ := bs h
          refine RG.append ti3 rfl rfl rfl rfl Tryz.underlying40 rfl rfl (ht rfl) (ht rfl) q_out3 (fun l3 c3 => ?_)
          refine RG.op (ok_assign (ht rfl)) rfl ?_
          refine RG.nil ?_
          refine AT.next ?_
          refine CG.exit ?_
          refine AT.in_exit_ne rfl (AT.then_exit (AT.then_exit (AT.in_exit ?_)))
          exact AT.sub (K out3 l3 c3 h) ⟨rfl, rfl, rfl, trivial⟩
        · have h := cf h hc
          refine CG.skip ?_
          refine AT.in_normal ?_
          refine AT.next ?_
          refine CG.region ?_
          refine RG.op (ok_incN (dropL hx1 hN1) (ht rfl) hI) rfl ?_
          refine RG.op (ok_move (ht rfl)) rfl ?_
          refine RG.nil ?_
          exact AT.round (LG.sub (ih1 (i1 + 1) out2 l2 c2 ⟨dropS hx1, h⟩) ⟨rfl, rfl, rfl, rfl, rfl, rfl, rfl, trivial⟩)
set_option maxRecDepth 100000 in
theorem f36_ok (e : DExpr) {R : Bool} (h : ref10_Safe e = some R) : Spec Tryz.prog 36 [tD rpDExpr e] (tD rB R) := by
  refine Spec.of Tryz.func36 rfl rfl rfl fun w0 S0 => ?_
  refine CG.seq ?_
  refine CG.region ?_
  refine RG.op (ok_box (ht rfl)) rfl ?_
  refine RG.op (ok_assign hB) rfl ?_
  refine RG.nil ?_
  refine AT.next ?_
  refine CG.seq ?_
  refine CG.seq ?_
  refine CG.region ?_
  refine RG.op (ok_fieldAddr fd24_0 rfl flDExpr_0 rfl (ht rfl)) rfl ?_
  refine RG.op (ok_load ti22 rfl rfl (ht rfl)) rfl ?_
  refine RG.op (ok_lenSl Tryz.underlying22 (ht rfl)) rfl ?_
  refine RG.op (ok_move hI) rfl ?_
  refine RG.nil ?_
  refine AT.next ?_
  refine CG.block ?_
  refine CG.have_len (k := 6) rfl (fun hN => ?_)
  refine CG.loop ?_
  refine LG.sub (LG.list1 (Z := fun ls i  => (e.Nodes.drop i = ls) ∧ ref10_Safe_l1 ls  = some R) (Of := fun _ i  => []) (Gf := fun _ i  => [(6, tD (rSl rpDENode) e.Nodes), (7, tD (rI .i64) (e.Nodes.length : Int)), (8, tD (rI .i64) (i : Int))]) (fun i  h => ?_) (fun e1 tl ih i  h => ?_) e.Nodes 0  ⟨rfl, h⟩) ⟨rfl, rfl, rfl, trivial⟩
  · obtain ⟨hx, h⟩ := h
    refine LG.unfold ?_
    refine CG.seq ?_
    refine CG.region ?_
    refine RG.op (ok_lss (ht rfl) (ht rfl)) rfl ?_
    refine RG.nil ?_
    refine AT.next ?_
    refine CG.seq ?_
    refine CG.condF (ht rfl) (dropF hx) ?_
    refine CG.exit ?_
    refine AT.then_exit (AT.then_exit (AT.in_exit ?_))
    refine AT.next ?_
    refine CG.seq ?_
    refine CG.region ?_
    refine RG.op (ok_assign hB) rfl ?_
    refine RG.nil ?_
    refine AT.next ?_
    refine CG.ret ?_
    cases so h
    exact AT.ret1 rfl rfl
  · obtain ⟨hx, h⟩ := h
    refine LG.unfold ?_
    refine CG.seq ?_
    refine CG.region ?_
    refine RG.op (ok_lss (ht rfl) (ht rfl)) rfl ?_
    refine RG.nil ?_
    refine AT.next ?_
    refine CG.seq ?_
    refine CG.condT (ht rfl) (dropT hx) ?_
    refine CG.skip ?_
    refine AT.next ?_
    refine CG.seq ?_
    refine CG.block ?_
    refine CG.seq ?_
    refine CG.region ?_
    refine RG.op (ok_indexAddr Tryz.underlying22 ti42 rfl (ht rfl) (ht rfl) (dropI hx)) rfl ?_
    refine RG.op (ok_load ti42 rfl rfl (ht rfl)) rfl ?_
    refine RG.alloc (r := rpDENode) (x := (⟨(0 : Int), (0 : Int), (0 : Int), (0 : Int), (⟨(0 : Int), (0 : Int), (0 : Int), []⟩ : DValue)⟩ : DENode)) ti42 (fun _ => zrDENode _) rfl (fun b => ?_)
    refine RG.storeB ti42 rfl sfld_whole rfl (ht rfl) (ht rfl) ?_
    refine RG.settleB 4 rfl ?_
    refine RG.nil ?_
    refine AT.next ?_
    refine CG.seq ?_
    refine CG.region ?_
    refine RG.op (ok_fieldAddr fd42_0 rfl flDENode_0 rfl (ht rfl)) rfl ?_
    refine RG.op (ok_load ti3 rfl rfl (ht rfl)) rfl ?_
    refine RG.op (ok_eqlI (ht rfl) hI) rfl ?_
    refine RG.op (ok_move (ht rfl)) rfl ?_
    refine RG.opGf rfl rfl rfl rfl (fun hg => ok_fieldAddr fd42_0 rfl flDENode_0 rfl (ht rfl)) ?_
    refine RG.opGf rfl rfl rfl rfl (fun hg => ok_load ti3 rfl rfl (htO rfl hg)) ?_
    refine RG.opGf rfl rfl rfl rfl (fun hg => ok_geq (htO rfl hg) hI) ?_
    refine RG.opGf rfl rfl rfl rfl (fun hg => ok_move (htO rfl hg)) ?_
    refine RG.opGot rfl rfl rfl rfl (fun hg => ok_fieldAddr fd42_0 rfl flDENode_0 rfl (ht rfl)) ?_
    refine RG.opGot rfl rfl rfl rfl (fun hg => ok_load ti3 rfl rfl (htO rfl hg)) ?_
    refine RG.opGot rfl rfl rfl rfl (fun hg => ok_leq (htO rfl hg) hI) ?_
    refine RG.opGf rfl rfl rfl rfl (fun hg => ok_pickAnd (htO rfl hg) (fun hb => (htO rfl (andi hg hb)))) ?_
    refine RG.op (ok_pickOr (ht rfl) (fun hb => (htO rfl (noti hb)))) rfl ?_
    refine RG.nil ?_
    refine AT.next ?_
    refine CG.cond (ht rfl) (fun hc => ?_) (fun hc => ?_)
    · have h := ct h hc
      refine CG.seq ?_
      refine CG.region ?_
      refine RG.op (ok_assign hB) rfl ?_
      refine RG.nil ?_
      refine AT.next ?_
      refine CG.ret ?_
      refine AT.in_ret (AT.then_ret (AT.then_ret (AT.in_ret (AT.then_ret ?_))))
      cases so h
      exact AT.ret1 rfl rfl
    · have h := cf h hc
      refine CG.skip ?_
      refine AT.in_normal ?_
      refine AT.next ?_
      refine CG.region ?_
      refine RG.op (ok_incN (dropL hx hN) (ht rfl) hI) rfl ?_
      refine RG.op (ok_move (ht rfl)) rfl ?_
      refine RG.nil ?_
      exact AT.round (LG.sub (ih (i + 1)  ⟨dropS hx, h⟩) ⟨rfl, rfl, rfl, trivial⟩)

set_option maxRecDepth 100000 in
theorem f37_ok (a1 : (List DExpr)) (b : (List DExpr)) {R : Bool} (h : ref10_SameAll a1 b = some R) : Spec Tryz.prog 37 [tD (rSl rpDExpr) a1, tD (rSl rpDExpr) b] (tD rB R) := by
  refine Spec.of Tryz.func37 rfl rfl rfl fun w0 S0 => ?_
  refine CG.seq ?_
  refine CG.region ?_
  refine RG.op (ok_assign hB) rfl ?_
  refine RG.nil ?_
  refine AT.next ?_
  refine CG.seq ?_
  refine CG.seq ?_
  refine CG.region ?_
  refine RG.op (ok_move (ht rfl)) rfl ?_
  refine RG.op (ok_lenSl Tryz.underlying51 (ht rfl)) rfl ?_
  refine RG.op (ok_move (ht rfl)) rfl ?_
  refine RG.op (ok_lenSl Tryz.underlying51 (ht rfl)) rfl ?_
  refine RG.op (ok_neqI (ht rfl) (ht rfl)) rfl ?_
  refine RG.nil ?_
  refine AT.next ?_
  refine CG.cond (ht rfl) (fun hc => ?_) (fun hc => ?_)
  · have h := ct h hc
    refine CG.seq ?_
    refine CG.region ?_
    refine RG.op (ok_assign hB) rfl ?_
    refine RG.nil ?_
    refine AT.next ?_
    refine CG.ret ?_
    refine AT.then_ret ?_
    cases so h
    exact AT.ret1 rfl rfl
  · have h := cf h hc
    refine CG.skip ?_
    refine AT.next ?_
    refine CG.seq ?_
    refine CG.seq ?_
    refine CG.region ?_
    refine RG.op (ok_move (ht rfl)) rfl ?_
    refine RG.op (ok_lenSl Tryz.underlying51 (ht rfl)) rfl ?_
    refine RG.op (ok_move hI) rfl ?_
    refine RG.nil ?_
    refine AT.next ?_
    refine CG.block ?_
    refine CG.have_len (k := 11) rfl (fun hN => ?_)
    refine CG.loop ?_
    refine LG.sub (LG.list1 (Z := fun ls i  => (a1.drop i = ls) ∧ ref10_SameAll_l1 b ls i  = some R) (Of := fun _ i  => []) (Gf := fun _ i  => [(0, tD (rSl rpDExpr) a1), (1, tD (rSl rpDExpr) b), (12, tD (rI .i64) (a1.length : Int)), (13, tD (rI .i64) (i : Int))]) (fun i  h => ?_) (fun e tl ih i  h => ?_) a1 0  ⟨rfl, h⟩) ⟨rfl, rfl, rfl, rfl, trivial⟩
    · obtain ⟨hx, h⟩ := h
      refine LG.unfold ?_
      refine CG.seq ?_
      refine CG.region ?_
      refine RG.op (ok_lss (ht rfl) (ht rfl)) rfl ?_
      refine RG.nil ?_
      refine AT.next ?_
      refine CG.seq ?_
      refine CG.condF (ht rfl) (dropF hx) ?_
      refine CG.exit ?_
      refine AT.then_exit (AT.then_exit (AT.in_exit ?_))
      refine AT.next ?_
      refine CG.seq ?_
      refine CG.region ?_
      refine RG.op (ok_assign hB) rfl ?_
      refine RG.nil ?_
      refine AT.next ?_
      refine CG.ret ?_
      cases so h
      exact AT.ret1 rfl rfl
    · obtain ⟨hx, h⟩ := h
      refine LG.unfold ?_
      refine CG.seq ?_
      refine CG.region ?_
      refine RG.op (ok_lss (ht rfl) (ht rfl)) rfl ?_
      refine RG.nil ?_
      refine AT.next ?_
      refine CG.seq ?_
      refine CG.condT (ht rfl) (dropT hx) ?_
      refine CG.skip ?_
      refine AT.next ?_
      refine CG.seq ?_
      refine CG.block ?_
      refine CG.seq ?_
      refine CG.region ?_
      refine RG.op (ok_move (ht rfl)) rfl ?_
      refine RG.op (ok_assign (ht rfl)) rfl ?_
      refine RG.nil ?_
      refine AT.next ?_
      refine CG.seq ?_
      obtain ⟨e1, q_e1, h⟩ := bs h
      obtain ⟨r, q_r, h⟩ := bs h
      refine CG.draw (ts := [tD (rSl rpDExpr) a1, tD (rI .i64) (i : Int), tPtr rpDExpr e, tD rpDExpr e, tD (rSl rpDExpr) b, tD (rI .i64) (i : Int), tPtr rpDExpr e1, tD rpDExpr e1, tD rB r, tD rB (!r)]) mixed rfl rfl
        ⟨⟨[⟨0, _, none⟩], _, rfl, ⟨rfl, trivial⟩, rfl, rfl, OpG.plain rfl (ok_move (ht rfl))⟩,
        ⟨⟨[⟨5, _, none⟩], _, rfl, ⟨rfl, trivial⟩, rfl, rfl, OpG.plain rfl (ok_move (ht rfl))⟩,
        ⟨⟨[⟨16, _, some 0⟩, ⟨17, _, some 1⟩], _, rfl, ⟨rfl, rfl, trivial⟩, rfl, rfl, OpG.plain rfl (ok_indexAddr Tryz.underlying51 ti24 rfl (ht rfl) (ht rfl) (dropI hx))⟩,
        ⟨⟨[⟨18, _, some 2⟩], _, rfl, ⟨rfl, trivial⟩, rfl, rfl, OpG.plain rfl (ok_load ti24 rfl rfl (ht rfl))⟩,
        ⟨⟨[⟨1, _, none⟩], _, rfl, ⟨rfl, trivial⟩, rfl, rfl, OpG.plain rfl (ok_move (ht rfl))⟩,
        ⟨⟨[⟨5, _, none⟩], _, rfl, ⟨rfl, trivial⟩, rfl, rfl, OpG.plain rfl (ok_move (ht rfl))⟩,
        ⟨⟨[⟨20, _, some 4⟩, ⟨21, _, some 5⟩], _, rfl, ⟨rfl, rfl, trivial⟩, rfl, rfl, OpG.plain rfl (ok_indexAddr Tryz.underlying51 ti24 rfl (ht rfl) (ht rfl) q_e1)⟩,
        ⟨⟨[⟨22, _, some 6⟩], _, rfl, ⟨rfl, trivial⟩, rfl, rfl, OpG.plain rfl (ok_load ti24 rfl rfl (ht rfl))⟩,
        ⟨⟨[⟨19, _, some 3⟩, ⟨23, _, some 7⟩], _, rfl, ⟨rfl, rfl, trivial⟩, rfl, rfl, OpG.plain rfl (ok_call cb15 (f15_ok _ _ q_r) ⟨(ht rfl), (ht rfl), trivial⟩)⟩,
        ⟨⟨[⟨24, _, some 8⟩], _, rfl, ⟨rfl, trivial⟩, rfl, rfl, OpG.plain rfl (ok_not (ht rfl))⟩,
        trivial⟩⟩⟩⟩⟩⟩⟩⟩⟩⟩ ?_
      refine AT.next ?_
      refine CG.cond (ht rfl) (fun hc => ?_) (fun hc => ?_)
      · have h := ct h hc
        refine CG.seq ?_
        refine CG.region ?_
        refine RG.op (ok_assign hB) rfl ?_
        refine RG.nil ?_
        refine AT.next ?_
        refine CG.ret ?_
        refine AT.in_ret (AT.then_ret (AT.then_ret (AT.in_ret (AT.then_ret ?_))))
        cases so h
        exact AT.ret1 rfl rfl
      · have h := cf h hc
        refine CG.skip ?_
        refine AT.in_normal ?_
        refine AT.next ?_
        refine CG.region ?_
        refine RG.op (ok_incN (dropL hx hN) (ht rfl) hI) rfl ?_
        refine RG.op (ok_move (ht rfl)) rfl ?_
        refine RG.nil ?_
        exact AT.round (LG.sub (ih (i + 1)  ⟨dropS hx, h⟩) ⟨rfl, rfl, rfl, rfl, trivial⟩)

set_option maxRecDepth 100000 in
theorem f69_ok (e : DExpr) (place : Int) {R : DExpr} (h : ref10_Part e place = some R) : Spec Tryz.prog 69 [tD rpDExpr e, tD (rI .i64) place] (tD rpDExpr R) := by
  refine Spec.of Tryz.func69 rfl rfl rfl fun w0 S0 => ?_
  refine CG.seq ?_
  refine CG.region ?_
  refine RG.op (ok_box (ht rfl)) rfl ?_
  refine RG.alloc (r := rpDExpr) (x := (⟨[]⟩ : DExpr)) ti24 (fun _ => zrDExpr _) rfl (fun b => ?_)
  refine RG.nil ?_
  refine AT.next ?_
  refine CG.seq ?_
  refine CG.region ?_
  refine RG.op (ok_move (ht rfl)) rfl ?_
  refine RG.op (ok_add (ht rfl) hI) rfl ?_
  refine RG.op (ok_load ti24 rfl rfl (ht rfl)) rfl ?_
  refine RG.op (ok_move (ht rfl)) rfl ?_
  obtain ⟨r, q_r, h⟩ := bs h
  refine RG.op (ok_call cb47 (f47_ok _ _ q_r) ⟨(ht rfl), (ht rfl), trivial⟩) rfl ?_
  refine RG.op (ok_sub (ht rfl) (ht rfl)) rfl ?_
  refine RG.op (ok_assign (ht rfl)) rfl ?_
  refine RG.nil ?_
  refine AT.next ?_
  refine CG.seq ?_
  refine CG.region ?_
  refine RG.fresh true rpDENode 42 ?_
  refine RG.alloc (r := rpOExpr_0) (x := mkOExpr_0 (⟨[]⟩ : DExpr) (oslV none 0 (([] : List DENode).length))) ti24 zrOExpr_0 rfl (fun b1 => ?_)
  refine RG.nil ?_
  refine AT.next ?_
  refine CG.seq ?_
  refine CG.seq ?_
  refine CG.region ?_
  refine RG.op (ok_fieldAddr fd24_0 rfl flDExpr_0 rfl (ht rfl)) rfl ?_
  refine RG.op (ok_load ti22 rfl rfl (ht rfl)) rfl ?_
  refine RG.op (ok_move (ht rfl)) rfl ?_
  refine RG.op (ok_move (ht rfl)) rfl ?_
  refine RG.op (ok_add (ht rfl) hI) rfl ?_
  obtain ⟨y, q_y, h⟩ := bs h
  refine RG.op (ok_slice2 Tryz.underlying22 ti42 rfl (ht rfl) (ht rfl) (ht rfl) q_y) rfl ?_
  refine RG.op (ok_lenSl Tryz.underlying22 (ht rfl)) rfl ?_
  refine RG.op (ok_move hI) rfl ?_
  refine RG.nil ?_
  refine AT.next ?_
  refine CG.block ?_
  refine CG.have_len (k := 20) rfl (fun hN => ?_)
  refine CG.loop ?_
  refine LG.front1 ?_
  refine LG.front1 ?_
  refine LG.front2 ?_
  refine LG.sub (LG.list4 (Z := fun ls i out l c => (y.drop i = ls) ∧ ref10_Part_l1 place r ls out = some R) (Of := fun _ i out l c => [bx rpDExpr 24 b (⟨[]⟩ : DExpr), bx rpOExpr_0 24 b1 (mkOExpr_0 out (oslV l c out.Nodes.length)), tip rpDENode 42 l c out.Nodes]) (Gf := fun _ i out l c => [(4, tV (bptr b 0)), (5, tD (rI .i64) (IntKind.i64.wrap ((IntKind.i64.wrap (place + (1 : Int))) - r))), (6, tV (bptr b1 0)), (20, tD (rSl rpDENode) y), (21, tD (rI .i64) (y.length : Int)), (22, tD (rI .i64) (i : Int))]) (fun i out l c h => ?_) (fun e1 tl ih i out l c h => ?_) y 0 ({ (⟨[]⟩ : DExpr) with Nodes := ([] : List DENode) } : DExpr) none 0 ⟨rfl, h⟩) ⟨rfl, rfl, rfl, rfl, rfl, rfl, trivial⟩
  · obtain ⟨hx, h⟩ := h
    refine LG.unfold ?_
    refine CG.seq ?_
    refine CG.region ?_
    refine RG.op (ok_lss (ht rfl) (ht rfl)) rfl ?_
    refine RG.nil ?_
    refine AT.next ?_
    refine CG.seq ?_
    refine CG.condF (ht rfl) (dropF hx) ?_
    refine CG.exit ?_
    refine AT.then_exit (AT.then_exit (AT.in_exit ?_))
    refine AT.next ?_
    refine CG.seq ?_
    refine CG.region ?_
    refine RG.front2 ?_
    refine RG.op (ok_loadObj (q := rpDExpr) (y := out) ti24 rfl rfl rfl rfl (.tail _ (.tail _ (.head _))) (fun _ _ _ ho h => cvOExpr_0_to_D (own_tip ho (.head _)) h) (ht rfl)) rfl ?_
    refine RG.front1 ?_
    refine RG.storeB ti24 rfl sfld_whole rfl (ht rfl) (ht rfl) ?_
    refine RG.settleB 4 rfl ?_
    refine RG.nil ?_
    refine AT.next ?_
    refine CG.ret ?_
    refine AT.drop ?_
    refine AT.drop ?_
    cases so h
    exact AT.ret1c rfl ti24 rfl rfl rfl
  · obtain ⟨hx, h⟩ := h
    refine LG.unfold ?_
    refine CG.seq ?_
    refine CG.region ?_
    refine RG.op (ok_lss (ht rfl) (ht rfl)) rfl ?_
    refine RG.nil ?_
    refine AT.next ?_
    refine CG.seq ?_
    refine CG.condT (ht rfl) (dropT hx) ?_
    refine CG.skip ?_
    refine AT.next ?_
    refine CG.seq ?_
    refine CG.block ?_
    refine CG.seq ?_
    refine CG.region ?_
    refine RG.op (ok_indexAddr Tryz.underlying22 ti42 rfl (ht rfl) (ht rfl) (dropI hx)) rfl ?_
    refine RG.op (ok_load ti42 rfl rfl (ht rfl)) rfl ?_
    refine RG.alloc (r := rpDENode) (x := (⟨(0 : Int), (0 : Int), (0 : Int), (0 : Int), (⟨(0 : Int), (0 : Int), (0 : Int), []⟩ : DValue)⟩ : DENode)) ti42 (fun _ => zrDENode _) rfl (fun b2 => ?_)
    refine RG.storeB ti42 rfl sfld_whole rfl (ht rfl) (ht rfl) ?_
    refine RG.nil ?_
    refine AT.next ?_
    refine CG.sjoin1 (Z := fun n => ref10_Part_k1 place r (ref10_Part_l1 place r tl) out n = some R) (Of := fun n => [bx rpDExpr 24 b (⟨[]⟩ : DExpr), bx rpDENode 42 b2 n, bx rpOExpr_0 24 b1 (mkOExpr_0 out (oslV l c out.Nodes.length)), tip rpDENode 42 l c out.Nodes]) (Gf := fun n => [(4, tV (bptr b 0)), (5, tD (rI .i64) (IntKind.i64.wrap ((IntKind.i64.wrap (place + (1 : Int))) - r))), (6, tV (bptr b1 0)), (8, tV (bptr b2 0)), (20, tD (rSl rpDENode) y), (21, tD (rI .i64) (y.length : Int)), (22, tD (rI .i64) (i : Int))]) (fun n h => ?_) (fun K => ?_)
    · skip
      refine CG.sjoin1 (Z := fun n1 => ref10_Part_k2 (ref10_Part_l1 place r tl) out n1 = some R) (Of := fun n1 => [bx rpDExpr 24 b (⟨[]⟩ : DExpr), bx rpDENode 42 b2 n1, bx rpOExpr_0 24 b1 (mkOExpr_0 out (oslV l c out.Nodes.length)), tip rpDENode 42 l c out.Nodes]) (Gf := fun n1 => [(4, tV (bptr b 0)), (5, tD (rI .i64) (IntKind.i64.wrap ((IntKind.i64.wrap (place + (1 : Int))) - r))), (6, tV (bptr b1 0)), (8, tV (bptr b2 0)), (20, tD (rSl rpDENode) y), (21, tD (rI .i64) (y.length : Int)), (22, tD (rI .i64) (i : Int))]) (fun n1 h => ?_) (fun K1 => ?_)
      · skip
        refine CG.region ?_
        refine RG.op (ok_fieldAddrC (n := 0) fd24_0 rfl (ht rfl) rfl) rfl ?_
        refine RG.op (ok_loadFT ti22 flOExpr_0_0 (.tail _ (.tail _ (.head _))) (.tail _ (.tail _ (.tail _ (.head _)))) rfl (ht rfl)) rfl ?_
        refine RG.op (ok_loadB ti42 rfl rfl fld_whole (.tail _ (.head _)) (ht rfl)) rfl ?_
        refine RG.op (ok_buildSlice (r := rpDENode) (ys := [n1]) (xs := [.tmp 44]) Tryz.underlying22 ti42 rfl rfl rfl rfl rfl ⟨(ht rfl), trivial⟩) rfl ?_
        refine RG.front3 ?_
        obtain ⟨l1, q_l1, h⟩ := bs h
        refine RG.appendT ti42 rfl rfl rfl rfl Tryz.underlying22 rfl rfl (ht rfl) (ht rfl) q_l1 (fun l2 c1 => ?_)
        refine RG.op (ok_fieldAddrC (n := 0) fd24_0 rfl (ht rfl) rfl) rfl ?_
        refine RG.front3 ?_
        refine RG.storeFX ti22 rfl (sxOExpr_0_to_0_at_0 _ _ _) rfl (ht rfl) (hRV (tO_v (ht rfl))) ?_
        refine RG.nil ?_
        refine AT.in_normal ?_
        refine AT.next ?_
        refine CG.region ?_
        refine RG.op (ok_incN (dropL hx hN) (ht rfl) hI) rfl ?_
        refine RG.op (ok_move (ht rfl)) rfl ?_
        refine RG.nil ?_
        refine AT.front3 ?_
        refine AT.drop ?_
        refine AT.front1 ?_
        refine AT.front1 ?_
        refine AT.front2 ?_
        exact AT.round (LG.sub (ih (i + 1) ({ out with Nodes := l1 } : DExpr) l2 c1 ⟨dropS hx, h⟩) ⟨rfl, rfl, rfl, rfl, rfl, rfl, trivial⟩)
      · skip
        refine CG.seq ?_
        refine CG.region ?_
        refine RG.op (ok_fieldAddrC (n := 2) fd42_2 rfl (ht rfl) rfl) rfl ?_
        refine RG.op (ok_loadB ti3 rfl rfl flDENode_2 (.tail _ (.head _)) (ht rfl)) rfl ?_
        refine RG.op (ok_geq (ht rfl) hI) rfl ?_
        refine RG.nil ?_
        refine AT.next ?_
        refine CG.cond (ht rfl) (fun hc => ?_) (fun hc => ?_)
        · have h := ct h hc
          refine CG.region ?_
          refine RG.op (ok_fieldAddrC (n := 2) fd42_2 rfl (ht rfl) rfl) rfl ?_
          refine RG.op (ok_loadB ti3 rfl rfl flDENode_2 (.tail _ (.head _)) (ht rfl)) rfl ?_
          refine RG.op (ok_move (ht rfl)) rfl ?_
          refine RG.op (ok_sub (ht rfl) (ht rfl)) rfl ?_
          refine RG.op (ok_fieldAddrC (n := 2) fd42_2 rfl (ht rfl) rfl) rfl ?_
          refine RG.front1 ?_
          refine RG.storeB ti3 rfl sfDENode_2 rfl (ht rfl) (ht rfl) ?_
          refine RG.nil ?_
          refine AT.front3 ?_
          refine AT.front3 ?_
          refine AT.front2 ?_
          refine AT.front3 ?_
          exact AT.sub (K1 (DENode.mk n.Tag n.L (IntKind.i64.wrap (n.R - (IntKind.i64.wrap ((IntKind.i64.wrap (place + (1 : Int))) - r)))) n.Col n.Value) h) ⟨rfl, rfl, rfl, rfl, rfl, rfl, rfl, trivial⟩
        · have h := cf h hc
          refine CG.skip ?_
          exact AT.sub (K1 n h) ⟨rfl, rfl, rfl, rfl, rfl, rfl, rfl, trivial⟩
    · skip
      refine CG.seq ?_
      refine CG.region ?_
      refine RG.op (ok_fieldAddrC (n := 1) fd42_1 rfl (ht rfl) rfl) rfl ?_
      refine RG.op (ok_loadB ti3 rfl rfl flDENode_1 (.head _) (ht rfl)) rfl ?_
      refine RG.op (ok_geq (ht rfl) hI) rfl ?_
      refine RG.nil ?_
      refine AT.next ?_
      refine CG.cond (ht rfl) (fun hc => ?_) (fun hc => ?_)
      · have h := ct h hc
        refine CG.region ?_
        refine RG.op (ok_fieldAddrC (n := 1) fd42_1 rfl (ht rfl) rfl) rfl ?_
        refine RG.op (ok_loadB ti3 rfl rfl flDENode_1 (.head _) (ht rfl)) rfl ?_
        refine RG.op (ok_move (ht rfl)) rfl ?_
        refine RG.op (ok_sub (ht rfl) (ht rfl)) rfl ?_
        refine RG.op (ok_fieldAddrC (n := 1) fd42_1 rfl (ht rfl) rfl) rfl ?_
        refine RG.storeB ti3 rfl sfDENode_1 rfl (ht rfl) (ht rfl) ?_
        refine RG.nil ?_
        refine AT.front3 ?_
        refine AT.front3 ?_
        refine AT.front2 ?_
        refine AT.front3 ?_
        exact AT.sub (K (DENode.mk e1.Tag (IntKind.i64.wrap (e1.L - (IntKind.i64.wrap ((IntKind.i64.wrap (place + (1 : Int))) - r)))) e1.R e1.Col e1.Value) h) ⟨rfl, rfl, rfl, rfl, rfl, rfl, rfl, trivial⟩
      · have h := cf h hc
        refine CG.skip ?_
        refine AT.front3 ?_
        refine AT.front3 ?_
        refine AT.front2 ?_
        refine AT.front3 ?_
        exact AT.sub (K e1 h) ⟨rfl, rfl, rfl, rfl, rfl, rfl, rfl, trivial⟩

set_option maxRecDepth 100000 in
theorem f38_rec : ∀ (fu : Nat) (e : DExpr) {R : (List DExpr)} (h : ref10_Ands_f fu e = some R), SpecO Tryz.prog 38 [tD rpDExpr e] true rpDExpr 24 R := by
  intro fu
  induction fu with
  | zero => intro e R h; exact (nn h).elim
  | succ fu ih =>
    intro e R h
    refine SpecO.of Tryz.func38 rfl rfl rfl fun w0 S0 => ?_
    refine CG.seq ?_
    refine CG.region ?_
    refine RG.op (ok_box (ht rfl)) rfl ?_
    refine RG.fresh false rpDExpr 24 ?_
    refine RG.op (ok_assign hVn) rfl ?_
    refine RG.nil ?_
    refine AT.next ?_
    refine CG.seq ?_
    refine CG.region ?_
    refine RG.op (ok_fieldAddr fd24_0 rfl flDExpr_0 rfl (ht rfl)) rfl ?_
    refine RG.op (ok_load ti22 rfl rfl (ht rfl)) rfl ?_
    refine RG.op (ok_fieldAddr fd24_0 rfl flDExpr_0 rfl (ht rfl)) rfl ?_
    refine RG.op (ok_load ti22 rfl rfl (ht rfl)) rfl ?_
    refine RG.op (ok_lenSl Tryz.underlying22 (ht rfl)) rfl ?_
    refine RG.op (ok_sub (ht rfl) hI) rfl ?_
    obtain ⟨e1, q_e1, h⟩ := bs h
    refine RG.op (ok_indexAddr Tryz.underlying22 ti42 rfl (ht rfl) (ht rfl) q_e1) rfl ?_
    refine RG.op (ok_load ti42 rfl rfl (ht rfl)) rfl ?_
    refine RG.alloc (r := rpDENode) (x := (⟨(0 : Int), (0 : Int), (0 : Int), (0 : Int), (⟨(0 : Int), (0 : Int), (0 : Int), []⟩ : DValue)⟩ : DENode)) ti42 (fun _ => zrDENode _) rfl (fun b => ?_)
    refine RG.storeB ti42 rfl sfld_whole rfl (ht rfl) (ht rfl) ?_
    refine RG.settleB 3 rfl ?_
    refine RG.nil ?_
    refine AT.next ?_
    refine CG.seq ?_
    refine CG.seq ?_
    refine CG.region ?_
    refine RG.op (ok_fieldAddr fd42_0 rfl flDENode_0 rfl (ht rfl)) rfl ?_
    refine RG.op (ok_load ti3 rfl rfl (ht rfl)) rfl ?_
    refine RG.op (ok_neqI (ht rfl) hI) rfl ?_
    refine RG.nil ?_
    refine AT.next ?_
    refine CG.cond (ht rfl) (fun hc => ?_) (fun hc => ?_)
    · have h := ct h hc
      refine CG.seq ?_
      refine CG.region ?_
      refine RG.op (ok_load ti24 rfl rfl (ht rfl)) rfl ?_
      refine RG.buildOwn (r := rpDExpr) (ys := [e]) (xs := [.tmp 15]) Tryz.underlying51 ti24 rfl rfl rfl rfl rfl ⟨(ht rfl), trivial⟩ rfl (fun l c => ?_)
      refine RG.op (ok_assign (ht rfl)) rfl ?_
      refine RG.nil ?_
      refine AT.next ?_
      refine CG.ret ?_
      refine AT.then_ret ?_
      refine AT.freeze ?_
      refine AT.tipAt 2 rfl ?_
      refine AT.tipAt 16 rfl ?_
      cases so h
      exact AT.retT rfl rfl
    · have h := cf h hc
      refine CG.skip ?_
      refine AT.next ?_
      refine CG.seq ?_
      obtain ⟨r, q_r, h⟩ := bs h
      obtain ⟨r1, q_r1, h⟩ := bs h
      refine CG.drawS 8 [tc (tD rpDExpr e), tc (tPtr (rI .i64) e1.L), tc (tD (rI .i64) e1.L), tc (tD rpDExpr r), ([4], fun s => tO rpDExpr ((s.getD 0 zoi).h 0).1 ((s.getD 0 zoi).h 0).2 r1), tc (tD rpDExpr e), tc (tPtr (rI .i64) e1.R), tc (tD (rI .i64) e1.R)] [false, false, false, false, true, false, false, false] [fun _ => [arr rpDExpr 24 none 0 ([] : List DExpr)], fun sg => [tip rpDExpr 24 ((sg 4).h 0).1 ((sg 4).h 0).2 r1, arr rpDExpr 24 none 0 ([] : List DExpr)]] rfl mixed rfl rfl rfl rfl rfl
        ⟨⟨[⟨1, fun _ => tPtr rpDExpr e, none⟩], _, 0, 0, rfl, ⟨(fun _ => rfl), trivial⟩, rfl, rfl, rfl, rfl, rfl, fun _ sg _ _ => OpG.plain rfl (ok_load ti24 rfl rfl (ht rfl))⟩,
        ⟨⟨[⟨3, fun _ => tPtr rpDENode e1, none⟩], _, 0, 0, rfl, ⟨(fun _ => rfl), trivial⟩, rfl, rfl, rfl, rfl, rfl, fun _ sg _ _ => OpG.plain rfl (ok_fieldAddr fd42_1 rfl flDENode_1 rfl (ht rfl))⟩,
        ⟨⟨[⟨18, fun _ => tPtr (rI .i64) e1.L, some 1⟩], _, 0, 0, rfl, ⟨(fun _ => rfl), trivial⟩, rfl, rfl, rfl, rfl, rfl, fun _ sg _ _ => OpG.plain rfl (ok_load ti3 rfl rfl (ht rfl))⟩,
        ⟨⟨[⟨17, fun _ => tD rpDExpr e, some 0⟩, ⟨19, fun _ => tD (rI .i64) e1.L, some 2⟩], _, 0, 0, rfl, ⟨(fun _ => rfl), (fun _ => rfl), trivial⟩, rfl, rfl, rfl, rfl, rfl, fun _ sg _ _ => OpG.plain rfl (ok_call cb69 (f69_ok _ _ q_r) ⟨(ht rfl), (ht rfl), trivial⟩)⟩,
        ⟨⟨[⟨20, fun _ => tD rpDExpr r, some 3⟩], _, rfl, ⟨(fun _ => rfl), trivial⟩, rfl, rfl, rfl, fun sg => EffG.plain rfl (eff_callT (xs := [.tmp 20]) (ts := [tD rpDExpr r]) cb38 (ih _ q_r1) ⟨(ht rfl), trivial⟩)⟩,
        ⟨⟨[⟨1, fun _ => tPtr rpDExpr e, none⟩], _, 0, 1, rfl, ⟨(fun _ => rfl), trivial⟩, rfl, rfl, rfl, rfl, rfl, fun _ sg _ _ => OpG.plain rfl (ok_load ti24 rfl rfl (ht rfl))⟩,
        ⟨⟨[⟨3, fun _ => tPtr rpDENode e1, none⟩], _, 0, 1, rfl, ⟨(fun _ => rfl), trivial⟩, rfl, rfl, rfl, rfl, rfl, fun _ sg _ _ => OpG.plain rfl (ok_fieldAddr fd42_2 rfl flDENode_2 rfl (ht rfl))⟩,
        ⟨⟨[⟨23, fun _ => tPtr (rI .i64) e1.R, some 6⟩], _, 0, 1, rfl, ⟨(fun _ => rfl), trivial⟩, rfl, rfl, rfl, rfl, rfl, fun _ sg _ _ => OpG.plain rfl (ok_load ti3 rfl rfl (ht rfl))⟩,
        trivial⟩⟩⟩⟩⟩⟩⟩⟩ (fun sg => ?_)
      refine (show RG _ _ _ _ [tip rpDExpr 24 ((sg 4).h 0).1 ((sg 4).h 0).2 r1, arr rpDExpr 24 none 0 ([] : List DExpr)] _ from ?_)
      obtain ⟨r2, q_r2, h⟩ := bs h
      refine RG.op (ok_call cb69 (f69_ok _ _ q_r2) ⟨(ht rfl), (ht rfl), trivial⟩) rfl ?_
      obtain ⟨r3, q_r3, h⟩ := bs h
      refine RG.callT cb38 (ih _ q_r3) ⟨(ht rfl), trivial⟩ rfl (fun l1 c1 => ?_)
      refine RG.front1 ?_
      obtain ⟨x, q_x, h⟩ := bs h
      refine RG.appendT ti24 rfl rfl rfl rfl Tryz.underlying51 rfl rfl (ht rfl) (tO_d (ht rfl)) q_x (fun l2 c2 => ?_)
      refine RG.op (ok_assign (ht rfl)) rfl ?_
      refine RG.nil ?_
      refine AT.next ?_
      refine CG.ret ?_
      cases so h
      exact AT.retT rfl rfl
theorem f38_own (e : DExpr) {R : (List DExpr)} (h : ref10_Ands e = some R) : SpecO Tryz.prog 38 [tD rpDExpr e] true rpDExpr 24 R := f38_rec FUEL e h
theorem f38_ok (e : DExpr) {R : (List DExpr)} (h : ref10_Ands e = some R) : Spec Tryz.prog 38 [tD rpDExpr e] (tD (rSl rpDExpr) R) := (f38_own _ h).spec

set_option maxRecDepth 100000 in
theorem f40_ok (e : DExpr) (left : Int) {R : Int × Int × Bool} (h : ref10_Pair e left = some R) : Spec Tryz.prog 40 [tD rpDExpr e, tD (rI .i64) left] (tT [tD (rI .i64) R.1, tD (rI .i64) R.2.1, tD rB R.2.2]) := by
  refine Spec.of Tryz.func40 rfl rfl rfl fun w0 S0 => ?_
  refine CG.seq ?_
  refine CG.region ?_
  refine RG.op (ok_box (ht rfl)) rfl ?_
  refine RG.op (ok_assign hI) rfl ?_
  refine RG.op (ok_assign hI) rfl ?_
  refine RG.op (ok_assign hB) rfl ?_
  refine RG.nil ?_
  refine AT.next ?_
  refine CG.seq ?_
  refine CG.seq ?_
  refine CG.region ?_
  refine RG.op (ok_fieldAddr fd24_0 rfl flDExpr_0 rfl (ht rfl)) rfl ?_
  refine RG.op (ok_load ti22 rfl rfl (ht rfl)) rfl ?_
  refine RG.op (ok_lenSl Tryz.underlying22 (ht rfl)) rfl ?_
  refine RG.op (ok_neqI (ht rfl) hI) rfl ?_
  refine RG.op (ok_move (ht rfl)) rfl ?_
  obtain ⟨t, q_t, h⟩ := bs h
  refine RG.opGf rfl rfl rfl rfl (fun hg => ok_fieldAddr fd24_0 rfl flDExpr_0 rfl (ht rfl)) ?_
  refine RG.opGf rfl rfl rfl rfl (fun hg => ok_load ti22 rfl rfl (htO rfl hg)) ?_
  obtain ⟨e1, h1t, h0t⟩ := og q_t
  have q_e1g := fun hb => (h1t hb).1
  refine RG.opGf rfl rfl rfl rfl (fun hg => ok_indexAddr Tryz.underlying22 ti42 rfl (htO rfl hg) hI (q_e1g hg)) ?_
  refine RG.opGf rfl rfl rfl rfl (fun hg => ok_fieldAddr fd42_0 rfl flDENode_0 rfl (htO rfl hg)) ?_
  refine RG.opGf rfl rfl rfl rfl (fun hg => ok_load ti3 rfl rfl (htO rfl hg)) ?_
  refine RG.opGf rfl rfl rfl rfl (fun hg => ok_neqI (htO rfl hg) hI) ?_
  refine RG.op (ok_pickOrM (ht rfl) (fun hb => (htO rfl (noti hb))) (fun hb => (h1t hb).2) h0t) rfl ?_
  refine RG.op (ok_move (ht rfl)) rfl ?_
  obtain ⟨t1, q_t1, h⟩ := bs h
  refine RG.opGf rfl rfl rfl rfl (fun hg => ok_fieldAddr fd24_0 rfl flDExpr_0 rfl (ht rfl)) ?_
  refine RG.opGf rfl rfl rfl rfl (fun hg => ok_load ti22 rfl rfl (htO rfl hg)) ?_
  obtain ⟨e2, h1t1, h0t1⟩ := og q_t1
  have q_e2g := fun hb => (h1t1 hb).1
  refine RG.opGf rfl rfl rfl rfl (fun hg => ok_indexAddr Tryz.underlying22 ti42 rfl (htO rfl hg) hI (q_e2g hg)) ?_
  refine RG.opGf rfl rfl rfl rfl (fun hg => ok_fieldAddr fd42_0 rfl flDENode_0 rfl (htO rfl hg)) ?_
  refine RG.opGf rfl rfl rfl rfl (fun hg => ok_load ti3 rfl rfl (htO rfl hg)) ?_
  refine RG.opGf rfl rfl rfl rfl (fun hg => ok_neqI (htO rfl hg) hI) ?_
  refine RG.op (ok_pickOrM (ht rfl) (fun hb => (htO rfl (noti hb))) (fun hb => (h1t1 hb).2) h0t1) rfl ?_
  refine RG.op (ok_move (ht rfl)) rfl ?_
  obtain ⟨t2, q_t2, h⟩ := bs h
  refine RG.opGf rfl rfl rfl rfl (fun hg => ok_fieldAddr fd24_0 rfl flDExpr_0 rfl (ht rfl)) ?_
  refine RG.opGf rfl rfl rfl rfl (fun hg => ok_load ti22 rfl rfl (htO rfl hg)) ?_
  obtain ⟨e3, h1t2, h0t2⟩ := og q_t2
  have q_e3g := fun hb => (h1t2 hb).1
  refine RG.opGf rfl rfl rfl rfl (fun hg => ok_indexAddr Tryz.underlying22 ti42 rfl (htO rfl hg) hI (q_e3g hg)) ?_
  refine RG.opGf rfl rfl rfl rfl (fun hg => ok_fieldAddr fd42_0 rfl flDENode_0 rfl (htO rfl hg)) ?_
  refine RG.opGf rfl rfl rfl rfl (fun hg => ok_load ti3 rfl rfl (htO rfl hg)) ?_
  refine RG.opGf rfl rfl rfl rfl (fun hg => ok_neqI (htO rfl hg) hI) ?_
  refine RG.op (ok_pickOrM (ht rfl) (fun hb => (htO rfl (noti hb))) (fun hb => (h1t2 hb).2) h0t2) rfl ?_
  refine RG.nil ?_
  refine AT.next ?_
  refine CG.cond (ht rfl) (fun hc => ?_) (fun hc => ?_)
  · have h := ct h hc
    refine CG.seq ?_
    refine CG.region ?_
    refine RG.op (ok_assign hI) rfl ?_
    refine RG.op (ok_assign hI) rfl ?_
    refine RG.op (ok_assign hB) rfl ?_
    refine RG.nil ?_
    refine AT.next ?_
    refine CG.ret ?_
    refine AT.then_ret ?_
    cases so h
    exact AT.ret3 rfl rfl rfl rfl
  · have h := cf h hc
    refine CG.skip ?_
    refine AT.next ?_
    refine CG.seq ?_
    obtain ⟨e4, q_e4, h⟩ := bs h
    obtain ⟨e5, q_e5, h⟩ := bs h
    refine CG.draw (ts := [tPtr (rSl rpDENode) e.Nodes, tD (rSl rpDENode) e.Nodes, tPtr rpDENode e4, tPtr (rI .i64) e4.Col, tD (rI .i64) e4.Col, tPtr (rSl rpDENode) e.Nodes, tD (rSl rpDENode) e.Nodes, tPtr rpDENode e5, tPtr (rI .i64) e5.Col, tD (rI .i64) e5.Col, tD (rI .i64) e4.Col, tD (rI .i64) e5.Col]) mixed rfl rfl
      ⟨⟨[⟨2, _, none⟩], _, rfl, ⟨rfl, trivial⟩, rfl, rfl, OpG.plain rfl (ok_fieldAddr fd24_0 rfl flDExpr_0 rfl (ht rfl))⟩,
      ⟨⟨[⟨37, _, some 0⟩], _, rfl, ⟨rfl, trivial⟩, rfl, rfl, OpG.plain rfl (ok_load ti22 rfl rfl (ht rfl))⟩,
      ⟨⟨[⟨38, _, some 1⟩], _, rfl, ⟨rfl, trivial⟩, rfl, rfl, OpG.plain rfl (ok_indexAddr Tryz.underlying22 ti42 rfl (ht rfl) hI q_e4)⟩,
      ⟨⟨[⟨39, _, some 2⟩], _, rfl, ⟨rfl, trivial⟩, rfl, rfl, OpG.plain rfl (ok_fieldAddr fd42_3 rfl flDENode_3 rfl (ht rfl))⟩,
      ⟨⟨[⟨40, _, some 3⟩], _, rfl, ⟨rfl, trivial⟩, rfl, rfl, OpG.plain rfl (ok_load ti3 rfl rfl (ht rfl))⟩,
      ⟨⟨[⟨2, _, none⟩], _, rfl, ⟨rfl, trivial⟩, rfl, rfl, OpG.plain rfl (ok_fieldAddr fd24_0 rfl flDExpr_0 rfl (ht rfl))⟩,
      ⟨⟨[⟨42, _, some 5⟩], _, rfl, ⟨rfl, trivial⟩, rfl, rfl, OpG.plain rfl (ok_load ti22 rfl rfl (ht rfl))⟩,
      ⟨⟨[⟨43, _, some 6⟩], _, rfl, ⟨rfl, trivial⟩, rfl, rfl, OpG.plain rfl (ok_indexAddr Tryz.underlying22 ti42 rfl (ht rfl) hI q_e5)⟩,
      ⟨⟨[⟨44, _, some 7⟩], _, rfl, ⟨rfl, trivial⟩, rfl, rfl, OpG.plain rfl (ok_fieldAddr fd42_3 rfl flDENode_3 rfl (ht rfl))⟩,
      ⟨⟨[⟨45, _, some 8⟩], _, rfl, ⟨rfl, trivial⟩, rfl, rfl, OpG.plain rfl (ok_load ti3 rfl rfl (ht rfl))⟩,
      ⟨⟨[⟨41, _, some 4⟩], _, rfl, ⟨rfl, trivial⟩, rfl, rfl, OpG.plain rfl (ok_assign (ht rfl))⟩,
      ⟨⟨[⟨46, _, some 9⟩], _, rfl, ⟨rfl, trivial⟩, rfl, rfl, OpG.plain rfl (ok_assign (ht rfl))⟩,
      trivial⟩⟩⟩⟩⟩⟩⟩⟩⟩⟩⟩⟩ ?_
    refine AT.next ?_
    refine CG.sjoin2 (Z := fun a1 b => ref10_Pair_k1 left a1 b = some R) (Of := fun a1 b => []) (Gf := fun a1 b => [(1, tD (rI .i64) left), (7, tD (rI .i64) a1), (8, tD (rI .i64) b)]) (fun a1 b h => ?_) (fun K => ?_)
    · skip
      refine CG.seq ?_
      refine CG.seq ?_
      refine CG.region ?_
      refine RG.op (ok_move (ht rfl)) rfl ?_
      refine RG.op (ok_move (ht rfl)) rfl ?_
      refine RG.op (ok_geq (ht rfl) (ht rfl)) rfl ?_
      refine RG.op (ok_move (ht rfl)) rfl ?_
      refine RG.opGf rfl rfl rfl rfl (fun hg => ok_move (ht rfl)) ?_
      refine RG.opGf rfl rfl rfl rfl (fun hg => ok_move (ht rfl)) ?_
      refine RG.opGf rfl rfl rfl rfl (fun hg => ok_lss (htO rfl hg) (htO rfl hg)) ?_
      refine RG.op (ok_pickOr (ht rfl) (fun hb => (htO rfl (noti hb)))) rfl ?_
      refine RG.nil ?_
      refine AT.next ?_
      refine CG.cond (ht rfl) (fun hc => ?_) (fun hc => ?_)
      · have h := ct h hc
        refine CG.seq ?_
        refine CG.region ?_
        refine RG.op (ok_assign hI) rfl ?_
        refine RG.op (ok_assign hI) rfl ?_
        refine RG.op (ok_assign hB) rfl ?_
        refine RG.nil ?_
        refine AT.next ?_
        refine CG.ret ?_
        refine AT.then_ret ?_
        cases so h
        exact AT.ret3 rfl rfl rfl rfl
      · have h := cf h hc
        refine CG.skip ?_
        refine AT.next ?_
        refine CG.seq ?_
        refine CG.region ?_
        refine RG.op (ok_move (ht rfl)) rfl ?_
        refine RG.op (ok_move (ht rfl)) rfl ?_
        refine RG.op (ok_move (ht rfl)) rfl ?_
        refine RG.op (ok_sub (ht rfl) (ht rfl)) rfl ?_
        refine RG.op (ok_assign (ht rfl)) rfl ?_
        refine RG.op (ok_assign (ht rfl)) rfl ?_
        refine RG.op (ok_assign hB) rfl ?_
        refine RG.nil ?_
        refine AT.next ?_
        refine CG.ret ?_
        cases so h
        exact AT.ret3 rfl rfl rfl rfl
    · skip
      refine CG.seq ?_
      refine CG.region ?_
      refine RG.op (ok_move (ht rfl)) rfl ?_
      refine RG.op (ok_move (ht rfl)) rfl ?_
      refine RG.op (ok_geq (ht rfl) (ht rfl)) rfl ?_
      refine RG.nil ?_
      refine AT.next ?_
      refine CG.cond (ht rfl) (fun hc => ?_) (fun hc => ?_)
      · have h := ct h hc
        refine CG.region ?_
        refine RG.op (ok_move (ht rfl)) rfl ?_
        refine RG.op (ok_move (ht rfl)) rfl ?_
        refine RG.op (ok_assign (ht rfl)) rfl ?_
        refine RG.op (ok_assign (ht rfl)) rfl ?_
        refine RG.nil ?_
        exact AT.sub (K e5.Col e4.Col h) ⟨rfl, rfl, rfl, trivial⟩
      · have h := cf h hc
        refine CG.skip ?_
        exact AT.sub (K e4.Col e5.Col h) ⟨rfl, rfl, rfl, trivial⟩

end Go.Proofs.YtdhledkpgaeoaaaGreatDoor

