/- Facts of this claim: P7. -/
import Derived.Test.YtdhledkpgaeoaaaGreatDoorKfT
import Derived.Test.YtdhledkpgaeoaaaGreatDoorKfP6
namespace Go.Proofs.YtdhledkpgaeoaaaGreatDoor
open Go

set_option maxRecDepth 100000 in
theorem f15_ok (a1 : DExpr) (b : DExpr) {R : Bool} (h : ref10_Same a1 b = some R) : Spec Tryz.prog 15 [tD rpDExpr a1, tD rpDExpr b] (tD rB R) := by
  refine Spec.of Tryz.func15 rfl rfl rfl fun w0 S0 => ?_
  refine CG.seq ?_
  refine CG.region ?_
  refine RG.op (ok_box (ht rfl)) rfl ?_
  refine RG.op (ok_box (ht rfl)) rfl ?_
  refine RG.op (ok_assign hB) rfl ?_
  refine RG.nil ?_
  refine AT.next ?_
  refine CG.seq ?_
  refine CG.seq ?_
  refine CG.region ?_
  refine RG.op (ok_fieldAddr fd24_0 rfl flDExpr_0 rfl (ht rfl)) rfl ?_
  refine RG.op (ok_load ti22 rfl rfl (ht rfl)) rfl ?_
  refine RG.op (ok_lenSl Tryz.underlying22 (ht rfl)) rfl ?_
  refine RG.op (ok_fieldAddr fd24_0 rfl flDExpr_0 rfl (ht rfl)) rfl ?_
  refine RG.op (ok_load ti22 rfl rfl (ht rfl)) rfl ?_
  refine RG.op (ok_lenSl Tryz.underlying22 (ht rfl)) rfl ?_
  refine RG.op (ok_neqI (ht rfl) (ht rfl)) rfl ?_
  refine RG.nil ?_
  refine AT.next ?_
  refine CG.cond (ht rfl) (fun hc => ?_) (fun hc => ?_)
  · have h := ct h hc
    refine CG.seq ?_
    refine CG.region ?_
    refine RG.op (ok_assign hB) rfl ?_
    refine RG.nil ?_
    refine AT.next ?_
    refine CG.ret ?_
    refine AT.then_ret ?_
    cases so h
    exact AT.ret1 rfl rfl
  · have h := cf h hc
    refine CG.skip ?_
    refine AT.next ?_
    refine CG.seq ?_
    refine CG.seq ?_
    refine CG.region ?_
    refine RG.op (ok_fieldAddr fd24_0 rfl flDExpr_0 rfl (ht rfl)) rfl ?_
    refine RG.op (ok_load ti22 rfl rfl (ht rfl)) rfl ?_
    refine RG.op (ok_lenSl Tryz.underlying22 (ht rfl)) rfl ?_
    refine RG.op (ok_move hI) rfl ?_
    refine RG.nil ?_
    refine AT.next ?_
    refine CG.block ?_
    refine CG.have_len (k := 14) rfl (fun hN => ?_)
    refine CG.loop ?_
    refine LG.sub (LG.list1 (Z := fun ls i  => (a1.Nodes.drop i = ls) ∧ ref10_Same_l1 b ls i  = some R) (Of := fun _ i  => []) (Gf := fun _ i  => [(2, tPtr rpDExpr a1), (3, tPtr rpDExpr b), (15, tD (rI .i64) (a1.Nodes.length : Int)), (16, tD (rI .i64) (i : Int))]) (fun i  h => ?_) (fun e tl ih i  h => ?_) a1.Nodes 0  ⟨rfl, h⟩) ⟨rfl, rfl, rfl, rfl, trivial⟩
    · obtain ⟨hx, h⟩ := h
      refine LG.unfold ?_
      refine CG.seq ?_
      refine CG.region ?_
      refine RG.op (ok_lss (ht rfl) (ht rfl)) rfl ?_
      refine RG.nil ?_
      refine AT.next ?_
      refine CG.seq ?_
      refine CG.condF (ht rfl) (dropF hx) ?_
      refine CG.exit ?_
      refine AT.then_exit (AT.then_exit (AT.in_exit ?_))
      refine AT.next ?_
      refine CG.seq ?_
      refine CG.region ?_
      refine RG.op (ok_assign hB) rfl ?_
      refine RG.nil ?_
      refine AT.next ?_
      refine CG.ret ?_
      cases so h
      exact AT.ret1 rfl rfl
    · obtain ⟨hx, h⟩ := h
      refine LG.unfold ?_
      refine CG.seq ?_
      refine CG.region ?_
      refine RG.op (ok_lss (ht rfl) (ht rfl)) rfl ?_
      refine RG.nil ?_
      refine AT.next ?_
      refine CG.seq ?_
      refine CG.condT (ht rfl) (dropT hx) ?_
      refine CG.skip ?_
      refine AT.next ?_
      refine CG.seq ?_
      refine CG.block ?_
      refine CG.seq ?_
      refine CG.region ?_
      refine RG.op (ok_move (ht rfl)) rfl ?_
      refine RG.op (ok_assign (ht rfl)) rfl ?_
      refine RG.nil ?_
      refine AT.next ?_
      refine CG.seq ?_
      obtain ⟨e1, q_e1, h⟩ := bs h
      refine CG.draw (ts := [tPtr (rSl rpDENode) a1.Nodes, tD (rSl rpDENode) a1.Nodes, tD (rI .i64) (i : Int), tPtr rpDENode e, tD rpDENode e, tPtr (rSl rpDENode) b.Nodes, tD (rSl rpDENode) b.Nodes, tD (rI .i64) (i : Int), tPtr rpDENode e1, tD rpDENode e1, tD rB (!decide (e = e1))]) mixed rfl rfl
        ⟨⟨[⟨2, _, none⟩], _, rfl, ⟨rfl, trivial⟩, rfl, rfl, OpG.plain rfl (ok_fieldAddr fd24_0 rfl flDExpr_0 rfl (ht rfl))⟩,
        ⟨⟨[⟨19, _, some 0⟩], _, rfl, ⟨rfl, trivial⟩, rfl, rfl, OpG.plain rfl (ok_load ti22 rfl rfl (ht rfl))⟩,
        ⟨⟨[⟨5, _, none⟩], _, rfl, ⟨rfl, trivial⟩, rfl, rfl, OpG.plain rfl (ok_move (ht rfl))⟩,
        ⟨⟨[⟨20, _, some 1⟩, ⟨21, _, some 2⟩], _, rfl, ⟨rfl, rfl, trivial⟩, rfl, rfl, OpG.plain rfl (ok_indexAddr Tryz.underlying22 ti42 rfl (ht rfl) (ht rfl) (dropI hx))⟩,
        ⟨⟨[⟨22, _, some 3⟩], _, rfl, ⟨rfl, trivial⟩, rfl, rfl, OpG.plain rfl (ok_load ti42 rfl rfl (ht rfl))⟩,
        ⟨⟨[⟨3, _, none⟩], _, rfl, ⟨rfl, trivial⟩, rfl, rfl, OpG.plain rfl (ok_fieldAddr fd24_0 rfl flDExpr_0 rfl (ht rfl))⟩,
        ⟨⟨[⟨24, _, some 5⟩], _, rfl, ⟨rfl, trivial⟩, rfl, rfl, OpG.plain rfl (ok_load ti22 rfl rfl (ht rfl))⟩,
        ⟨⟨[⟨5, _, none⟩], _, rfl, ⟨rfl, trivial⟩, rfl, rfl, OpG.plain rfl (ok_move (ht rfl))⟩,
        ⟨⟨[⟨25, _, some 6⟩, ⟨26, _, some 7⟩], _, rfl, ⟨rfl, rfl, trivial⟩, rfl, rfl, OpG.plain rfl (ok_indexAddr Tryz.underlying22 ti42 rfl (ht rfl) (ht rfl) q_e1)⟩,
        ⟨⟨[⟨27, _, some 8⟩], _, rfl, ⟨rfl, trivial⟩, rfl, rfl, OpG.plain rfl (ok_load ti42 rfl rfl (ht rfl))⟩,
        ⟨⟨[⟨23, _, some 4⟩, ⟨28, _, some 9⟩], _, rfl, ⟨rfl, rfl, trivial⟩, rfl, rfl, OpG.plain rfl (ok_neqD eq42 (ht rfl) (ht rfl))⟩,
        trivial⟩⟩⟩⟩⟩⟩⟩⟩⟩⟩⟩ ?_
      refine AT.next ?_
      refine CG.cond (ht rfl) (fun hc => ?_) (fun hc => ?_)
      · have h := ct h hc
        refine CG.seq ?_
        refine CG.region ?_
        refine RG.op (ok_assign hB) rfl ?_
        refine RG.nil ?_
        refine AT.next ?_
        refine CG.ret ?_
        refine AT.in_ret (AT.then_ret (AT.then_ret (AT.in_ret (AT.then_ret ?_))))
        cases so h
        exact AT.ret1 rfl rfl
      · have h := cf h hc
        refine CG.skip ?_
        refine AT.in_normal ?_
        refine AT.next ?_
        refine CG.region ?_
        refine RG.op (ok_incN (dropL hx hN) (ht rfl) hI) rfl ?_
        refine RG.op (ok_move (ht rfl)) rfl ?_
        refine RG.nil ?_
        exact AT.round (LG.sub (ih (i + 1)  ⟨dropS hx, h⟩) ⟨rfl, rfl, rfl, rfl, trivial⟩)

end Go.Proofs.YtdhledkpgaeoaaaGreatDoor

