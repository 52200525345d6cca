/- Facts of this claim: P7. -/
import Derived.Test.YtegigakgcnhiaaaGreatDoorLaT
import Derived.Test.YtegigakgcnhiaaaGreatDoorLaP6
import Derived.Test.YtegigakgcnhiaaaGreatDoorLaNS
namespace Go.Proofs.YtegigakgcnhiaaaGreatDoor
open Go

set_option maxRecDepth 100000 in
theorem f101_ok (register : Int) (one : Bool) {R : Int} (h : ref03_bit register one = some R) : Spec Tryz.prog 101 [tD (rI .u32) register, tD rB one] (tD (rI .u32) R) := by
  refine Spec.of Tryz.func101 rfl rfl rfl fun w0 S0 => ?_
  refine CG.seq ?_
  refine CG.region ?_
  refine RG.op (ok_assign hI) rfl ?_
  refine RG.nil ?_
  refine AT.next ?_
  refine CG.seq ?_
  refine CG.region ?_
  refine RG.op (ok_move (ht rfl)) rfl ?_
  refine RG.op (ok_rem (ht rfl) hI (by decide)) rfl ?_
  refine RG.op (ok_eqlI (ht rfl) hI) rfl ?_
  refine RG.op (ok_assign (ht rfl)) rfl ?_
  refine RG.nil ?_
  refine AT.next ?_
  refine CG.seq ?_
  refine CG.region ?_
  refine RG.op (ok_move (ht rfl)) rfl ?_
  refine RG.op (ok_quo (ht rfl) hI (by decide)) rfl ?_
  refine RG.op (ok_assign (ht rfl)) rfl ?_
  refine RG.nil ?_
  refine AT.next ?_
  refine CG.sjoin1 (Z := fun register1 => ref03_bit_k1 register1 = some R) (Of := fun register1 => []) (Gf := fun register1 => [(0, tD (rI .u32) register1)]) (fun register1 h => ?_) (fun K => ?_)
  · skip
    refine CG.seq ?_
    refine CG.region ?_
    refine RG.op (ok_move (ht rfl)) rfl ?_
    refine RG.op (ok_assign (ht rfl)) rfl ?_
    refine RG.nil ?_
    refine AT.next ?_
    refine CG.ret ?_
    cases so h
    exact AT.ret1 rfl rfl
  · skip
    refine CG.seq ?_
    refine CG.region ?_
    refine RG.op (ok_move (ht rfl)) rfl ?_
    refine RG.op (ok_move (ht rfl)) rfl ?_
    refine RG.op (ok_neqB Tryz.underlying4 (ht rfl) (ht rfl)) rfl ?_
    refine RG.nil ?_
    refine AT.next ?_
    refine CG.cond (ht rfl) (fun hc => ?_) (fun hc => ?_)
    · have h := ct h hc
      refine CG.region ?_
      refine RG.op (ok_move (ht rfl)) rfl ?_
      refine RG.op (ok_xor (ht rfl) hI) rfl ?_
      refine RG.op (ok_assign (ht rfl)) rfl ?_
      refine RG.nil ?_
      exact AT.sub (K (bitsOp .xor .u32 (IntKind.u32.wrap ((register).tdiv (2 : Int))) (2197175160 : Int)) h) ⟨rfl, trivial⟩
    · have h := cf h hc
      refine CG.skip ?_
      exact AT.sub (K (IntKind.u32.wrap ((register).tdiv (2 : Int))) h) ⟨rfl, trivial⟩

set_option maxRecDepth 100000 in
theorem f77_ok (b : (List Int)) {R : Int} (h : ref03_Sum32 b = some R) : Spec Tryz.prog 77 [tD (rSl (rI .u8)) b] (tD (rI .u32) R) := by
  refine Spec.of Tryz.func77 rfl rfl rfl fun w0 S0 => ?_
  refine CG.seq ?_
  refine CG.region ?_
  refine RG.op (ok_assign hI) rfl ?_
  refine RG.nil ?_
  refine AT.next ?_
  refine CG.seq ?_
  refine CG.region ?_
  refine RG.op (ok_assign hI) rfl ?_
  refine RG.nil ?_
  refine AT.next ?_
  refine CG.seq ?_
  refine CG.seq ?_
  refine CG.region ?_
  refine RG.op (ok_assign hI) rfl ?_
  refine RG.nil ?_
  refine AT.next ?_
  refine CG.block ?_
  refine CG.have_len (k := 0) rfl (fun hN => ?_)
  refine CG.loop ?_
  refine LG.sub (LG.list2 (Z := fun ls i register => (b.drop i = ls) ∧ ref03_Sum32_l1 ls register = some R) (Of := fun _ i register => []) (Gf := fun _ i register => [(0, tD (rSl (rI .u8)) b), (3, tD (rI .u32) register), (4, tD (rI .i64) (i : Int))]) (fun i register h => ?_) (fun e tl ih i register h => ?_) b 0 (4294967295 : Int) ⟨rfl, h⟩) ⟨rfl, rfl, rfl, trivial⟩
  · obtain ⟨hx, h⟩ := h
    refine LG.unfold ?_
    refine CG.seq ?_
    refine CG.seq ?_
    refine CG.region ?_
    refine RG.op (ok_move (ht rfl)) rfl ?_
    refine RG.op (ok_move (ht rfl)) rfl ?_
    refine RG.op (ok_lenSl Tryz.underlying117 (ht rfl)) rfl ?_
    refine RG.op (ok_lss (ht rfl) (ht rfl)) rfl ?_
    refine RG.nil ?_
    refine AT.next ?_
    refine CG.condF (ht rfl) (dropF hx) ?_
    refine CG.exit ?_
    refine AT.then_exit (AT.then_exit (AT.in_exit ?_))
    refine AT.next ?_
    refine CG.seq ?_
    refine CG.region ?_
    refine RG.op (ok_move (ht rfl)) rfl ?_
    refine RG.op (ok_sub hI (ht rfl)) rfl ?_
    refine RG.op (ok_assign (ht rfl)) rfl ?_
    refine RG.nil ?_
    refine AT.next ?_
    refine CG.ret ?_
    cases so h
    exact AT.ret1 rfl rfl
  · obtain ⟨hx, h⟩ := h
    refine LG.unfold ?_
    refine CG.seq ?_
    refine CG.seq ?_
    refine CG.region ?_
    refine RG.op (ok_move (ht rfl)) rfl ?_
    refine RG.op (ok_move (ht rfl)) rfl ?_
    refine RG.op (ok_lenSl Tryz.underlying117 (ht rfl)) rfl ?_
    refine RG.op (ok_lss (ht rfl) (ht rfl)) rfl ?_
    refine RG.nil ?_
    refine AT.next ?_
    refine CG.condT (ht rfl) (dropT hx) ?_
    refine CG.skip ?_
    refine AT.next ?_
    refine CG.seq ?_
    refine CG.block ?_
    refine CG.seq ?_
    refine CG.region ?_
    refine RG.op (ok_move (ht rfl)) rfl ?_
    refine RG.op (ok_move (ht rfl)) rfl ?_
    refine RG.op (ok_indexAddr Tryz.underlying117 ti5 rfl (ht rfl) (ht rfl) (dropI hx)) rfl ?_
    refine RG.op (ok_load ti5 rfl rfl (ht rfl)) rfl ?_
    refine RG.op (ok_assign (ht rfl)) rfl ?_
    refine RG.nil ?_
    refine AT.next ?_
    refine CG.seq ?_
    refine CG.region ?_
    refine RG.op (ok_assign hI) rfl ?_
    refine RG.nil ?_
    refine AT.next ?_
    refine CG.block ?_
    refine CG.loop ?_
    refine LG.sub (LG.nat3 (Z := fun k i1 register1 c => (8 - i1 = k) ∧ ref03_Sum32_l2 (ref03_Sum32_l1 tl) k register1 c = some R) (Of := fun _ i1 register1 c => []) (Gf := fun _ i1 register1 c => [(0, tD (rSl (rI .u8)) b), (3, tD (rI .u32) register1), (4, tD (rI .i64) (i : Int)), (5, tD (rI .u8) c), (6, tD (rI .i64) (i1 : Int))]) (fun i1 register1 c h => ?_) (fun k1 ih1 i1 register1 c h => ?_) 8 0 register e ⟨rfl, h⟩) ⟨rfl, rfl, rfl, rfl, rfl, trivial⟩
    · obtain ⟨hx1, h⟩ := h
      refine LG.unfold ?_
      refine CG.seq ?_
      refine CG.seq ?_
      refine CG.region ?_
      refine RG.op (ok_move (ht rfl)) rfl ?_
      refine RG.op (ok_lss (ht rfl) hI) rfl ?_
      refine RG.nil ?_
      refine AT.next ?_
      refine CG.condF (ht rfl) (natF hx1) ?_
      refine CG.exit ?_
      refine AT.then_exit (AT.then_exit (AT.in_exit ?_))
      refine AT.in_normal ?_
      refine AT.next ?_
      refine CG.region ?_
      refine RG.op (ok_move (ht rfl)) rfl ?_
      refine RG.op (ok_incN (dropL hx hN) (ht rfl) hI) rfl ?_
      refine RG.op (ok_assign (ht rfl)) rfl ?_
      refine RG.nil ?_
      exact AT.round (LG.sub (ih (i + 1) register1 ⟨dropS hx, h⟩) ⟨rfl, rfl, rfl, trivial⟩)
    · obtain ⟨hx1, h⟩ := h
      refine LG.unfold ?_
      refine CG.seq ?_
      refine CG.seq ?_
      refine CG.region ?_
      refine RG.op (ok_move (ht rfl)) rfl ?_
      refine RG.op (ok_lss (ht rfl) hI) rfl ?_
      refine RG.nil ?_
      refine AT.next ?_
      refine CG.condT (ht rfl) (natT hx1) ?_
      refine CG.skip ?_
      refine AT.next ?_
      refine CG.seq ?_
      refine CG.block ?_
      refine CG.seq ?_
      refine CG.region ?_
      refine RG.op (ok_move (ht rfl)) rfl ?_
      refine RG.op (ok_move (ht rfl)) rfl ?_
      refine RG.op (ok_rem (ht rfl) hI (by decide)) rfl ?_
      refine RG.op (ok_eqlI (ht rfl) hI) rfl ?_
      obtain ⟨r, q_r, h⟩ := bs h
      refine RG.op (ok_call cb101 (f101_ok _ _ q_r) ⟨(ht rfl), (ht rfl), trivial⟩) rfl ?_
      refine RG.op (ok_assign (ht rfl)) rfl ?_
      refine RG.nil ?_
      refine AT.next ?_
      refine CG.region ?_
      refine RG.op (ok_move (ht rfl)) rfl ?_
      refine RG.op (ok_quo (ht rfl) hI (by decide)) rfl ?_
      refine RG.op (ok_assign (ht rfl)) rfl ?_
      refine RG.nil ?_
      refine AT.in_normal ?_
      refine AT.next ?_
      refine CG.region ?_
      refine RG.op (ok_move (ht rfl)) rfl ?_
      refine RG.op (ok_incN (natL hx1 (by decide)) (ht rfl) hI) rfl ?_
      refine RG.op (ok_assign (ht rfl)) rfl ?_
      refine RG.nil ?_
      exact AT.round (LG.sub (ih1 (i1 + 1) r (IntKind.u8.wrap ((c).tdiv (2 : Int))) ⟨natS hx1, h⟩) ⟨rfl, rfl, rfl, rfl, rfl, trivial⟩)

set_option maxRecDepth 100000 in
theorem f49_ok (r : (List DValue)) (columns : (List Int)) {R : Int} (h : ref05_Hash r columns = some R) : Spec Tryz.prog 49 [tD (rSl rpDValue) r, tD (rSl (rI .i64)) columns] (tD (rI .u32) R) := by
  refine Spec.of Tryz.func49 rfl rfl rfl fun w0 S0 => ?_
  refine CG.seq ?_
  refine CG.region ?_
  refine RG.op (ok_assign hI) rfl ?_
  refine RG.nil ?_
  refine AT.next ?_
  refine CG.seq ?_
  refine CG.region ?_
  refine RG.fresh false (rI .u8) 5 ?_
  refine RG.op (ok_assign hVn) rfl ?_
  refine RG.nil ?_
  refine AT.next ?_
  refine CG.seq ?_
  refine CG.region ?_
  refine RG.op (ok_move (ht rfl)) rfl ?_
  refine RG.op (ok_move (ht rfl)) rfl ?_
  obtain ⟨r1, q_r1, h⟩ := bs h
  refine RG.callO cb75 (f75_own _ _ q_r1) ⟨(ht rfl), (ht rfl), trivial⟩ rfl (fun l c => ?_)
  refine RG.op (ok_assign (ht rfl)) rfl ?_
  refine RG.nil ?_
  refine AT.next ?_
  refine CG.seq ?_
  refine CG.seq ?_
  refine CG.region ?_
  refine RG.op (ok_assign hI) rfl ?_
  refine RG.nil ?_
  refine AT.next ?_
  refine CG.block ?_
  refine CG.have_lenA (.head _) (fun hN => ?_)
  refine CG.loop ?_
  refine LG.front1 ?_
  refine LG.sub (LG.list4 (Z := fun ls i b l1 c1 => (r1.drop i = ls) ∧ ref05_Hash_l1 ls b = some R) (Of := fun _ i b l1 c1 => [arr (rI .u8) 5 l1 c1 b, arr rpDValue 89 l c r1]) (Gf := fun _ i b l1 c1 => [(5, tV (oslV l1 c1 b.length)), (6, tV (oslV l c r1.length)), (7, tD (rI .i64) (i : Int))]) (fun i b l1 c1 h => ?_) (fun e tl ih i b l1 c1 h => ?_) r1 0 ([] : List Int) none 0 ⟨rfl, h⟩) ⟨rfl, rfl, rfl, trivial⟩
  · obtain ⟨hx, h⟩ := h
    refine LG.unfold ?_
    refine CG.seq ?_
    refine CG.seq ?_
    refine CG.region ?_
    refine RG.op (ok_move (ht rfl)) rfl ?_
    refine RG.op (ok_move (ht rfl)) rfl ?_
    refine RG.op (ok_lenO Tryz.underlying45 (.tail _ (.head _)) (ht rfl)) rfl ?_
    refine RG.op (ok_lss (ht rfl) (ht rfl)) rfl ?_
    refine RG.nil ?_
    refine AT.next ?_
    refine CG.condF (ht rfl) (dropF hx) ?_
    refine CG.exit ?_
    refine AT.then_exit (AT.then_exit (AT.in_exit ?_))
    refine AT.next ?_
    refine CG.seq ?_
    refine CG.region ?_
    refine RG.op (ok_move (ht rfl)) rfl ?_
    refine RG.freeze ?_
    refine RG.tipAt 5 rfl ?_
    refine RG.tipAt 61 rfl ?_
    obtain ⟨r2, q_r2, h⟩ := bs h
    refine RG.op (ok_call cb77 (f77_ok _ q_r2) ⟨(tO_d (ht rfl)), trivial⟩) rfl ?_
    refine RG.op (ok_assign (ht rfl)) rfl ?_
    refine RG.nil ?_
    refine AT.next ?_
    refine CG.ret ?_
    refine AT.drop ?_
    refine AT.drop ?_
    cases so h
    exact AT.ret1 rfl rfl
  · obtain ⟨hx, h⟩ := h
    refine LG.unfold ?_
    refine CG.seq ?_
    refine CG.seq ?_
    refine CG.region ?_
    refine RG.op (ok_move (ht rfl)) rfl ?_
    refine RG.op (ok_move (ht rfl)) rfl ?_
    refine RG.op (ok_lenO Tryz.underlying45 (.tail _ (.head _)) (ht rfl)) rfl ?_
    refine RG.op (ok_lss (ht rfl) (ht rfl)) rfl ?_
    refine RG.nil ?_
    refine AT.next ?_
    refine CG.condT (ht rfl) (dropT hx) ?_
    refine CG.skip ?_
    refine AT.next ?_
    refine CG.seq ?_
    refine CG.block ?_
    refine CG.seq ?_
    refine CG.region ?_
    refine RG.op (ok_move (ht rfl)) rfl ?_
    refine RG.op (ok_move (ht rfl)) rfl ?_
    refine RG.op (ok_move (ht rfl)) rfl ?_
    refine RG.op (ok_indexAddrO Tryz.underlying45 ti89 (.tail _ (.head _)) (ht rfl) (ht rfl) (dropI hx)) rfl ?_
    refine RG.op (ok_fieldAddrF (o := (i : Int).toNat * 4 + 0) (n := (i : Int).toNat * 4 + 0) fd89_0 rfl (.tail _ (.head _)) (dropI hx) (ht rfl) rfl) rfl ?_
    refine RG.op (ok_loadE (r := rpDValue) (i := (i : Int)) (foff := 0) ti3 rfl rfl flDValue_0 rfl (.tail _ (.head _)) (dropI hx) (ht rfl)) rfl ?_
    refine RG.op (ok_conv Tryz.underlying3 Tryz.underlying5 (ht rfl)) rfl ?_
    refine RG.op (ok_buildSlice (r := (rI .u8)) (ys := [(IntKind.u8.wrap e.Kind)]) (xs := [.tmp 23]) Tryz.underlying117 ti5 rfl rfl rfl rfl rfl ⟨(ht rfl), trivial⟩) rfl ?_
    obtain ⟨b1, q_b1, h⟩ := bs h
    refine RG.append ti5 rfl rfl rfl rfl Tryz.underlying117 rfl rfl (ht rfl) (ht rfl) q_b1 (fun l2 c2 => ?_)
    refine RG.op (ok_assign (ht rfl)) rfl ?_
    refine RG.nil ?_
    refine AT.next ?_
    refine CG.seq ?_
    refine CG.region ?_
    refine RG.op (ok_move (ht rfl)) rfl ?_
    refine RG.op (ok_move (ht rfl)) rfl ?_
    refine RG.op (ok_move (ht rfl)) rfl ?_
    refine RG.op (ok_indexAddrO Tryz.underlying45 ti89 (.tail _ (.head _)) (ht rfl) (ht rfl) (dropI hx)) rfl ?_
    refine RG.op (ok_fieldAddrF (o := (i : Int).toNat * 4 + 0) (n := (i : Int).toNat * 4 + 1) fd89_1 rfl (.tail _ (.head _)) (dropI hx) (ht rfl) rfl) rfl ?_
    refine RG.op (ok_loadE (r := rpDValue) (i := (i : Int)) (foff := 1) ti2 rfl rfl flDValue_1 rfl (.tail _ (.head _)) (dropI hx) (ht rfl)) rfl ?_
    refine RG.op (ok_conv Tryz.underlying2 Tryz.underlying87 (ht rfl)) rfl ?_
    obtain ⟨r3, q_r3, h⟩ := bs h
    refine RG.callO cb76 (f76_own _ q_r3) ⟨(ht rfl), trivial⟩ rfl (fun l3 c3 => ?_)
    refine RG.freeze ?_
    refine RG.tipAt 33 rfl ?_
    refine RG.front1 ?_
    obtain ⟨b2, q_b2, h⟩ := bs h
    refine RG.append ti5 rfl rfl rfl rfl Tryz.underlying117 rfl rfl (ht rfl) (tO_d (ht rfl)) q_b2 (fun l4 c4 => ?_)
    refine RG.op (ok_assign (ht rfl)) rfl ?_
    refine RG.nil ?_
    refine AT.next ?_
    refine CG.seq ?_
    refine CG.region ?_
    refine RG.op (ok_move (ht rfl)) rfl ?_
    refine RG.op (ok_move (ht rfl)) rfl ?_
    refine RG.op (ok_move (ht rfl)) rfl ?_
    refine RG.op (ok_indexAddrO Tryz.underlying45 ti89 (.tail _ (.tail _ (.head _))) (ht rfl) (ht rfl) (dropI hx)) rfl ?_
    refine RG.op (ok_fieldAddrF (o := (i : Int).toNat * 4 + 0) (n := (i : Int).toNat * 4 + 2) fd89_2 rfl (.tail _ (.tail _ (.head _))) (dropI hx) (ht rfl) rfl) rfl ?_
    refine RG.op (ok_loadE (r := rpDValue) (i := (i : Int)) (foff := 2) ti87 rfl rfl flDValue_2 rfl (.tail _ (.tail _ (.head _))) (dropI hx) (ht rfl)) rfl ?_
    obtain ⟨r4, q_r4, h⟩ := bs h
    refine RG.callO cb76 (f76_own _ q_r4) ⟨(ht rfl), trivial⟩ rfl (fun l5 c5 => ?_)
    refine RG.freeze ?_
    refine RG.tipAt 41 rfl ?_
    refine RG.front1 ?_
    obtain ⟨b3, q_b3, h⟩ := bs h
    refine RG.append ti5 rfl rfl rfl rfl Tryz.underlying117 rfl rfl (ht rfl) (tO_d (ht rfl)) q_b3 (fun l6 c6 => ?_)
    refine RG.op (ok_assign (ht rfl)) rfl ?_
    refine RG.nil ?_
    refine AT.next ?_
    refine CG.seq ?_
    refine CG.region ?_
    refine RG.op (ok_move (ht rfl)) rfl ?_
    refine RG.op (ok_move (ht rfl)) rfl ?_
    refine RG.op (ok_move (ht rfl)) rfl ?_
    refine RG.op (ok_indexAddrO Tryz.underlying45 ti89 (.tail _ (.tail _ (.tail _ (.head _)))) (ht rfl) (ht rfl) (dropI hx)) rfl ?_
    refine RG.op (ok_fieldAddrF (o := (i : Int).toNat * 4 + 0) (n := (i : Int).toNat * 4 + 3) fd89_3 rfl (.tail _ (.tail _ (.tail _ (.head _)))) (dropI hx) (ht rfl) rfl) rfl ?_
    refine RG.op (ok_loadE (r := rpDValue) (i := (i : Int)) (foff := 3) ti9 rfl rfl flDValue_3 rfl (.tail _ (.tail _ (.tail _ (.head _)))) (dropI hx) (ht rfl)) rfl ?_
    refine RG.op (ok_lenS Tryz.underlying9 (ht rfl)) rfl ?_
    refine RG.op (ok_conv Tryz.underlying3 Tryz.underlying5 (ht rfl)) rfl ?_
    refine RG.op (ok_buildSlice (r := (rI .u8)) (ys := [(IntKind.u8.wrap (e.S.length : Int))]) (xs := [.tmp 50]) Tryz.underlying117 ti5 rfl rfl rfl rfl rfl ⟨(ht rfl), trivial⟩) rfl ?_
    obtain ⟨b4, q_b4, h⟩ := bs h
    refine RG.append ti5 rfl rfl rfl rfl Tryz.underlying117 rfl rfl (ht rfl) (ht rfl) q_b4 (fun l7 c7 => ?_)
    refine RG.op (ok_assign (ht rfl)) rfl ?_
    refine RG.nil ?_
    refine AT.next ?_
    refine CG.region ?_
    refine RG.op (ok_move (ht rfl)) rfl ?_
    refine RG.op (ok_move (ht rfl)) rfl ?_
    refine RG.op (ok_move (ht rfl)) rfl ?_
    refine RG.op (ok_indexAddrO Tryz.underlying45 ti89 (.tail _ (.tail _ (.tail _ (.head _)))) (ht rfl) (ht rfl) (dropI hx)) rfl ?_
    refine RG.op (ok_fieldAddrF (o := (i : Int).toNat * 4 + 0) (n := (i : Int).toNat * 4 + 3) fd89_3 rfl (.tail _ (.tail _ (.tail _ (.head _)))) (dropI hx) (ht rfl) rfl) rfl ?_
    refine RG.op (ok_loadE (r := rpDValue) (i := (i : Int)) (foff := 3) ti9 rfl rfl flDValue_3 rfl (.tail _ (.tail _ (.tail _ (.head _)))) (dropI hx) (ht rfl)) rfl ?_
    obtain ⟨u, q_u, h⟩ := bs h
    refine RG.op (ok_convSB Tryz.underlying9 Tryz.underlying117 Tryz.underlying5 (ht rfl) (fits_some q_u)) rfl ?_
    obtain ⟨b5, q_b5, h⟩ := bs h
    refine RG.append ti5 rfl rfl rfl rfl Tryz.underlying117 rfl rfl (ht rfl) (ht rfl) q_b5 (fun l8 c8 => ?_)
    refine RG.op (ok_assign (ht rfl)) rfl ?_
    refine RG.nil ?_
    refine AT.in_normal ?_
    refine AT.next ?_
    refine CG.region ?_
    refine RG.op (ok_move (ht rfl)) rfl ?_
    refine RG.op (ok_incN (dropL hx hN) (ht rfl) hI) rfl ?_
    refine RG.op (ok_assign (ht rfl)) rfl ?_
    refine RG.nil ?_
    refine AT.front1 ?_
    refine AT.drop ?_
    refine AT.front1 ?_
    refine AT.drop ?_
    exact AT.round (LG.sub (ih (i + 1) b5 l8 c8 ⟨dropS hx, h⟩) ⟨rfl, rfl, rfl, trivial⟩)

set_option maxRecDepth 100000 in
theorem f19_ok (t : DTable) (r : (List DValue)) (nodes : Int) {R : Int} (h : ref17_Home t r nodes = some R) : Spec Tryz.prog 19 [tD rpDTable t, tD (rSl rpDValue) r, tD (rI .i64) nodes] (tD (rI .i64) R) := by
  refine Spec.of Tryz.func19 rfl rfl rfl fun w0 S0 => ?_
  refine CG.seq ?_
  refine CG.region ?_
  refine RG.op (ok_box (ht rfl)) rfl ?_
  refine RG.op (ok_assign hI) rfl ?_
  refine RG.nil ?_
  refine AT.next ?_
  refine CG.seq ?_
  refine CG.seq ?_
  refine CG.region ?_
  refine RG.op (ok_fieldAddr fd53_2 rfl flDTable_2 rfl (ht rfl)) rfl ?_
  refine RG.op (ok_load ti28 rfl rfl (ht rfl)) rfl ?_
  refine RG.op (ok_lenSl Tryz.underlying28 (ht rfl)) rfl ?_
  refine RG.op (ok_eqlI (ht rfl) hI) rfl ?_
  refine RG.nil ?_
  refine AT.next ?_
  refine CG.cond (ht rfl) (fun hc => ?_) (fun hc => ?_)
  · have h := ct h hc
    refine CG.seq ?_
    refine CG.region ?_
    refine RG.op (ok_assign hI) rfl ?_
    refine RG.nil ?_
    refine AT.next ?_
    refine CG.ret ?_
    refine AT.then_ret ?_
    cases so h
    exact AT.ret1 rfl rfl
  · have h := cf h hc
    refine CG.skip ?_
    refine AT.next ?_
    refine CG.seq ?_
    refine CG.region ?_
    refine RG.op (ok_move (ht rfl)) rfl ?_
    refine RG.op (ok_fieldAddr fd53_2 rfl flDTable_2 rfl (ht rfl)) rfl ?_
    refine RG.op (ok_load ti28 rfl rfl (ht rfl)) rfl ?_
    obtain ⟨r1, q_r1, h⟩ := bs h
    refine RG.op (ok_call cb49 (f49_ok _ _ q_r1) ⟨(ht rfl), (ht rfl), trivial⟩) rfl ?_
    refine RG.op (ok_conv Tryz.underlying91 Tryz.underlying3 (ht rfl)) rfl ?_
    refine RG.op (ok_move (ht rfl)) rfl ?_
    obtain ⟨u, q_u, h⟩ := bs h
    refine RG.op (ok_rem (ht rfl) (ht rfl) (nz_some q_u)) rfl ?_
    refine RG.op (ok_add (ht rfl) hI) rfl ?_
    refine RG.op (ok_assign (ht rfl)) rfl ?_
    refine RG.nil ?_
    refine AT.next ?_
    refine CG.ret ?_
    cases so h
    exact AT.ret1 rfl rfl

end Go.Proofs.YtegigakgcnhiaaaGreatDoor

