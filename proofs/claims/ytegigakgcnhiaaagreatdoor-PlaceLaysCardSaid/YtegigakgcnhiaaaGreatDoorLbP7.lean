/- Facts of this claim: P7. -/
import Derived.Test.YtegigakgcnhiaaaGreatDoorLbT
import Derived.Test.YtegigakgcnhiaaaGreatDoorLbP6
import Derived.Test.YtegigakgcnhiaaaGreatDoorLbNS
namespace Go.Proofs.YtegigakgcnhiaaaGreatDoor
open Go

set_option maxRecDepth 100000 in
theorem f101_ok (register : Int) (one : Bool) {R : Int} (h : ref03_bit register one = some R) : Spec Tryz.prog 101 [tD (rI .u32) register, tD rB one] (tD (rI .u32) R) := by
  refine Spec.of Tryz.func101 rfl rfl rfl fun w0 S0 => ?_
  refine CG.seq ?_
  refine CG.region ?_
  refine RG.op (ok_assign hI) rfl ?_
  refine RG.nil ?_
  refine AT.next ?_
  refine CG.seq ?_
  refine CG.region ?_
  refine RG.op (ok_move (ht rfl)) rfl ?_
  refine RG.op (ok_rem (ht rfl) hI (by decide)) rfl ?_
  refine RG.op (ok_eqlI (ht rfl) hI) rfl ?_
  refine RG.op (ok_assign (ht rfl)) rfl ?_
  refine RG.nil ?_
  refine AT.next ?_
  refine CG.seq ?_
  refine CG.region ?_
  refine RG.op (ok_move (ht rfl)) rfl ?_
  refine RG.op (ok_quo (ht rfl) hI (by decide)) rfl ?_
  refine RG.op (ok_assign (ht rfl)) rfl ?_
  refine RG.nil ?_
  refine AT.next ?_
  refine CG.sjoin1 (Z := fun register1 => ref03_bit_k1 register1 = some R) (Of := fun register1 => []) (Gf := fun register1 => [(0, tD (rI .u32) register1)]) (fun register1 h => ?_) (fun K => ?_)
  · skip
    refine CG.seq ?_
    refine CG.region ?_
    refine RG.op (ok_move (ht rfl)) rfl ?_
    refine RG.op (ok_assign (ht rfl)) rfl ?_
    refine RG.nil ?_
    refine AT.next ?_
    refine CG.ret ?_
    cases so h
    exact AT.ret1 rfl rfl
  · skip
    refine CG.seq ?_
    refine CG.region ?_
    refine RG.op (ok_move (ht rfl)) rfl ?_
    refine RG.op (ok_move (ht rfl)) rfl ?_
    refine RG.op (ok_neqB Tryz.underlying4 (ht rfl) (ht rfl)) rfl ?_
    refine RG.nil ?_
    refine AT.next ?_
    refine CG.cond (ht rfl) (fun hc => ?_) (fun hc => ?_)
    · have h := ct h hc
      refine CG.region ?_
      refine RG.op (ok_move (ht rfl)) rfl ?_
      refine RG.op (ok_xor (ht rfl) hI) rfl ?_
      refine RG.op (ok_assign (ht rfl)) rfl ?_
      refine RG.nil ?_
      exact AT.sub (K (bitsOp .xor .u32 (IntKind.u32.wrap ((register).tdiv (2 : Int))) (2197175160 : Int)) h) ⟨rfl, trivial⟩
    · have h := cf h hc
      refine CG.skip ?_
      exact AT.sub (K (IntKind.u32.wrap ((register).tdiv (2 : Int))) h) ⟨rfl, trivial⟩

set_option maxRecDepth 100000 in
theorem f77_ok (b : (List Int)) {R : Int} (h : ref03_Sum32 b = some R) : Spec Tryz.prog 77 [tD (rSl (rI .u8)) b] (tD (rI .u32) R) := by
  refine Spec.of Tryz.func77 rfl rfl rfl fun w0 S0 => ?_
  refine CG.seq ?_
  refine CG.region ?_
  refine RG.op (ok_assign hI) rfl ?_
  refine RG.nil ?_
  refine AT.next ?_
  refine CG.seq ?_
  refine CG.region ?_
  refine RG.op (ok_assign hI) rfl ?_
  refine RG.nil ?_
  refine AT.next ?_
  refine CG.seq ?_
  refine CG.seq ?_
  refine CG.region ?_
  refine RG.op (ok_assign hI) rfl ?_
  refine RG.nil ?_
  refine AT.next ?_
  refine CG.block ?_
  refine CG.have_len (k := 0) rfl (fun hN => ?_)
  refine CG.loop ?_
  refine LG.sub (LG.list2 (Z := fun ls i register => (b.drop i = ls) ∧ ref03_Sum32_l1 ls register = some R) (Of := fun _ i register => []) (Gf := fun _ i register => [(0, tD (rSl (rI .u8)) b), (3, tD (rI .u32) register), (4, tD (rI .i64) (i : Int))]) (fun i register h => ?_) (fun e tl ih i register h => ?_) b 0 (4294967295 : Int) ⟨rfl, h⟩) ⟨rfl, rfl, rfl, trivial⟩
  · obtain ⟨hx, h⟩ := h
    refine LG.unfold ?_
    refine CG.seq ?_
    refine CG.seq ?_
    refine CG.region ?_
    refine RG.op (ok_move (ht rfl)) rfl ?_
    refine RG.op (ok_move (ht rfl)) rfl ?_
    refine RG.op (ok_lenSl Tryz.underlying117 (ht rfl)) rfl ?_
    refine RG.op (ok_lss (ht rfl) (ht rfl)) rfl ?_
    refine RG.nil ?_
    refine AT.next ?_
    refine CG.condF (ht rfl) (dropF hx) ?_
    refine CG.exit ?_
    refine AT.then_exit (AT.then_exit (AT.in_exit ?_))
    refine AT.next ?_
    refine CG.seq ?_
    refine CG.region ?_
    refine RG.op (ok_move (ht rfl)) rfl ?_
    refine RG.op (ok_sub hI (ht rfl)) rfl ?_
    refine RG.op (ok_assign (ht rfl)) rfl ?_
    refine RG.nil ?_
    refine AT.next ?_
    refine CG.ret ?_
    cases so h
    exact AT.ret1 rfl rfl
  · obtain ⟨hx, h⟩ := h
    refine LG.unfold ?_
    refine CG.seq ?_
    refine CG.seq ?_
    refine CG.region ?_
    refine RG.op (ok_move (ht rfl)) rfl ?_
    refine RG.op (ok_move (ht rfl)) rfl ?_
    refine RG.op (ok_lenSl Tryz.underlying117 (ht rfl)) rfl ?_
    refine RG.op (ok_lss (ht rfl) (ht rfl)) rfl ?_
    refine RG.nil ?_
    refine AT.next ?_
    refine CG.condT (ht rfl) (dropT hx) ?_
    refine CG.skip ?_
    refine AT.next ?_
    refine CG.seq ?_
    refine CG.block ?_
    refine CG.seq ?_
    refine CG.region ?_
    refine RG.op (ok_move (ht rfl)) rfl ?_
    refine RG.op (ok_move (ht rfl)) rfl ?_
    refine RG.op (ok_indexAddr Tryz.underlying117 ti5 rfl (ht rfl) (ht rfl) (dropI hx)) rfl ?_
    refine RG.op (ok_load ti5 rfl rfl (ht rfl)) rfl ?_
    refine RG.op (ok_assign (ht rfl)) rfl ?_
    refine RG.nil ?_
    refine AT.next ?_
    refine CG.seq ?_
    refine CG.region ?_
    refine RG.op (ok_assign hI) rfl ?_
    refine RG.nil ?_
    refine AT.next ?_
    refine CG.block ?_
    refine CG.loop ?_
    refine LG.sub (LG.nat3 (Z := fun k i1 register1 c => (8 - i1 = k) ∧ ref03_Sum32_l2 (ref03_Sum32_l1 tl) k register1 c = some R) (Of := fun _ i1 register1 c => []) (Gf := fun _ i1 register1 c => [(0, tD (rSl (rI .u8)) b), (3, tD (rI .u32) register1), (4, tD (rI .i64) (i : Int)), (5, tD (rI .u8) c), (6, tD (rI .i64) (i1 : Int))]) (fun i1 register1 c h => ?_) (fun k1 ih1 i1 register1 c h => ?_) 8 0 register e ⟨rfl, h⟩) ⟨rfl, rfl, rfl, rfl, rfl, trivial⟩
    · obtain ⟨hx1, h⟩ := h
      refine LG.unfold ?_
      refine CG.seq ?_
      refine CG.seq ?_
      refine CG.region ?_
      refine RG.op (ok_move (ht rfl)) rfl ?_
      refine RG.op (ok_lss (ht rfl) hI) rfl ?_
      refine RG.nil ?_
      refine AT.next ?_
      refine CG.condF (ht rfl) (natF hx1) ?_
      refine CG.exit ?_
      refine AT.then_exit (AT.then_exit (AT.in_exit ?_))
      refine AT.in_normal ?_
      refine AT.next ?_
      refine CG.region ?_
      refine RG.op (ok_move (ht rfl)) rfl ?_
      refine RG.op (ok_incN (dropL hx hN) (ht rfl) hI) rfl ?_
      refine RG.op (ok_assign (ht rfl)) rfl ?_
      refine RG.nil ?_
      exact AT.round (LG.sub (ih (i + 1) register1 ⟨dropS hx, h⟩) ⟨rfl, rfl, rfl, trivial⟩)
    · obtain ⟨hx1, h⟩ := h
      refine LG.unfold ?_
      refine CG.seq ?_
      refine CG.seq ?_
      refine CG.region ?_
      refine RG.op (ok_move (ht rfl)) rfl ?_
      refine RG.op (ok_lss (ht rfl) hI) rfl ?_
      refine RG.nil ?_
      refine AT.next ?_
      refine CG.condT (ht rfl) (natT hx1) ?_
      refine CG.skip ?_
      refine AT.next ?_
      refine CG.seq ?_
      refine CG.block ?_
      refine CG.seq ?_
      refine CG.region ?_
      refine RG.op (ok_move (ht rfl)) rfl ?_
      refine RG.op (ok_move (ht rfl)) rfl ?_
      refine RG.op (ok_rem (ht rfl) hI (by decide)) rfl ?_
      refine RG.op (ok_eqlI (ht rfl) hI) rfl ?_
      obtain ⟨r, q_r, h⟩ := bs h
      refine RG.op (ok_call cb101 (f101_ok _ _ q_r) ⟨(ht rfl), (ht rfl), trivial⟩) rfl ?_
      refine RG.op (ok_assign (ht rfl)) rfl ?_
      refine RG.nil ?_
      refine AT.next ?_
      refine CG.region ?_
      refine RG.op (ok_move (ht rfl)) rfl ?_
      refine RG.op (ok_quo (ht rfl) hI (by decide)) rfl ?_
      refine RG.op (ok_assign (ht rfl)) rfl ?_
      refine RG.nil ?_
      refine AT.in_normal ?_
      refine AT.next ?_
      refine CG.region ?_
      refine RG.op (ok_move (ht rfl)) rfl ?_
      refine RG.op (ok_incN (natL hx1 (by decide)) (ht rfl) hI) rfl ?_
      refine RG.op (ok_assign (ht rfl)) rfl ?_
      refine RG.nil ?_
      exact AT.round (LG.sub (ih1 (i1 + 1) r (IntKind.u8.wrap ((c).tdiv (2 : Int))) ⟨natS hx1, h⟩) ⟨rfl, rfl, rfl, rfl, rfl, trivial⟩)

set_option maxRecDepth 100000 in
theorem f49_ok (r : (List DValue)) (columns : (List Int)) {R : Int} (h : ref05_Hash r columns = some R) : Spec Tryz.prog 49 [tD (rSl rpDValue) r, tD (rSl (rI .i64)) columns] (tD (rI .u32) R) := by
  refine Spec.of Tryz.func49 rfl rfl rfl fun w0 S0 => ?_
  refine CG.seq ?_
  refine CG.region ?_
  refine RG.op (ok_assign hI) rfl ?_
  refine RG.nil ?_
  refine AT.next ?_
  refine CG.seq ?_
  refine CG.region ?_
  refine RG.fresh false (rI .u8) 5 ?_
  refine RG.op (ok_assign hVn) rfl ?_
  refine RG.nil ?_
  refine AT.next ?_
  refine CG.seq ?_
  refine CG.region ?_
  refine RG.op (ok_move (ht rfl)) rfl ?_
  refine RG.op (ok_move (ht rfl)) rfl ?_
  obtain ⟨r1, q_r1, h⟩ := bs h
  refine RG.callO cb75 (f75_own _ _ q_r1) ⟨(ht rfl), (ht rfl), trivial⟩ rfl (fun l c => ?_)
  refine RG.op (ok_assign (ht rfl)) rfl ?_
  refine RG.nil ?_
  refine AT.next ?_
  refine CG.seq ?_
  refine CG.seq ?_
  refine CG.region ?_
  refine RG.op (ok_assign hI) rfl ?_
  refine RG.nil ?_
  refine AT.next ?_
  refine CG.block ?_
  refine CG.have_lenA (.head _) (fun hN => ?_)
  refine CG.loop ?_
  refine LG.front1 ?_
  refine LG.sub (LG.list4 (Z := fun ls i b l1 c1 => (r1.drop i = ls) ∧ ref05_Hash_l1 ls b = some R) (Of := fun _ i b l1 c1 => [arr (rI .u8) 5 l1 c1 b, arr rpDValue 89 l c r1]) (Gf := fun _ i b l1 c1 => [(5, tV (oslV l1 c1 b.length)), (6, tV (oslV l c r1.length)), (7, tD (rI .i64) (i : Int))]) (fun i b l1 c1 h => ?_) (fun e tl ih i b l1 c1 h => ?_) r1 0 ([] : List Int) none 0 ⟨rfl, h⟩) ⟨rfl, rfl, rfl, trivial⟩
  · obtain ⟨hx, h⟩ := h
    refine LG.unfold ?_
    refine CG.seq ?_
    refine CG.seq ?_
    refine CG.region ?_
    refine RG.op (ok_move (ht rfl)) rfl ?_
    refine RG.op (ok_move (ht rfl)) rfl ?_
    refine RG.op (ok_lenO Tryz.underlying45 (.tail _ (.head _)) (ht rfl)) rfl ?_
    refine RG.op (ok_lss (ht rfl) (ht rfl)) rfl ?_
    refine RG.nil ?_
    refine AT.next ?_
    refine CG.condF (ht rfl) (dropF hx) ?_
    refine CG.exit ?_
    refine AT.then_exit (AT.then_exit (AT.in_exit ?_))
    refine AT.next ?_
    refine CG.seq ?_
    refine CG.region ?_
    refine RG.op (ok_move (ht rfl)) rfl ?_
    refine RG.freeze ?_
    refine RG.tipAt 5 rfl ?_
    refine RG.tipAt 61 rfl ?_
    obtain ⟨r2, q_r2, h⟩ := bs h
    refine RG.op (ok_call cb77 (f77_ok _ q_r2) ⟨(tO_d (ht rfl)), trivial⟩) rfl ?_
    refine RG.op (ok_assign (ht rfl)) rfl ?_
    refine RG.nil ?_
    refine AT.next ?_
    refine CG.ret ?_
    refine AT.drop ?_
    refine AT.drop ?_
    cases so h
    exact AT.ret1 rfl rfl
  · obtain ⟨hx, h⟩ := h
    refine LG.unfold ?_
    refine CG.seq ?_
    refine CG.seq ?_
    refine CG.region ?_
    refine RG.op (ok_move (ht rfl)) rfl ?_
    refine RG.op (ok_move (ht rfl)) rfl ?_
    refine RG.op (ok_lenO Tryz.underlying45 (.tail _ (.head _)) (ht rfl)) rfl ?_
    refine RG.op (ok_lss (ht rfl) (ht rfl)) rfl ?_
    refine RG.nil ?_
    refine AT.next ?_
    refine CG.condT (ht rfl) (dropT hx) ?_
    refine CG.skip ?_
    refine AT.next ?_
    refine CG.seq ?_
    refine CG.block ?_
    refine CG.seq ?_
    refine CG.region ?_
    refine RG.op (ok_move (ht rfl)) rfl ?_
    refine RG.op (ok_move (ht rfl)) rfl ?_
    refine RG.op (ok_move (ht rfl)) rfl ?_
    refine RG.op (ok_indexAddrO Tryz.underlying45 ti89 (.tail _ (.head _)) (ht rfl) (ht rfl) (dropI hx)) rfl ?_
    refine RG.op (ok_fieldAddrF (o := (i : Int).toNat * 4 + 0) (n := (i : Int).toNat * 4 + 0) fd89_0 rfl (.tail _ (.head _)) (dropI hx) (ht rfl) rfl) rfl ?_
    refine RG.op (ok_loadE (r := rpDValue) (i := (i : Int)) (foff := 0) ti3 rfl rfl flDValue_0 rfl (.tail _ (.head _)) (dropI hx) (ht rfl)) rfl ?_
    refine RG.op (ok_conv Tryz.underlying3 Tryz.underlying5 (ht rfl)) rfl ?_
    refine RG.op (ok_buildSlice (r := (rI .u8)) (ys := [(IntKind.u8.wrap e.Kind)]) (xs := [.tmp 23]) Tryz.underlying117 ti5 rfl rfl rfl rfl rfl ⟨(ht rfl), trivial⟩) rfl ?_
    obtain ⟨b1, q_b1, h⟩ := bs h
    refine RG.append ti5 rfl rfl rfl rfl Tryz.underlying117 rfl rfl (ht rfl) (ht rfl) q_b1 (fun l2 c2 => ?_)
    refine RG.op (ok_assign (ht rfl)) rfl ?_
    refine RG.nil ?_
    refine AT.next ?_
    refine CG.seq ?_
    refine CG.region ?_
    refine RG.op (ok_move (ht rfl)) rfl ?_
    refine RG.op (ok_move (ht rfl)) rfl ?_
    refine RG.op (ok_move (ht rfl)) rfl ?_
    refine RG.op (ok_indexAddrO Tryz.underlying45 ti89 (.tail _ (.head _)) (ht rfl) (ht rfl) (dropI hx)) rfl ?_
    refine RG.op (ok_fieldAddrF (o := (i : Int).toNat * 4 + 0) (n := (i : Int).toNat * 4 + 1) fd89_1 rfl (.tail _ (.head _)) (dropI hx) (ht rfl) rfl) rfl ?_
    refine RG.op (ok_loadE (r := rpDValue) (i := (i : Int)) (foff := 1) ti2 rfl rfl flDValue_1 rfl (.tail _ (.head _)) (dropI hx) (ht rfl)) rfl ?_
    refine RG.op (ok_conv Tryz.underlying2 Tryz.underlying87 (ht rfl)) rfl ?_
    obtain ⟨r3, q_r3, h⟩ := bs h
    refine RG.callO cb76 (f76_own _ q_r3) ⟨(ht rfl), trivial⟩ rfl (fun l3 c3 => ?_)
    refine RG.freeze ?_
    refine RG.tipAt 33 rfl ?_
    refine RG.front1 ?_
    obtain ⟨b2, q_b2, h⟩ := bs h
    refine RG.append ti5 rfl rfl rfl rfl Tryz.underlying117 rfl rfl (ht rfl) (tO_d (ht rfl)) q_b2 (fun l4 c4 => ?_)
    refine RG.op (ok_assign (ht rfl)) rfl ?_
    refine RG.nil ?_
    refine AT.next ?_
    refine CG.seq ?_
    refine CG.region ?_
    refine RG.op (ok_move (ht rfl)) rfl ?_
    refine RG.op (ok_move (ht rfl)) rfl ?_
    refine RG.op (ok_move (ht rfl)) rfl ?_
    refine RG.op (ok_indexAddrO Tryz.underlying45 ti89 (.tail _ (.tail _ (.head _))) (ht rfl) (ht rfl) (dropI hx)) rfl ?_
    refine RG.op (ok_fieldAddrF (o := (i : Int).toNat * 4 + 0) (n := (i : Int).toNat * 4 + 2) fd89_2 rfl (.tail _ (.tail _ (.head _))) (dropI hx) (ht rfl) rfl) rfl ?_
    refine RG.op (ok_loadE (r := rpDValue) (i := (i : Int)) (foff := 2) ti87 rfl rfl flDValue_2 rfl (.tail _ (.tail _ (.head _))) (dropI hx) (ht rfl)) rfl ?_
    obtain ⟨r4, q_r4, h⟩ := bs h
    refine RG.callO cb76 (f76_own _ q_r4) ⟨(ht rfl), trivial⟩ rfl (fun l5 c5 => ?_)
    refine RG.freeze ?_
    refine RG.tipAt 41 rfl ?_
    refine RG.front1 ?_
    obtain ⟨b3, q_b3, h⟩ := bs h
    refine RG.append ti5 rfl rfl rfl rfl Tryz.underlying117 rfl rfl (ht rfl) (tO_d (ht rfl)) q_b3 (fun l6 c6 => ?_)
    refine RG.op (ok_assign (ht rfl)) rfl ?_
    refine RG.nil ?_
    refine AT.next ?_
    refine CG.seq ?_
    refine CG.region ?_
    refine RG.op (ok_move (ht rfl)) rfl ?_
    refine RG.op (ok_move (ht rfl)) rfl ?_
    refine RG.op (ok_move (ht rfl)) rfl ?_
    refine RG.op (ok_indexAddrO Tryz.underlying45 ti89 (.tail _ (.tail _ (.tail _ (.head _)))) (ht rfl) (ht rfl) (dropI hx)) rfl ?_
    refine RG.op (ok_fieldAddrF (o := (i : Int).toNat * 4 + 0) (n := (i : Int).toNat * 4 + 3) fd89_3 rfl (.tail _ (.tail _ (.tail _ (.head _)))) (dropI hx) (ht rfl) rfl) rfl ?_
    refine RG.op (ok_loadE (r := rpDValue) (i := (i : Int)) (foff := 3) ti9 rfl rfl flDValue_3 rfl (.tail _ (.tail _ (.tail _ (.head _)))) (dropI hx) (ht rfl)) rfl ?_
    refine RG.op (ok_lenS Tryz.underlying9 (ht rfl)) rfl ?_
    refine RG.op (ok_conv Tryz.underlying3 Tryz.underlying5 (ht rfl)) rfl ?_
    refine RG.op (ok_buildSlice (r := (rI .u8)) (ys := [(IntKind.u8.wrap (e.S.length : Int))]) (xs := [.tmp 50]) Tryz.underlying117 ti5 rfl rfl rfl rfl rfl ⟨(ht rfl), trivial⟩) rfl ?_
    obtain ⟨b4, q_b4, h⟩ := bs h
    refine RG.append ti5 rfl rfl rfl rfl Tryz.underlying117 rfl rfl (ht rfl) (ht rfl) q_b4 (fun l7 c7 => ?_)
    refine RG.op (ok_assign (ht rfl)) rfl ?_
    refine RG.nil ?_
    refine AT.next ?_
    refine CG.region ?_
    refine RG.op (ok_move (ht rfl)) rfl ?_
    refine RG.op (ok_move (ht rfl)) rfl ?_
    refine RG.op (ok_move (ht rfl)) rfl ?_
    refine RG.op (ok_indexAddrO Tryz.underlying45 ti89 (.tail _ (.tail _ (.tail _ (.head _)))) (ht rfl) (ht rfl) (dropI hx)) rfl ?_
    refine RG.op (ok_fieldAddrF (o := (i : Int).toNat * 4 + 0) (n := (i : Int).toNat * 4 + 3) fd89_3 rfl (.tail _ (.tail _ (.tail _ (.head _)))) (dropI hx) (ht rfl) rfl) rfl ?_
    refine RG.op (ok_loadE (r := rpDValue) (i := (i : Int)) (foff := 3) ti9 rfl rfl flDValue_3 rfl (.tail _ (.tail _ (.tail _ (.head _)))) (dropI hx) (ht rfl)) rfl ?_
    obtain ⟨u, q_u, h⟩ := bs h
    refine RG.op (ok_convSB Tryz.underlying9 Tryz.underlying117 Tryz.underlying5 (ht rfl) (fits_some q_u)) rfl ?_
    obtain ⟨b5, q_b5, h⟩ := bs h
    refine RG.append ti5 rfl rfl rfl rfl Tryz.underlying117 rfl rfl (ht rfl) (ht rfl) q_b5 (fun l8 c8 => ?_)
    refine RG.op (ok_assign (ht rfl)) rfl ?_
    refine RG.nil ?_
    refine AT.in_normal ?_
    refine AT.next ?_
    refine CG.region ?_
    refine RG.op (ok_move (ht rfl)) rfl ?_
    refine RG.op (ok_incN (dropL hx hN) (ht rfl) hI) rfl ?_
    refine RG.op (ok_assign (ht rfl)) rfl ?_
    refine RG.nil ?_
    refine AT.front1 ?_
    refine AT.drop ?_
    refine AT.front1 ?_
    refine AT.drop ?_
    exact AT.round (LG.sub (ih (i + 1) b5 l8 c8 ⟨dropS hx, h⟩) ⟨rfl, rfl, rfl, trivial⟩)

set_option maxRecDepth 100000 in
theorem f19_ok (t : DTable) (r : (List DValue)) (nodes : Int) {R : Int} (h : ref17_Home t r nodes = some R) : Spec Tryz.prog 19 [tD rpDTable t, tD (rSl rpDValue) r, tD (rI .i64) nodes] (tD (rI .i64) R) := by
  refine Spec.of Tryz.func19 rfl rfl rfl fun w0 S0 => ?_
  refine CG.seq ?_
  refine CG.region ?_
  refine RG.op (ok_box (ht rfl)) rfl ?_
  refine RG.op (ok_assign hI) rfl ?_
  refine RG.nil ?_
  refine AT.next ?_
  refine CG.seq ?_
  refine CG.seq ?_
  refine CG.region ?_
  refine RG.op (ok_fieldAddr fd53_2 rfl flDTable_2 rfl (ht rfl)) rfl ?_
  refine RG.op (ok_load ti28 rfl rfl (ht rfl)) rfl ?_
  refine RG.op (ok_lenSl Tryz.underlying28 (ht rfl)) rfl ?_
  refine RG.op (ok_eqlI (ht rfl) hI) rfl ?_
  refine RG.nil ?_
  refine AT.next ?_
  refine CG.cond (ht rfl) (fun hc => ?_) (fun hc => ?_)
  · have h := ct h hc
    refine CG.seq ?_
    refine CG.region ?_
    refine RG.op (ok_assign hI) rfl ?_
    refine RG.nil ?_
    refine AT.next ?_
    refine CG.ret ?_
    refine AT.then_ret ?_
    cases so h
    exact AT.ret1 rfl rfl
  · have h := cf h hc
    refine CG.skip ?_
    refine AT.next ?_
    refine CG.seq ?_
    refine CG.region ?_
    refine RG.op (ok_move (ht rfl)) rfl ?_
    refine RG.op (ok_fieldAddr fd53_2 rfl flDTable_2 rfl (ht rfl)) rfl ?_
    refine RG.op (ok_load ti28 rfl rfl (ht rfl)) rfl ?_
    obtain ⟨r1, q_r1, h⟩ := bs h
    refine RG.op (ok_call cb49 (f49_ok _ _ q_r1) ⟨(ht rfl), (ht rfl), trivial⟩) rfl ?_
    refine RG.op (ok_conv Tryz.underlying91 Tryz.underlying3 (ht rfl)) rfl ?_
    refine RG.op (ok_move (ht rfl)) rfl ?_
    obtain ⟨u, q_u, h⟩ := bs h
    refine RG.op (ok_rem (ht rfl) (ht rfl) (nz_some q_u)) rfl ?_
    refine RG.op (ok_add (ht rfl) hI) rfl ?_
    refine RG.op (ok_assign (ht rfl)) rfl ?_
    refine RG.nil ?_
    refine AT.next ?_
    refine CG.ret ?_
    cases so h
    exact AT.ret1 rfl rfl

set_option maxRecDepth 100000 in
theorem f16_ok (c : DCatalog) (b : DBase) (nodes : Int) (spread : (List Int)) {R : DLayout} (h : ref17_Lay c b nodes spread = some R) : Spec Tryz.prog 16 [tD rpDCatalog c, tD rpDBase b, tD (rI .i64) nodes, tD (rSl (rI .i64)) spread] (tD rpDLayout R) := by
  refine Spec.of Tryz.func16 rfl rfl rfl fun w0 S0 => ?_
  refine CG.seq ?_
  refine CG.region ?_
  refine RG.op (ok_box (ht rfl)) rfl ?_
  refine RG.op (ok_box (ht rfl)) rfl ?_
  refine RG.alloc (r := rpDLayout) (x := (⟨[]⟩ : DLayout)) ti36 (fun _ => zrDLayout _) rfl (fun b1 => ?_)
  refine RG.nil ?_
  refine AT.next ?_
  refine CG.seq ?_
  refine CG.region ?_
  refine RG.op (ok_load ti24 rfl rfl (ht rfl)) rfl ?_
  refine RG.op (ok_move (ht rfl)) rfl ?_
  obtain ⟨r, q_r, h⟩ := bs h
  refine RG.callM [] _ rfl cb47 (f47_n _ _ q_r) ⟨(ht rfl), (ht rfl), trivial⟩ rfl (fun i => ?_)
  refine (show RG _ _ _ _ [nst (fun y : DBase => y.Tables) (rSl rpDValue) 27 54 45 (i.h 0).1 (i.h 0).2 r.Parts.length i.ng r.Parts none, bx rpDLayout 36 b1 (⟨[]⟩ : DLayout)] ((16, tV (.agg #[oslV (i.h 0).1 (i.h 0).2 r.Parts.length])) :: _) from ?_)
  refine RG.alloc (r := rpOLayout_0) (x := mkOLayout_0 (⟨[]⟩ : DLayout) (oslV none 0 0)) ti36 zrOLayout_0 rfl (fun b2 => ?_)
  refine RG.storeFX (q := rpOLayout_0) (y := mkOLayout_0 (⟨[]⟩ : DLayout) (oslV (i.h 0).1 (i.h 0).2 r.Parts.length)) (x' := mkOLayout_0 (⟨[]⟩ : DLayout) (oslV (i.h 0).1 (i.h 0).2 r.Parts.length)) ti36 rfl (sfx_of sfld_whole) rfl (ht rfl) (hH rfl (fun _ => ⟨rfl, osl_one _ _ _⟩) (ht rfl)) ?_
  refine RG.nil ?_
  refine AT.next ?_
  refine CG.seq ?_
  refine CG.seq ?_
  refine CG.region ?_
  refine RG.op (ok_assign hI) rfl ?_
  refine RG.nil ?_
  refine AT.next ?_
  refine CG.block ?_
  refine CG.loop ?_
  refine LG.front1 ?_
  refine LG.front1 ?_
  refine LG.front2 ?_
  refine LG.sub (LG.ind3 (Z := fun n t x g => ref17_Lay_l1 c b nodes spread n t x = some R) (Of := fun t x g => [bx rpDLayout 36 b1 (⟨[]⟩ : DLayout), bx rpOLayout_0 36 b2 (mkOLayout_0 (⟨[]⟩ : DLayout) (oslV (i.h 0).1 (i.h 0).2 r.Parts.length)), nst (fun y : DBase => y.Tables) (rSl rpDValue) 27 54 45 (i.h 0).1 (i.h 0).2 r.Parts.length g x none]) (Gf := fun t x g => [(2, tD (rI .i64) nodes), (3, tD (rSl (rI .i64)) spread), (4, tPtr rpDCatalog c), (5, tPtr rpDBase b), (8, tV (bptr b1 0)), (9, tV (bptr b2 0)), (10, tD (rI .i64) t)]) (fun t x g h => nn h) (fun n ih t x g h => ?_) FUEL (0 : Int) r.Parts i.ng h) ⟨rfl, rfl, rfl, rfl, rfl, rfl, rfl, trivial⟩
  refine LG.unfold ?_
  refine CG.seq ?_
  refine CG.seq ?_
  refine CG.region ?_
  refine RG.op (ok_move (ht rfl)) rfl ?_
  refine RG.op (ok_fieldAddr fd24_0 rfl flDCatalog_0 rfl (ht rfl)) rfl ?_
  refine RG.op (ok_load ti22 rfl rfl (ht rfl)) rfl ?_
  refine RG.op (ok_lenSl Tryz.underlying22 (ht rfl)) rfl ?_
  refine RG.op (ok_lss (ht rfl) (ht rfl)) rfl ?_
  refine RG.nil ?_
  refine AT.next ?_
  refine CG.cond (ht rfl) (fun hc => ?_) (fun hc => ?_)
  · have h := ct h hc
    refine CG.skip ?_
    refine AT.next ?_
    refine CG.seq ?_
    refine CG.block ?_
    refine CG.seq ?_
    refine CG.region ?_
    refine RG.op (ok_assign hI) rfl ?_
    refine RG.nil ?_
    refine AT.next ?_
    refine CG.block ?_
    refine CG.loop ?_
    refine LG.sub (LG.ind3 (Z := fun n1 i1 x1 g1 => ref17_Lay_l2 c b nodes spread (ref17_Lay_l1 c b nodes spread n) t n1 i1 x1 = some R) (Of := fun i1 x1 g1 => [bx rpDLayout 36 b1 (⟨[]⟩ : DLayout), bx rpOLayout_0 36 b2 (mkOLayout_0 (⟨[]⟩ : DLayout) (oslV (i.h 0).1 (i.h 0).2 r.Parts.length)), nst (fun y : DBase => y.Tables) (rSl rpDValue) 27 54 45 (i.h 0).1 (i.h 0).2 r.Parts.length g1 x1 none]) (Gf := fun i1 x1 g1 => [(2, tD (rI .i64) nodes), (3, tD (rSl (rI .i64)) spread), (4, tPtr rpDCatalog c), (5, tPtr rpDBase b), (8, tV (bptr b1 0)), (9, tV (bptr b2 0)), (10, tD (rI .i64) t), (11, tD (rI .i64) i1)]) (fun i1 x1 g1 h => nn h) (fun n1 ih1 i1 x1 g1 h => ?_) FUEL (0 : Int) x g h) ⟨rfl, rfl, rfl, rfl, rfl, rfl, rfl, rfl, trivial⟩
    refine LG.unfold ?_
    refine CG.seq ?_
    refine CG.seq ?_
    refine CG.region ?_
    refine RG.op (ok_move (ht rfl)) rfl ?_
    refine RG.op (ok_fieldAddr fd27_0 rfl flDBase_0 rfl (ht rfl)) rfl ?_
    refine RG.op (ok_load ti25 rfl rfl (ht rfl)) rfl ?_
    refine RG.op (ok_move (ht rfl)) rfl ?_
    obtain ⟨e, q_e, h⟩ := bs h
    refine RG.op (ok_indexAddr Tryz.underlying25 ti54 rfl (ht rfl) (ht rfl) q_e) rfl ?_
    refine RG.op (ok_load ti54 rfl rfl (ht rfl)) rfl ?_
    refine RG.op (ok_lenSl Tryz.underlying54 (ht rfl)) rfl ?_
    refine RG.op (ok_lss (ht rfl) (ht rfl)) rfl ?_
    refine RG.nil ?_
    refine AT.next ?_
    refine CG.cond (ht rfl) (fun hc => ?_) (fun hc => ?_)
    · have h := ct h hc
      refine CG.skip ?_
      refine AT.next ?_
      refine CG.seq ?_
      refine CG.block ?_
      refine CG.seq ?_
      obtain ⟨e1, q_e1, h⟩ := bs h
      obtain ⟨e2, q_e2, h⟩ := bs h
      obtain ⟨r1, q_r1, h⟩ := bs h
      refine CG.draw (ts := [tPtr (rSl rpDTable) c.Tables, tD (rSl rpDTable) c.Tables, tD (rI .i64) t, tPtr rpDTable e1, tD rpDTable e1, tPtr (rSl (rSl (rSl rpDValue))) b.Tables, tD (rSl (rSl (rSl rpDValue))) b.Tables, tD (rI .i64) t, tPtr (rSl (rSl rpDValue)) e, tD (rSl (rSl rpDValue)) e, tD (rI .i64) i1, tPtr (rSl rpDValue) e2, tD (rSl rpDValue) e2, tD (rI .i64) nodes, tD (rI .i64) r1, tD (rI .i64) r1]) mixed rfl rfl
        ⟨⟨[⟨4, _, none⟩], _, rfl, ⟨rfl, trivial⟩, rfl, rfl, OpG.plain rfl (ok_fieldAddr fd24_0 rfl flDCatalog_0 rfl (ht rfl))⟩,
        ⟨⟨[⟨34, _, some 0⟩], _, rfl, ⟨rfl, trivial⟩, rfl, rfl, OpG.plain rfl (ok_load ti22 rfl rfl (ht rfl))⟩,
        ⟨⟨[⟨10, _, none⟩], _, rfl, ⟨rfl, trivial⟩, rfl, rfl, OpG.plain rfl (ok_move (ht rfl))⟩,
        ⟨⟨[⟨35, _, some 1⟩, ⟨36, _, some 2⟩], _, rfl, ⟨rfl, rfl, trivial⟩, rfl, rfl, OpG.plain rfl (ok_indexAddr Tryz.underlying22 ti53 rfl (ht rfl) (ht rfl) q_e1)⟩,
        ⟨⟨[⟨37, _, some 3⟩], _, rfl, ⟨rfl, trivial⟩, rfl, rfl, OpG.plain rfl (ok_load ti53 rfl rfl (ht rfl))⟩,
        ⟨⟨[⟨5, _, none⟩], _, rfl, ⟨rfl, trivial⟩, rfl, rfl, OpG.plain rfl (ok_fieldAddr fd27_0 rfl flDBase_0 rfl (ht rfl))⟩,
        ⟨⟨[⟨39, _, some 5⟩], _, rfl, ⟨rfl, trivial⟩, rfl, rfl, OpG.plain rfl (ok_load ti25 rfl rfl (ht rfl))⟩,
        ⟨⟨[⟨10, _, none⟩], _, rfl, ⟨rfl, trivial⟩, rfl, rfl, OpG.plain rfl (ok_move (ht rfl))⟩,
        ⟨⟨[⟨40, _, some 6⟩, ⟨41, _, some 7⟩], _, rfl, ⟨rfl, rfl, trivial⟩, rfl, rfl, OpG.plain rfl (ok_indexAddr Tryz.underlying25 ti54 rfl (ht rfl) (ht rfl) q_e)⟩,
        ⟨⟨[⟨42, _, some 8⟩], _, rfl, ⟨rfl, trivial⟩, rfl, rfl, OpG.plain rfl (ok_load ti54 rfl rfl (ht rfl))⟩,
        ⟨⟨[⟨11, _, none⟩], _, rfl, ⟨rfl, trivial⟩, rfl, rfl, OpG.plain rfl (ok_move (ht rfl))⟩,
        ⟨⟨[⟨43, _, some 9⟩, ⟨44, _, some 10⟩], _, rfl, ⟨rfl, rfl, trivial⟩, rfl, rfl, OpG.plain rfl (ok_indexAddr Tryz.underlying54 ti45 rfl (ht rfl) (ht rfl) q_e2)⟩,
        ⟨⟨[⟨45, _, some 11⟩], _, rfl, ⟨rfl, trivial⟩, rfl, rfl, OpG.plain rfl (ok_load ti45 rfl rfl (ht rfl))⟩,
        ⟨⟨[⟨2, _, none⟩], _, rfl, ⟨rfl, trivial⟩, rfl, rfl, OpG.plain rfl (ok_move (ht rfl))⟩,
        ⟨⟨[⟨38, _, some 4⟩, ⟨46, _, some 12⟩, ⟨47, _, some 13⟩], _, rfl, ⟨rfl, rfl, rfl, trivial⟩, rfl, rfl, OpG.plain rfl (ok_call cb19 (f19_ok _ _ _ q_r1) ⟨(ht rfl), (ht rfl), (ht rfl), trivial⟩)⟩,
        ⟨⟨[⟨48, _, some 14⟩], _, rfl, ⟨rfl, trivial⟩, rfl, rfl, OpG.plain rfl (ok_assign (ht rfl))⟩,
        trivial⟩⟩⟩⟩⟩⟩⟩⟩⟩⟩⟩⟩⟩⟩⟩⟩ ?_
      refine AT.next ?_
      refine CG.sjoin1 (Z := fun n2 => ref17_Lay_k1 t (ref17_Lay_l2 c b nodes spread (ref17_Lay_l1 c b nodes spread n) t n1) i1 x1 e2 n2 = some R) (Of := fun n2 => [bx rpDLayout 36 b1 (⟨[]⟩ : DLayout), bx rpOLayout_0 36 b2 (mkOLayout_0 (⟨[]⟩ : DLayout) (oslV (i.h 0).1 (i.h 0).2 r.Parts.length)), nst (fun y : DBase => y.Tables) (rSl rpDValue) 27 54 45 (i.h 0).1 (i.h 0).2 r.Parts.length g1 x1 none]) (Gf := fun n2 => [(2, tD (rI .i64) nodes), (3, tD (rSl (rI .i64)) spread), (4, tPtr rpDCatalog c), (5, tPtr rpDBase b), (8, tV (bptr b1 0)), (9, tV (bptr b2 0)), (10, tD (rI .i64) t), (11, tD (rI .i64) i1), (12, tD (rI .i64) n2)]) (fun n2 h => ?_) (fun K => ?_)
      · skip
        obtain ⟨e3, q_e3, h⟩ := bs h
        obtain ⟨e4, q_e4, h⟩ := bs h
        refine CG.front2 ?_
        refine CG.openN (i := (IntKind.i64.wrap (n2 - (1 : Int)))) (j := t) q_e3 q_e4 ?_
        obtain ⟨l, q_l, h⟩ := bs h
        refine CG.drawS 28 [tc (tV (bptr b2 0)), tc (tV (oslV (i.h 0).1 (i.h 0).2 r.Parts.length)), tc (tD (rI .i64) n2), tc (tD (rI .i64) (IntKind.i64.wrap (n2 - (1 : Int)))), tc (tV (eptr (i.h 0).1 (IntKind.i64.wrap (n2 - (1 : Int))).toNat)), tc (tV (eptr (i.h 0).1 (IntKind.i64.wrap (n2 - (1 : Int))).toNat)), tc (tV (oslV (g1 (IntKind.i64.wrap (n2 - (1 : Int))).toNat).1.1 (g1 (IntKind.i64.wrap (n2 - (1 : Int))).toNat).1.2 e3.Tables.length)), tc (tD (rI .i64) t), tc (tV (bptr b2 0)), tc (tV (oslV (i.h 0).1 (i.h 0).2 r.Parts.length)), tc (tD (rI .i64) n2), tc (tD (rI .i64) (IntKind.i64.wrap (n2 - (1 : Int)))), tc (tV (eptr (i.h 0).1 (IntKind.i64.wrap (n2 - (1 : Int))).toNat)), tc (tV (eptr (i.h 0).1 (IntKind.i64.wrap (n2 - (1 : Int))).toNat)), tc (tV (oslV (g1 (IntKind.i64.wrap (n2 - (1 : Int))).toNat).1.1 (g1 (IntKind.i64.wrap (n2 - (1 : Int))).toNat).1.2 e3.Tables.length)), tc (tD (rI .i64) t), tc (tV (eptr (g1 (IntKind.i64.wrap (n2 - (1 : Int))).toNat).1.1 t.toNat)), tc (tO (rSl rpDValue) ((g1 (IntKind.i64.wrap (n2 - (1 : Int))).toNat).2 t.toNat).1 ((g1 (IntKind.i64.wrap (n2 - (1 : Int))).toNat).2 t.toNat).2 e4), tc (tPtr (rSl (rSl (rSl rpDValue))) b.Tables), tc (tD (rSl (rSl (rSl rpDValue))) b.Tables), tc (tD (rI .i64) t), tc (tPtr (rSl (rSl rpDValue)) e), tc (tD (rSl (rSl rpDValue)) e), tc (tD (rI .i64) i1), tc (tPtr (rSl rpDValue) e2), tc (tD (rSl rpDValue) e2), tc (tD (rSl (rSl rpDValue)) ([e2])), ([27], fun s => tO (rSl rpDValue) ((s.getD 0 zoi).h 0).1 ((s.getD 0 zoi).h 0).2 l)] [false, false, false, false, false, false, false, false, false, false, false, false, false, false, false, false, false, false, false, false, false, false, false, false, false, false, false, true] [fun _ => [tip (rSl rpDValue) 45 ((g1 (IntKind.i64.wrap (n2 - (1 : Int))).toNat).2 t.toNat).1 ((g1 (IntKind.i64.wrap (n2 - (1 : Int))).toNat).2 t.toNat).2 e4, nst (fun y : DBase => y.Tables) (rSl rpDValue) 27 54 45 (i.h 0).1 (i.h 0).2 r.Parts.length g1 x1 (some ((IntKind.i64.wrap (n2 - (1 : Int))).toNat, t.toNat)), bx rpDLayout 36 b1 (⟨[]⟩ : DLayout), bx rpOLayout_0 36 b2 (mkOLayout_0 (⟨[]⟩ : DLayout) (oslV (i.h 0).1 (i.h 0).2 r.Parts.length))], fun sg => [tip (rSl rpDValue) 45 ((sg 27).h 0).1 ((sg 27).h 0).2 l, nst (fun y : DBase => y.Tables) (rSl rpDValue) 27 54 45 (i.h 0).1 (i.h 0).2 r.Parts.length g1 x1 (some ((IntKind.i64.wrap (n2 - (1 : Int))).toNat, t.toNat)), bx rpDLayout 36 b1 (⟨[]⟩ : DLayout), bx rpOLayout_0 36 b2 (mkOLayout_0 (⟨[]⟩ : DLayout) (oslV (i.h 0).1 (i.h 0).2 r.Parts.length))]] rfl mixed rfl rfl rfl rfl rfl
          ⟨⟨[⟨9, fun _ => tV (bptr b2 0), none⟩], _, 0, 1, rfl, ⟨(fun _ => rfl), trivial⟩, rfl, rfl, rfl, rfl, rfl, fun _ sg _ _ => OpG.plain rfl (ok_fieldAddrC (n := 0) fd36_0 rfl (ht rfl) rfl)⟩,
          ⟨⟨[⟨70, fun _ => tV (bptr b2 0), some 0⟩], _, 0, 1, rfl, ⟨(fun _ => rfl), trivial⟩, rfl, rfl, rfl, rfl, rfl, winS (fun sg => OpG.plain rfl (ok_loadFV (l := (i.h 0).1) (cap := (i.h 0).2) (n := r.Parts.length) ti34 flOLayout_0_0 (.tail _ (.tail _ (.tail _ (.head _)))) rfl (ht rfl))) (win1 (fun sg => OpG.plain rfl (ok_loadFV (l := (i.h 0).1) (cap := (i.h 0).2) (n := r.Parts.length) ti34 flOLayout_0_0 (.tail _ (.tail _ (.tail _ (.head _)))) rfl (ht rfl))))⟩,
          ⟨⟨[⟨12, fun _ => tD (rI .i64) n2, none⟩], _, 0, 1, rfl, ⟨(fun _ => rfl), trivial⟩, rfl, rfl, rfl, rfl, rfl, fun _ sg _ _ => OpG.plain rfl (ok_move (ht rfl))⟩,
          ⟨⟨[⟨72, fun _ => tD (rI .i64) n2, some 2⟩], _, 0, 1, rfl, ⟨(fun _ => rfl), trivial⟩, rfl, rfl, rfl, rfl, rfl, fun _ sg _ _ => OpG.plain rfl (ok_sub (ht rfl) hI)⟩,
          ⟨⟨[⟨71, fun _ => tV (oslV (i.h 0).1 (i.h 0).2 r.Parts.length), some 1⟩, ⟨73, fun _ => tD (rI .i64) (IntKind.i64.wrap (n2 - (1 : Int))), some 3⟩], _, 0, 1, rfl, ⟨(fun _ => rfl), (fun _ => rfl), trivial⟩, rfl, rfl, rfl, rfl, rfl, winS (fun sg => OpG.plain rfl (ok_idxN1 Tryz.underlying34 ti27 (.tail _ (.head _)) (ht rfl) (ht rfl) q_e3)) (win1 (fun sg => OpG.plain rfl (ok_idxN1 Tryz.underlying34 ti27 (.tail _ (.head _)) (ht rfl) (ht rfl) q_e3)))⟩,
          ⟨⟨[⟨74, fun _ => tV (eptr (i.h 0).1 (IntKind.i64.wrap (n2 - (1 : Int))).toNat), some 4⟩], _, 0, 1, rfl, ⟨(fun _ => rfl), trivial⟩, rfl, rfl, rfl, rfl, rfl, winS (fun sg => OpG.plain rfl (ok_faN fd27_0 rfl (nst_some1 (.tail _ (.head _)) q_e3) (ht rfl))) (win1 (fun sg => OpG.plain rfl (ok_faN fd27_0 rfl (nst_some1 (.tail _ (.head _)) q_e3) (ht rfl))))⟩,
          ⟨⟨[⟨75, fun _ => tV (eptr (i.h 0).1 (IntKind.i64.wrap (n2 - (1 : Int))).toNat), some 5⟩], _, 0, 1, rfl, ⟨(fun _ => rfl), trivial⟩, rfl, rfl, rfl, rfl, rfl, winS (fun sg => OpG.plain rfl (ok_ldN1 ti25 (.tail _ (.head _)) q_e3 (ht rfl))) (win1 (fun sg => OpG.plain rfl (ok_ldN1 ti25 (.tail _ (.head _)) q_e3 (ht rfl))))⟩,
          ⟨⟨[⟨10, fun _ => tD (rI .i64) t, none⟩], _, 0, 1, rfl, ⟨(fun _ => rfl), trivial⟩, rfl, rfl, rfl, rfl, rfl, fun _ sg _ _ => OpG.plain rfl (ok_move (ht rfl))⟩,
          ⟨⟨[⟨9, fun _ => tV (bptr b2 0), none⟩], _, 0, 0, rfl, ⟨(fun _ => rfl), trivial⟩, rfl, rfl, rfl, rfl, rfl, fun _ sg _ _ => OpG.plain rfl (ok_fieldAddrC (n := 0) fd36_0 rfl (ht rfl) rfl)⟩,
          ⟨⟨[⟨78, fun _ => tV (bptr b2 0), some 8⟩], _, 0, 0, rfl, ⟨(fun _ => rfl), trivial⟩, rfl, rfl, rfl, rfl, rfl, win1 (fun sg => OpG.plain rfl (ok_loadFV (l := (i.h 0).1) (cap := (i.h 0).2) (n := r.Parts.length) ti34 flOLayout_0_0 (.tail _ (.tail _ (.tail _ (.head _)))) rfl (ht rfl)))⟩,
          ⟨⟨[⟨12, fun _ => tD (rI .i64) n2, none⟩], _, 0, 0, rfl, ⟨(fun _ => rfl), trivial⟩, rfl, rfl, rfl, rfl, rfl, fun _ sg _ _ => OpG.plain rfl (ok_move (ht rfl))⟩,
          ⟨⟨[⟨80, fun _ => tD (rI .i64) n2, some 10⟩], _, 0, 0, rfl, ⟨(fun _ => rfl), trivial⟩, rfl, rfl, rfl, rfl, rfl, fun _ sg _ _ => OpG.plain rfl (ok_sub (ht rfl) hI)⟩,
          ⟨⟨[⟨79, fun _ => tV (oslV (i.h 0).1 (i.h 0).2 r.Parts.length), some 9⟩, ⟨81, fun _ => tD (rI .i64) (IntKind.i64.wrap (n2 - (1 : Int))), some 11⟩], _, 0, 0, rfl, ⟨(fun _ => rfl), (fun _ => rfl), trivial⟩, rfl, rfl, rfl, rfl, rfl, win1 (fun sg => OpG.plain rfl (ok_idxN1 Tryz.underlying34 ti27 (.tail _ (.head _)) (ht rfl) (ht rfl) q_e3))⟩,
          ⟨⟨[⟨82, fun _ => tV (eptr (i.h 0).1 (IntKind.i64.wrap (n2 - (1 : Int))).toNat), some 12⟩], _, 0, 0, rfl, ⟨(fun _ => rfl), trivial⟩, rfl, rfl, rfl, rfl, rfl, win1 (fun sg => OpG.plain rfl (ok_faN fd27_0 rfl (nst_some1 (.tail _ (.head _)) q_e3) (ht rfl)))⟩,
          ⟨⟨[⟨83, fun _ => tV (eptr (i.h 0).1 (IntKind.i64.wrap (n2 - (1 : Int))).toNat), some 13⟩], _, 0, 0, rfl, ⟨(fun _ => rfl), trivial⟩, rfl, rfl, rfl, rfl, rfl, win1 (fun sg => OpG.plain rfl (ok_ldN1 ti25 (.tail _ (.head _)) q_e3 (ht rfl)))⟩,
          ⟨⟨[⟨10, fun _ => tD (rI .i64) t, none⟩], _, 0, 0, rfl, ⟨(fun _ => rfl), trivial⟩, rfl, rfl, rfl, rfl, rfl, fun _ sg _ _ => OpG.plain rfl (ok_move (ht rfl))⟩,
          ⟨⟨[⟨84, fun _ => tV (oslV (g1 (IntKind.i64.wrap (n2 - (1 : Int))).toNat).1.1 (g1 (IntKind.i64.wrap (n2 - (1 : Int))).toNat).1.2 e3.Tables.length), some 14⟩, ⟨85, fun _ => tD (rI .i64) t, some 15⟩], _, 0, 0, rfl, ⟨(fun _ => rfl), (fun _ => rfl), trivial⟩, rfl, rfl, rfl, rfl, rfl, win1 (fun sg => OpG.plain rfl (ok_idxN2 (i := (IntKind.i64.wrap (n2 - (1 : Int)))) Tryz.underlying25 ti54 (.tail _ (.head _)) q_e3 (ht rfl) (ht rfl) q_e4))⟩,
          ⟨⟨[⟨86, fun _ => tV (eptr (g1 (IntKind.i64.wrap (n2 - (1 : Int))).toNat).1.1 t.toNat), some 16⟩], _, 0, 0, rfl, ⟨(fun _ => rfl), trivial⟩, rfl, rfl, rfl, rfl, rfl, win1 (fun sg => OpG.plain rfl (ok_ldN2 ti54 (.tail _ (.head _)) (.head _) q_e3 q_e4 (ht rfl)))⟩,
          ⟨⟨[⟨5, fun _ => tPtr rpDBase b, none⟩], _, 0, 0, rfl, ⟨(fun _ => rfl), trivial⟩, rfl, rfl, rfl, rfl, rfl, fun _ sg _ _ => OpG.plain rfl (ok_fieldAddr fd27_0 rfl flDBase_0 rfl (ht rfl))⟩,
          ⟨⟨[⟨88, fun _ => tPtr (rSl (rSl (rSl rpDValue))) b.Tables, some 18⟩], _, 0, 0, rfl, ⟨(fun _ => rfl), trivial⟩, rfl, rfl, rfl, rfl, rfl, fun _ sg _ _ => OpG.plain rfl (ok_load ti25 rfl rfl (ht rfl))⟩,
          ⟨⟨[⟨10, fun _ => tD (rI .i64) t, none⟩], _, 0, 0, rfl, ⟨(fun _ => rfl), trivial⟩, rfl, rfl, rfl, rfl, rfl, fun _ sg _ _ => OpG.plain rfl (ok_move (ht rfl))⟩,
          ⟨⟨[⟨89, fun _ => tD (rSl (rSl (rSl rpDValue))) b.Tables, some 19⟩, ⟨90, fun _ => tD (rI .i64) t, some 20⟩], _, 0, 0, rfl, ⟨(fun _ => rfl), (fun _ => rfl), trivial⟩, rfl, rfl, rfl, rfl, rfl, fun _ sg _ _ => OpG.plain rfl (ok_indexAddr Tryz.underlying25 ti54 rfl (ht rfl) (ht rfl) q_e)⟩,
          ⟨⟨[⟨91, fun _ => tPtr (rSl (rSl rpDValue)) e, some 21⟩], _, 0, 0, rfl, ⟨(fun _ => rfl), trivial⟩, rfl, rfl, rfl, rfl, rfl, fun _ sg _ _ => OpG.plain rfl (ok_load ti54 rfl rfl (ht rfl))⟩,
          ⟨⟨[⟨11, fun _ => tD (rI .i64) i1, none⟩], _, 0, 0, rfl, ⟨(fun _ => rfl), trivial⟩, rfl, rfl, rfl, rfl, rfl, fun _ sg _ _ => OpG.plain rfl (ok_move (ht rfl))⟩,
          ⟨⟨[⟨92, fun _ => tD (rSl (rSl rpDValue)) e, some 22⟩, ⟨93, fun _ => tD (rI .i64) i1, some 23⟩], _, 0, 0, rfl, ⟨(fun _ => rfl), (fun _ => rfl), trivial⟩, rfl, rfl, rfl, rfl, rfl, fun _ sg _ _ => OpG.plain rfl (ok_indexAddr Tryz.underlying54 ti45 rfl (ht rfl) (ht rfl) q_e2)⟩,
          ⟨⟨[⟨94, fun _ => tPtr (rSl rpDValue) e2, some 24⟩], _, 0, 0, rfl, ⟨(fun _ => rfl), trivial⟩, rfl, rfl, rfl, rfl, rfl, fun _ sg _ _ => OpG.plain rfl (ok_load ti45 rfl rfl (ht rfl))⟩,
          ⟨⟨[⟨95, fun _ => tD (rSl rpDValue) e2, some 25⟩], _, 0, 0, rfl, ⟨(fun _ => rfl), trivial⟩, rfl, rfl, rfl, rfl, rfl, fun _ sg _ _ => OpG.plain rfl (ok_buildSlice (r := (rSl rpDValue)) (ys := [e2]) (xs := [.tmp 95]) Tryz.underlying54 ti45 rfl rfl rfl rfl rfl ⟨(ht rfl), trivial⟩)⟩,
          ⟨⟨[⟨87, fun _ => tO (rSl rpDValue) ((g1 (IntKind.i64.wrap (n2 - (1 : Int))).toNat).2 t.toNat).1 ((g1 (IntKind.i64.wrap (n2 - (1 : Int))).toNat).2 t.toNat).2 e4, some 17⟩, ⟨96, fun _ => tD (rSl (rSl rpDValue)) ([e2]), some 26⟩], _, rfl, ⟨(fun _ => rfl), (fun _ => rfl), trivial⟩, rfl, rfl, rfl, fun sg => EffG.plain rfl (eff_appendT ti45 rfl rfl rfl rfl Tryz.underlying54 rfl (ht rfl) (ht rfl) q_l)⟩,
          trivial⟩⟩⟩⟩⟩⟩⟩⟩⟩⟩⟩⟩⟩⟩⟩⟩⟩⟩⟩⟩⟩⟩⟩⟩⟩⟩⟩⟩ (fun sg => ?_)
        refine (show RG _ _ _ _ [tip (rSl rpDValue) 45 ((sg 27).h 0).1 ((sg 27).h 0).2 l, nst (fun y : DBase => y.Tables) (rSl rpDValue) 27 54 45 (i.h 0).1 (i.h 0).2 r.Parts.length g1 x1 (some ((IntKind.i64.wrap (n2 - (1 : Int))).toNat, t.toNat)), bx rpDLayout 36 b1 (⟨[]⟩ : DLayout), bx rpOLayout_0 36 b2 (mkOLayout_0 (⟨[]⟩ : DLayout) (oslV (i.h 0).1 (i.h 0).2 r.Parts.length))] _ from ?_)
        refine RG.op (ok_idxN2 (i := (IntKind.i64.wrap (n2 - (1 : Int)))) Tryz.underlying25 ti54 (.tail _ (.head _)) q_e3 (ht rfl) (ht rfl) q_e4) rfl ?_
        refine RG.eff0 (EffOK.fr1 (EffOK.fr1 (eff_stN (mk := (fun z => (⟨z⟩ : DBase))) (fun _ => rfl) ti54 q_e3 q_e4 (ht rfl) (tO_v (ht rfl))))) (fun _ => ?_)
        refine (show RG _ _ _ _ [nst (fun y : DBase => y.Tables) (rSl rpDValue) 27 54 45 (i.h 0).1 (i.h 0).2 r.Parts.length (gset g1 (IntKind.i64.wrap (n2 - (1 : Int))).toNat t.toNat (((sg 27).h 0).1, ((sg 27).h 0).2)) (xset (fun y : DBase => y.Tables) (fun z => (⟨z⟩ : DBase)) x1 (IntKind.i64.wrap (n2 - (1 : Int))).toNat t.toNat l) none, bx rpDLayout 36 b1 (⟨[]⟩ : DLayout), bx rpOLayout_0 36 b2 (mkOLayout_0 (⟨[]⟩ : DLayout) (oslV (i.h 0).1 (i.h 0).2 r.Parts.length))] _ from ?_)
        refine RG.nil ?_
        refine AT.in_normal ?_
        refine AT.next ?_
        refine CG.region ?_
        refine RG.op (ok_move (ht rfl)) rfl ?_
        refine RG.op (ok_add (ht rfl) hI) rfl ?_
        refine RG.op (ok_assign (ht rfl)) rfl ?_
        refine RG.nil ?_
        refine AT.front2 ?_
        refine AT.front2 ?_
        exact AT.round (LG.sub (ih1 (IntKind.i64.wrap (i1 + (1 : Int))) (xset (fun y : DBase => y.Tables) (fun z => (⟨z⟩ : DBase)) x1 (IntKind.i64.wrap (n2 - (1 : Int))).toNat t.toNat l) (gset g1 (IntKind.i64.wrap (n2 - (1 : Int))).toNat t.toNat (((sg 27).h 0).1, ((sg 27).h 0).2)) h) ⟨rfl, rfl, rfl, rfl, rfl, rfl, rfl, rfl, trivial⟩)
      · skip
        refine CG.seq ?_
        refine CG.region ?_
        refine RG.op (ok_move (ht rfl)) rfl ?_
        refine RG.op (ok_eqlI (ht rfl) hI) rfl ?_
        refine RG.nil ?_
        refine AT.next ?_
        refine CG.cond (ht rfl) (fun hc => ?_) (fun hc => ?_)
        · have h := ct h hc
          refine CG.seq ?_
          refine CG.region ?_
          refine RG.op (ok_move (ht rfl)) rfl ?_
          refine RG.op (ok_assign (ht rfl)) rfl ?_
          refine RG.nil ?_
          refine AT.next ?_
          refine CG.sjoin1 (Z := fun k => ref17_Lay_k2 nodes t (ref17_Lay_l2 c b nodes spread (ref17_Lay_l1 c b nodes spread n) t n1) i1 x1 e2 k = some R) (Of := fun k => [bx rpDLayout 36 b1 (⟨[]⟩ : DLayout), bx rpOLayout_0 36 b2 (mkOLayout_0 (⟨[]⟩ : DLayout) (oslV (i.h 0).1 (i.h 0).2 r.Parts.length)), nst (fun y : DBase => y.Tables) (rSl rpDValue) 27 54 45 (i.h 0).1 (i.h 0).2 r.Parts.length g1 x1 none]) (Gf := fun k => [(2, tD (rI .i64) nodes), (3, tD (rSl (rI .i64)) spread), (4, tPtr rpDCatalog c), (5, tPtr rpDBase b), (8, tV (bptr b1 0)), (9, tV (bptr b2 0)), (10, tD (rI .i64) t), (11, tD (rI .i64) i1), (13, tD (rI .i64) k)]) (fun k h => ?_) (fun K1 => ?_)
          · skip
            refine CG.region ?_
            refine RG.op (ok_move (ht rfl)) rfl ?_
            refine RG.op (ok_move (ht rfl)) rfl ?_
            obtain ⟨u, q_u, h⟩ := bs h
            refine RG.op (ok_rem (ht rfl) (ht rfl) (nz_some q_u)) rfl ?_
            refine RG.op (ok_move (ht rfl)) rfl ?_
            refine RG.op (ok_add (ht rfl) (ht rfl)) rfl ?_
            refine RG.op (ok_move (ht rfl)) rfl ?_
            obtain ⟨u1, q_u1, h⟩ := bs h
            refine RG.op (ok_rem (ht rfl) (ht rfl) (nz_some q_u1)) rfl ?_
            refine RG.op (ok_add (ht rfl) hI) rfl ?_
            refine RG.op (ok_assign (ht rfl)) rfl ?_
            refine RG.nil ?_
            exact AT.sub (K (IntKind.i64.wrap ((((IntKind.i64.wrap (((k).tmod nodes) + nodes))).tmod nodes) + (1 : Int))) h) ⟨rfl, rfl, rfl, rfl, rfl, rfl, rfl, rfl, rfl, trivial⟩
          · skip
            refine CG.seq ?_
            refine CG.region ?_
            refine RG.op (ok_move (ht rfl)) rfl ?_
            refine RG.op (ok_lenSl Tryz.underlying28 (ht rfl)) rfl ?_
            refine RG.op (ok_gtr (ht rfl) hI) rfl ?_
            refine RG.nil ?_
            refine AT.next ?_
            refine CG.cond (ht rfl) (fun hc => ?_) (fun hc => ?_)
            · have h := ct h hc
              refine CG.region ?_
              refine RG.op (ok_move (ht rfl)) rfl ?_
              refine RG.op (ok_move (ht rfl)) rfl ?_
              refine RG.op (ok_move (ht rfl)) rfl ?_
              refine RG.op (ok_lenSl Tryz.underlying28 (ht rfl)) rfl ?_
              obtain ⟨u2, q_u2, h⟩ := bs h
              refine RG.op (ok_rem (ht rfl) (ht rfl) (nz_some q_u2)) rfl ?_
              obtain ⟨e5, q_e5, h⟩ := bs h
              refine RG.op (ok_indexAddr Tryz.underlying28 ti3 rfl (ht rfl) (ht rfl) q_e5) rfl ?_
              refine RG.op (ok_load ti3 rfl rfl (ht rfl)) rfl ?_
              refine RG.op (ok_assign (ht rfl)) rfl ?_
              refine RG.nil ?_
              exact AT.sub (K1 e5 h) ⟨rfl, rfl, rfl, rfl, rfl, rfl, rfl, rfl, rfl, trivial⟩
            · have h := cf h hc
              refine CG.skip ?_
              exact AT.sub (K1 i1 h) ⟨rfl, rfl, rfl, rfl, rfl, rfl, rfl, rfl, rfl, trivial⟩
        · have h := cf h hc
          refine CG.skip ?_
          exact AT.sub (K r1 h) ⟨rfl, rfl, rfl, rfl, rfl, rfl, rfl, rfl, rfl, trivial⟩
    · have h := cf h hc
      refine CG.exit ?_
      refine AT.then_exit (AT.then_exit (AT.in_exit ?_))
      refine AT.in_normal ?_
      refine AT.next ?_
      refine CG.region ?_
      refine RG.op (ok_move (ht rfl)) rfl ?_
      refine RG.op (ok_add (ht rfl) hI) rfl ?_
      refine RG.op (ok_assign (ht rfl)) rfl ?_
      refine RG.nil ?_
      exact AT.round (LG.sub (ih (IntKind.i64.wrap (t + (1 : Int))) x1 g1 h) ⟨rfl, rfl, rfl, rfl, rfl, rfl, rfl, trivial⟩)
  · have h := cf h hc
    refine CG.exit ?_
    refine AT.then_exit (AT.then_exit (AT.in_exit ?_))
    refine AT.next ?_
    refine CG.seq ?_
    refine CG.region ?_
    refine RG.op (ok_loadH (r := rpOLayout_0) (y := mkOLayout_0 (⟨[]⟩ : DLayout) (oslV (i.h 0).1 (i.h 0).2 r.Parts.length)) (v := oslV (i.h 0).1 (i.h 0).2 r.Parts.length) ti36 rfl rfl (fun _ _ h => h.1) (.tail _ (.head _)) (ht rfl)) rfl ?_
    refine RG.front2 ?_
    refine RG.settleN (q := rpDBase) (rl := rpDLayout) (y := (⟨x⟩ : DLayout)) rfl (fun _ _ _ h => h) 99 rfl (fun _ h => ⟨_, rfl, h⟩) ?_
    refine RG.storeB ti36 rfl sfld_whole rfl (ht rfl) (ht rfl) ?_
    refine RG.settleB 8 rfl ?_
    refine RG.nil ?_
    refine AT.next ?_
    refine CG.ret ?_
    refine AT.drop ?_
    cases so h
    exact AT.ret1c rfl ti36 rfl rfl rfl

set_option maxRecDepth 100000 in
theorem f3_ok (c : DCatalog) (b : DBase) (s : DSpread) {R : Bool} (h : law17_PlaceLays c b s = some R) : Spec Tryz.prog 3 [tD rpDCatalog c, tD rpDBase b, tD rpDSpread s] (tD rB R) := by
  refine Spec.of Tryz.func3 rfl rfl rfl fun w0 S0 => ?_
  refine CG.seq ?_
  refine CG.region ?_
  refine RG.op (ok_box (ht rfl)) rfl ?_
  refine RG.op (ok_box (ht rfl)) rfl ?_
  refine RG.op (ok_box (ht rfl)) rfl ?_
  refine RG.op (ok_assign hB) rfl ?_
  refine RG.nil ?_
  refine AT.next ?_
  refine CG.seq ?_
  refine CG.seq ?_
  refine CG.region ?_
  obtain ⟨r, q_r, h⟩ := bs h
  refine RG.op (ok_call cb9 (f9_ok  q_r) trivial) rfl ?_
  refine RG.op (ok_not (ht rfl)) rfl ?_
  refine RG.nil ?_
  refine AT.next ?_
  refine CG.cond (ht rfl) (fun hc => ?_) (fun hc => ?_)
  · have h := ct h hc
    refine CG.seq ?_
    refine CG.region ?_
    refine RG.op (ok_assign hB) rfl ?_
    refine RG.nil ?_
    refine AT.next ?_
    refine CG.ret ?_
    refine AT.then_ret ?_
    cases so h
    exact AT.ret1 rfl rfl
  · have h := cf h hc
    refine CG.skip ?_
    refine AT.next ?_
    refine CG.seq ?_
    refine CG.seq ?_
    refine CG.region ?_
    refine RG.op (ok_load ti24 rfl rfl (ht rfl)) rfl ?_
    obtain ⟨r1, q_r1, h⟩ := bs h
    refine RG.op (ok_call cb10 (f10_ok _ q_r1) ⟨(ht rfl), trivial⟩) rfl ?_
    refine RG.op (ok_move (ht rfl)) rfl ?_
    obtain ⟨t, q_t, h⟩ := bs h
    refine RG.opGf rfl rfl rfl rfl (fun hg => ok_load ti27 rfl rfl (ht rfl)) ?_
    obtain ⟨r2, h1t, h0t⟩ := og q_t
    have q_r2g := fun hb => (h1t hb).1
    refine RG.opGf rfl rfl rfl rfl (fun hg => ok_call cb11 (f11_ok _ (q_r2g hg)) ⟨(htO rfl hg), trivial⟩) ?_
    refine RG.op (ok_pickOrM (ht rfl) (fun hb => (htO rfl (noti hb))) (fun hb => (h1t hb).2) h0t) rfl ?_
    refine RG.op (ok_move (ht rfl)) rfl ?_
    refine RG.opGf rfl rfl rfl rfl (fun hg => ok_fieldAddr fd30_1 rfl flDSpread_1 rfl (ht rfl)) ?_
    refine RG.opGf rfl rfl rfl rfl (fun hg => ok_load ti28 rfl rfl (htO rfl hg)) ?_
    refine RG.opGf rfl rfl rfl rfl (fun hg => ok_lenSl Tryz.underlying28 (htO rfl hg)) ?_
    refine RG.opGf rfl rfl rfl rfl (fun hg => ok_gtr (htO rfl hg) hI) ?_
    refine RG.op (ok_pickOr (ht rfl) (fun hb => (htO rfl (noti hb)))) rfl ?_
    refine RG.nil ?_
    refine AT.next ?_
    refine CG.cond (ht rfl) (fun hc => ?_) (fun hc => ?_)
    · have h := ct h hc
      refine CG.seq ?_
      refine CG.region ?_
      refine RG.op (ok_assign hB) rfl ?_
      refine RG.nil ?_
      refine AT.next ?_
      refine CG.ret ?_
      refine AT.then_ret ?_
      cases so h
      exact AT.ret1 rfl rfl
    · have h := cf h hc
      refine CG.skip ?_
      refine AT.next ?_
      refine CG.seq ?_
      obtain ⟨l, q_l, h⟩ := bs h
      obtain ⟨r3, q_r3, h⟩ := bs h
      refine CG.drawS 14 [tc (tD rpDCatalog c), tc (tD rpDBase b), tc (tPtr (rI .i64) s.Nodes), tc (tD (rI .i64) s.Nodes), tc (tLit (rI .i64) ([] : List Int)), tc (tPtr (rSl (rI .i64)) s.Places), tc (tD (rSl (rI .i64)) s.Places), tc (tD (rSl (rI .i64)) l), tc (tT [tD rpDLayout r3.1, tD (rI .i64) r3.2]), tc (tT [tD rpDLayout r3.1, tD (rI .i64) r3.2]), tc (tD rpDLayout r3.1), tc (tD (rI .i64) r3.2), ([12], fun s => tV (bptr ((s.getD 0 zoi).h 0).2 0)), tc (tAny)] [false, false, false, false, false, false, false, false, false, false, false, false, true, true] [fun _ => [], fun sg => [bx rpDLayout 36 ((sg 12).h 0).2 (⟨[]⟩ : DLayout)], fun sg => [bx rpDLayout 36 ((sg 12).h 0).2 r3.1]] rfl mixed rfl rfl rfl rfl rfl
        ⟨⟨[⟨3, fun _ => tPtr rpDCatalog c, none⟩], _, 0, 1, rfl, ⟨(fun _ => rfl), trivial⟩, rfl, rfl, rfl, rfl, rfl, fun _ sg _ _ => OpG.plain rfl (ok_load ti24 rfl rfl (ht rfl))⟩,
        ⟨⟨[⟨4, fun _ => tPtr rpDBase b, none⟩], _, 0, 1, rfl, ⟨(fun _ => rfl), trivial⟩, rfl, rfl, rfl, rfl, rfl, fun _ sg _ _ => OpG.plain rfl (ok_load ti27 rfl rfl (ht rfl))⟩,
        ⟨⟨[⟨5, fun _ => tPtr rpDSpread s, none⟩], _, 0, 1, rfl, ⟨(fun _ => rfl), trivial⟩, rfl, rfl, rfl, rfl, rfl, fun _ sg _ _ => OpG.plain rfl (ok_fieldAddr fd30_0 rfl flDSpread_0 rfl (ht rfl))⟩,
        ⟨⟨[⟨26, fun _ => tPtr (rI .i64) s.Nodes, some 2⟩], _, 0, 1, rfl, ⟨(fun _ => rfl), trivial⟩, rfl, rfl, rfl, rfl, rfl, fun _ sg _ _ => OpG.plain rfl (ok_load ti3 rfl rfl (ht rfl))⟩,
        ⟨⟨[], _, 0, 1, rfl, trivial, rfl, rfl, rfl, rfl, rfl, fun _ sg _ _ => OpG.plain rfl (ok_buildLit (r := (rI .i64)) (ys := ([] : List Int)) (xs := []) Tryz.underlying28 ti3 rfl rfl rfl rfl rfl trivial)⟩,
        ⟨⟨[⟨5, fun _ => tPtr rpDSpread s, none⟩], _, 0, 1, rfl, ⟨(fun _ => rfl), trivial⟩, rfl, rfl, rfl, rfl, rfl, fun _ sg _ _ => OpG.plain rfl (ok_fieldAddr fd30_1 rfl flDSpread_1 rfl (ht rfl))⟩,
        ⟨⟨[⟨29, fun _ => tPtr (rSl (rI .i64)) s.Places, some 5⟩], _, 0, 1, rfl, ⟨(fun _ => rfl), trivial⟩, rfl, rfl, rfl, rfl, rfl, fun _ sg _ _ => OpG.plain rfl (ok_load ti28 rfl rfl (ht rfl))⟩,
        ⟨⟨[⟨28, fun _ => tLit (rI .i64) ([] : List Int), some 4⟩, ⟨30, fun _ => tD (rSl (rI .i64)) s.Places, some 6⟩], _, 0, 1, rfl, ⟨(fun _ => rfl), (fun _ => rfl), trivial⟩, rfl, rfl, rfl, rfl, rfl, fun _ sg _ _ => OpG.plain rfl (ok_appendL ti3 rfl rfl rfl rfl Tryz.underlying28 Tryz.underlying28 (ht rfl) (ht rfl) q_l)⟩,
        ⟨⟨[⟨24, fun _ => tD rpDCatalog c, some 0⟩, ⟨25, fun _ => tD rpDBase b, some 1⟩, ⟨27, fun _ => tD (rI .i64) s.Nodes, some 3⟩, ⟨31, fun _ => tD (rSl (rI .i64)) l, some 7⟩], _, 0, 1, rfl, ⟨(fun _ => rfl), (fun _ => rfl), (fun _ => rfl), (fun _ => rfl), trivial⟩, rfl, rfl, rfl, rfl, rfl, fun _ sg _ _ => OpG.plain rfl (ok_call cb12 (f12_ok _ _ _ _ q_r3) ⟨(ht rfl), (ht rfl), (ht rfl), (ht rfl), trivial⟩)⟩,
        ⟨⟨[⟨32, fun _ => tT [tD rpDLayout r3.1, tD (rI .i64) r3.2], some 8⟩], _, 0, 1, rfl, ⟨(fun _ => rfl), trivial⟩, rfl, rfl, rfl, rfl, rfl, fun _ sg _ _ => OpG.plain rfl (ok_move (ht rfl))⟩,
        ⟨⟨[⟨23, fun _ => tT [tD rpDLayout r3.1, tD (rI .i64) r3.2], some 9⟩], _, 0, 1, rfl, ⟨(fun _ => rfl), trivial⟩, rfl, rfl, rfl, rfl, rfl, fun _ sg _ _ => OpG.plain rfl (ok_extract rfl (ht rfl))⟩,
        ⟨⟨[⟨23, fun _ => tT [tD rpDLayout r3.1, tD (rI .i64) r3.2], some 9⟩], _, 0, 2, rfl, ⟨(fun _ => rfl), trivial⟩, rfl, rfl, rfl, rfl, rfl, fun _ sg _ _ => OpG.plain rfl (ok_extract rfl (ht rfl))⟩,
        ⟨⟨[], _, rfl, trivial, rfl, rfl, rfl, fun sg => EffG.plain rfl (eff_alloc (r := rpDLayout) (x := (⟨[]⟩ : DLayout)) ti36 (fun _ => zrDLayout _))⟩,
        ⟨⟨[⟨7, fun sg => tV (bptr ((sg 12).h 0).2 0), some 12⟩, ⟨33, fun _ => tD rpDLayout r3.1, some 10⟩], _, rfl, ⟨(fun _ => rfl), (fun _ => rfl), trivial⟩, rfl, rfl, rfl, fun sg => EffG.plain rfl (eff_storeX ti36 rfl (sfx_of sfld_whole) rfl (ht rfl) (ht rfl))⟩,
        trivial⟩⟩⟩⟩⟩⟩⟩⟩⟩⟩⟩⟩⟩⟩ (fun sg => ?_)
      refine (show RG _ _ _ _ [bx rpDLayout 36 ((sg 12).h 0).2 r3.1] _ from ?_)
      refine RG.settleB 7 rfl ?_
      refine RG.op (ok_assign (ht rfl)) rfl ?_
      refine RG.nil ?_
      refine AT.next ?_
      refine CG.seq ?_
      refine CG.block ?_
      refine CG.seq ?_
      refine CG.region ?_
      refine RG.op (ok_load ti24 rfl rfl (ht rfl)) rfl ?_
      obtain ⟨r4, q_r4, h⟩ := bs h
      refine RG.op (ok_call cb13 (f13_ok _ q_r4) ⟨(ht rfl), trivial⟩) rfl ?_
      refine RG.op (ok_not (ht rfl)) rfl ?_
      refine RG.op (ok_assign (ht rfl)) rfl ?_
      refine RG.nil ?_
      refine AT.next ?_
      refine CG.cond (ht rfl) (fun hc => ?_) (fun hc => ?_)
      · have h := ct h hc
        refine CG.seq ?_
        refine CG.region ?_
        refine RG.op (ok_fieldAddr fd36_0 rfl flDLayout_0 rfl (ht rfl)) rfl ?_
        refine RG.op (ok_load ti34 rfl rfl (ht rfl)) rfl ?_
        refine RG.op (ok_lenSl Tryz.underlying34 (ht rfl)) rfl ?_
        refine RG.op (ok_eqlI (ht rfl) hI) rfl ?_
        refine RG.op (ok_move (ht rfl)) rfl ?_
        refine RG.opGt rfl rfl rfl rfl (fun hg => ok_move (ht rfl)) ?_
        refine RG.opGt rfl rfl rfl rfl (fun hg => ok_eqlI (htO rfl hg) hI) ?_
        refine RG.op (ok_pickAnd (ht rfl) (fun hb => (htO rfl hb))) rfl ?_
        refine RG.op (ok_assign (ht rfl)) rfl ?_
        refine RG.nil ?_
        refine AT.next ?_
        refine CG.ret ?_
        refine AT.in_ret (AT.then_ret ?_)
        cases so h
        exact AT.ret1 rfl rfl
      · have h := cf h hc
        refine CG.seq ?_
        refine CG.region ?_
        refine RG.op (ok_load ti24 rfl rfl (ht rfl)) rfl ?_
        refine RG.op (ok_load ti27 rfl rfl (ht rfl)) rfl ?_
        obtain ⟨r5, q_r5, h⟩ := bs h
        refine RG.op (ok_call cb14 (f14_ok _ _ q_r5) ⟨(ht rfl), (ht rfl), trivial⟩) rfl ?_
        refine RG.op (ok_not (ht rfl)) rfl ?_
        refine RG.op (ok_assign (ht rfl)) rfl ?_
        refine RG.nil ?_
        refine AT.next ?_
        refine CG.cond (ht rfl) (fun hc => ?_) (fun hc => ?_)
        · have h := ct h hc
          refine CG.seq ?_
          refine CG.region ?_
          refine RG.op (ok_fieldAddr fd36_0 rfl flDLayout_0 rfl (ht rfl)) rfl ?_
          refine RG.op (ok_load ti34 rfl rfl (ht rfl)) rfl ?_
          refine RG.op (ok_lenSl Tryz.underlying34 (ht rfl)) rfl ?_
          refine RG.op (ok_eqlI (ht rfl) hI) rfl ?_
          refine RG.op (ok_move (ht rfl)) rfl ?_
          refine RG.opGt rfl rfl rfl rfl (fun hg => ok_move (ht rfl)) ?_
          refine RG.opGt rfl rfl rfl rfl (fun hg => ok_eqlI (htO rfl hg) hI) ?_
          refine RG.op (ok_pickAnd (ht rfl) (fun hb => (htO rfl hb))) rfl ?_
          refine RG.op (ok_assign (ht rfl)) rfl ?_
          refine RG.nil ?_
          refine AT.next ?_
          refine CG.ret ?_
          refine AT.in_ret (AT.then_ret ?_)
          cases so h
          exact AT.ret1 rfl rfl
        · have h := cf h hc
          refine CG.seq ?_
          refine CG.region ?_
          refine RG.op (ok_fieldAddr fd30_0 rfl flDSpread_0 rfl (ht rfl)) rfl ?_
          refine RG.op (ok_load ti3 rfl rfl (ht rfl)) rfl ?_
          refine RG.op (ok_lss (ht rfl) hI) rfl ?_
          refine RG.op (ok_move (ht rfl)) rfl ?_
          refine RG.opGf rfl rfl rfl rfl (fun hg => ok_fieldAddr fd30_0 rfl flDSpread_0 rfl (ht rfl)) ?_
          refine RG.opGf rfl rfl rfl rfl (fun hg => ok_load ti3 rfl rfl (htO rfl hg)) ?_
          refine RG.opGf rfl rfl rfl rfl (fun hg => ok_gtr (htO rfl hg) hI) ?_
          refine RG.op (ok_pickOr (ht rfl) (fun hb => (htO rfl (noti hb)))) rfl ?_
          refine RG.op (ok_assign (ht rfl)) rfl ?_
          refine RG.nil ?_
          refine AT.next ?_
          refine CG.cond (ht rfl) (fun hc => ?_) (fun hc => ?_)
          · have h := ct h hc
            refine CG.seq ?_
            refine CG.region ?_
            refine RG.op (ok_fieldAddr fd36_0 rfl flDLayout_0 rfl (ht rfl)) rfl ?_
            refine RG.op (ok_load ti34 rfl rfl (ht rfl)) rfl ?_
            refine RG.op (ok_lenSl Tryz.underlying34 (ht rfl)) rfl ?_
            refine RG.op (ok_eqlI (ht rfl) hI) rfl ?_
            refine RG.op (ok_move (ht rfl)) rfl ?_
            refine RG.opGt rfl rfl rfl rfl (fun hg => ok_move (ht rfl)) ?_
            refine RG.opGt rfl rfl rfl rfl (fun hg => ok_eqlI (htO rfl hg) hI) ?_
            refine RG.op (ok_pickAnd (ht rfl) (fun hb => (htO rfl hb))) rfl ?_
            refine RG.op (ok_assign (ht rfl)) rfl ?_
            refine RG.nil ?_
            refine AT.next ?_
            refine CG.ret ?_
            refine AT.in_ret (AT.then_ret ?_)
            cases so h
            exact AT.ret1 rfl rfl
          · have h := cf h hc
            refine CG.skip ?_
            refine AT.in_normal ?_
            refine AT.next ?_
            refine CG.seq ?_
            obtain ⟨t1, q_t1, h⟩ := bs h
            obtain ⟨r6, h1t1, h0t1⟩ := og q_t1
            have q_r6g := fun hb => (h1t1 hb).1
            obtain ⟨r7, h1t1⟩ := og2 (fun hb => (h1t1 hb).2)
            have q_r7g := fun hb => (h1t1 hb).1
            refine CG.draw (ts := [tD (rI .i64) r3.2, tD rB (r3.2 == (0 : Int)), tD rB (r3.2 == (0 : Int)), tOpt (r3.2 == (0 : Int)) (tD rpDLayout r3.1), tOpt (r3.2 == (0 : Int)) (tD rpDCatalog c), tOpt (r3.2 == (0 : Int)) (tD rpDBase b), tOpt (r3.2 == (0 : Int)) (tPtr (rI .i64) s.Nodes), tOpt (r3.2 == (0 : Int)) (tD (rI .i64) s.Nodes), tOpt (r3.2 == (0 : Int)) (tPtr (rSl (rI .i64)) s.Places), tOpt (r3.2 == (0 : Int)) (tD (rSl (rI .i64)) s.Places), tOpt (r3.2 == (0 : Int)) (tD rpDLayout r6), tOpt (r3.2 == (0 : Int)) (tD rB r7), tD rB t1, tD rB t1]) mixed rfl rfl
              ⟨⟨[⟨8, _, none⟩], _, rfl, ⟨rfl, trivial⟩, rfl, rfl, OpG.plain rfl (ok_move (ht rfl))⟩,
              ⟨⟨[⟨77, _, some 0⟩], _, rfl, ⟨rfl, trivial⟩, rfl, rfl, OpG.plain rfl (ok_eqlI (ht rfl) hI)⟩,
              ⟨⟨[⟨78, _, some 1⟩], _, rfl, ⟨rfl, trivial⟩, rfl, rfl, OpG.plain rfl (ok_move (ht rfl))⟩,
              ⟨⟨[⟨7, _, none⟩, ⟨79, _, some 2⟩], _, rfl, ⟨rfl, rfl, trivial⟩, rfl, rfl, OpG.gt rfl rfl rfl rfl (fun hg => ok_load ti36 rfl rfl (ht rfl))⟩,
              ⟨⟨[⟨3, _, none⟩, ⟨79, _, some 2⟩], _, rfl, ⟨rfl, rfl, trivial⟩, rfl, rfl, OpG.gt rfl rfl rfl rfl (fun hg => ok_load ti24 rfl rfl (ht rfl))⟩,
              ⟨⟨[⟨4, _, none⟩, ⟨79, _, some 2⟩], _, rfl, ⟨rfl, rfl, trivial⟩, rfl, rfl, OpG.gt rfl rfl rfl rfl (fun hg => ok_load ti27 rfl rfl (ht rfl))⟩,
              ⟨⟨[⟨5, _, none⟩, ⟨79, _, some 2⟩], _, rfl, ⟨rfl, rfl, trivial⟩, rfl, rfl, OpG.gt rfl rfl rfl rfl (fun hg => ok_fieldAddr fd30_0 rfl flDSpread_0 rfl (ht rfl))⟩,
              ⟨⟨[⟨83, _, some 6⟩, ⟨79, _, some 2⟩], _, rfl, ⟨rfl, rfl, trivial⟩, rfl, rfl, OpG.gt rfl rfl rfl rfl (fun hg => ok_load ti3 rfl rfl (htO rfl hg))⟩,
              ⟨⟨[⟨5, _, none⟩, ⟨79, _, some 2⟩], _, rfl, ⟨rfl, rfl, trivial⟩, rfl, rfl, OpG.gt rfl rfl rfl rfl (fun hg => ok_fieldAddr fd30_1 rfl flDSpread_1 rfl (ht rfl))⟩,
              ⟨⟨[⟨85, _, some 8⟩, ⟨79, _, some 2⟩], _, rfl, ⟨rfl, rfl, trivial⟩, rfl, rfl, OpG.gt rfl rfl rfl rfl (fun hg => ok_load ti28 rfl rfl (htO rfl hg))⟩,
              ⟨⟨[⟨81, _, some 4⟩, ⟨82, _, some 5⟩, ⟨84, _, some 7⟩, ⟨86, _, some 9⟩, ⟨79, _, some 2⟩], _, rfl, ⟨rfl, rfl, rfl, rfl, rfl, trivial⟩, rfl, rfl, OpG.gt rfl rfl rfl rfl (fun hg => ok_call cb16 (f16_ok _ _ _ _ (q_r6g hg)) ⟨(htO rfl hg), (htO rfl hg), (htO rfl hg), (htO rfl hg), trivial⟩)⟩,
              ⟨⟨[⟨80, _, some 3⟩, ⟨87, _, some 10⟩, ⟨79, _, some 2⟩], _, rfl, ⟨rfl, rfl, rfl, trivial⟩, rfl, rfl, OpG.gt rfl rfl rfl rfl (fun hg => ok_call cb15 (f15_ok _ _ (q_r7g hg)) ⟨(htO rfl hg), (htO rfl hg), trivial⟩)⟩,
              ⟨⟨[⟨79, _, some 2⟩, ⟨88, _, some 11⟩], _, rfl, ⟨rfl, rfl, trivial⟩, rfl, rfl, OpG.plain rfl (ok_pickAndM (ht rfl) (fun hb => (htO rfl hb)) (fun hb => (h1t1 hb).2) h0t1)⟩,
              ⟨⟨[⟨89, _, some 12⟩], _, rfl, ⟨rfl, trivial⟩, rfl, rfl, OpG.plain rfl (ok_assign (ht rfl))⟩,
              trivial⟩⟩⟩⟩⟩⟩⟩⟩⟩⟩⟩⟩⟩⟩ ?_
            refine AT.next ?_
            refine CG.ret ?_
            cases so h
            exact AT.ret1 rfl rfl

end Go.Proofs.YtegigakgcnhiaaaGreatDoor

