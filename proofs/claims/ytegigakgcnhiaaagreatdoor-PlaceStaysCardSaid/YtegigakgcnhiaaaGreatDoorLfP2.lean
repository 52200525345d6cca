/- Facts of this claim: P2. -/
import Derived.Test.YtegigakgcnhiaaaGreatDoorLfT
import Derived.Test.YtegigakgcnhiaaaGreatDoorLfP1
import Derived.Test.YtegigakgcnhiaaaGreatDoorLfNS
namespace Go.Proofs.YtegigakgcnhiaaaGreatDoor
open Go

set_option maxRecDepth 100000 in
theorem f117_m (l : Option Nat) (c : Nat) (b : (List Int)) (n : Int) {R : (List Int)} (h : row_number b n = some R) : SpecM Tryz.prog 117 [tV (oslV l c b.length), tD (rI .u64) n] [tip (rI .u8) 5 l c b] (fun i : OI => tO (rI .u8) (i.h 0).1 (i.h 0).2 R) (fun i => [tip (rI .u8) 5 (i.h 0).1 (i.h 0).2 R]) := by
  refine SpecM.of Tryz.func117 rfl rfl rfl fun w0 S0 => ?_
  refine CG.tipAt 0 rfl ?_
  refine CG.seq ?_
  refine CG.region ?_
  refine RG.fresh false (rI .u8) 5 ?_
  refine RG.op (ok_assign hVn) rfl ?_
  refine RG.nil ?_
  refine AT.next ?_
  refine CG.seq ?_
  refine CG.seq ?_
  refine CG.region ?_
  refine RG.op (ok_assign hI) rfl ?_
  refine RG.nil ?_
  refine AT.next ?_
  refine CG.block ?_
  refine CG.loop ?_
  refine LG.drop ?_
  refine LG.sub (LG.ind4 (Z := fun n1 b1 l1 c1 i => row_number_l1 n n1 b1 i = some R) (Of := fun b1 l1 c1 i => [tip (rI .u8) 5 l1 c1 b1]) (Gf := fun b1 l1 c1 i => [(0, tO (rI .u8) l1 c1 b1), (1, tD (rI .u64) n), (5, tD (rI .i64) i)]) (fun b1 l1 c1 i h => nn h) (fun n1 ih b1 l1 c1 i h => ?_) FUEL b l c (56 : Int) h) ⟨rfl, rfl, rfl, trivial⟩
  refine LG.unfold ?_
  refine CG.seq ?_
  refine CG.seq ?_
  refine CG.region ?_
  refine RG.op (ok_move (ht rfl)) rfl ?_
  refine RG.op (ok_geq (ht rfl) hI) rfl ?_
  refine RG.nil ?_
  refine AT.next ?_
  refine CG.cond (ht rfl) (fun hc => ?_) (fun hc => ?_)
  · have h := ct h hc
    refine CG.skip ?_
    refine AT.next ?_
    refine CG.seq ?_
    refine CG.block ?_
    refine CG.region ?_
    refine RG.op (ok_move (ht rfl)) rfl ?_
    refine RG.op (ok_move (ht rfl)) rfl ?_
    refine RG.op (ok_move (ht rfl)) rfl ?_
    obtain ⟨u, q_u, h⟩ := bs h
    refine RG.op (ok_shr (ht rfl) (ht rfl) (ge0_some q_u)) rfl ?_
    refine RG.op (ok_conv Tryz.underlying87 Tryz.underlying5 (ht rfl)) rfl ?_
    refine RG.op (ok_buildSlice (r := (rI .u8)) (ys := [(IntKind.u8.wrap ((n).fdiv (2 ^ (min (Int.toNat i) IntKind.u64.bits))))]) (xs := [.tmp 14]) Tryz.underlying117 ti5 rfl rfl rfl rfl rfl ⟨(ht rfl), trivial⟩) rfl ?_
    obtain ⟨b2, q_b2, h⟩ := bs h
    refine RG.appendT ti5 rfl rfl rfl rfl Tryz.underlying117 rfl rfl (ht rfl) (ht rfl) q_b2 (fun l2 c2 => ?_)
    refine RG.op (ok_assign (ht rfl)) rfl ?_
    refine RG.nil ?_
    refine AT.in_normal ?_
    refine AT.next ?_
    refine CG.region ?_
    refine RG.op (ok_move (ht rfl)) rfl ?_
    refine RG.op (ok_sub (ht rfl) hI) rfl ?_
    refine RG.op (ok_assign (ht rfl)) rfl ?_
    refine RG.nil ?_
    exact AT.round (LG.sub (ih b2 l2 c2 (IntKind.i64.wrap (i - (8 : Int))) h) ⟨rfl, rfl, rfl, trivial⟩)
  · have h := cf h hc
    refine CG.exit ?_
    refine AT.then_exit (AT.then_exit (AT.in_exit ?_))
    refine AT.next ?_
    refine CG.seq ?_
    refine CG.region ?_
    refine RG.op (ok_move (ht rfl)) rfl ?_
    refine RG.op (ok_assign (ht rfl)) rfl ?_
    refine RG.nil ?_
    refine AT.next ?_
    refine CG.ret ?_
    cases so h
    exact AT.retM1 rfl (oi l1 c1) rfl rfl (fun _ _ h => h)

set_option maxRecDepth 100000 in
theorem f149_ok {R : (List Int)} (h : sum_steps = some R) : Spec Tryz.prog 149 [] (tD (rArr (rI .u32) 256) R) := by
  refine Spec.of Tryz.func149 rfl rfl rfl fun w0 S0 => ?_
  refine CG.seq ?_
  refine CG.region ?_
  refine RG.alloc (r := (rArr (rI .u32) 256)) (x := (List.replicate 256 (0 : Int))) ti186 (fun _ => arr_zero (r := (rI .u32)) 256 (fun _ => rfl) _) rfl (fun b => ?_)
  refine RG.nil ?_
  refine AT.next ?_
  refine CG.seq ?_
  refine CG.region ?_
  obtain ⟨e, q_e, h⟩ := bs h
  refine RG.op (ok_indexAddrX Tryz.underlying186 ti91 (.head _) (ht rfl) hI q_e) rfl ?_
  obtain ⟨ar, q_ar, h⟩ := bs h
  refine RG.storeX ti91 rfl q_e (so q_ar) (ht rfl) hI ?_
  refine RG.nil ?_
  refine AT.next ?_
  refine CG.seq ?_
  refine CG.seq ?_
  refine CG.region ?_
  refine RG.op (ok_assign hI) rfl ?_
  refine RG.nil ?_
  refine AT.next ?_
  refine CG.block ?_
  refine CG.loop ?_
  refine LG.sub (LG.ind2 (Z := fun n1 n out => sum_steps_l1 n1 n out = some R) (Of := fun n out => [bx (rArr (rI .u32) 256) 186 b out]) (Gf := fun n out => [(0, tV (bptr b 0)), (1, tD (rI .i64) n)]) (fun n out h => nn h) (fun n1 ih n out h => ?_) FUEL (64 : Int) ar h) ⟨rfl, rfl, trivial⟩
  refine LG.unfold ?_
  refine CG.seq ?_
  refine CG.seq ?_
  refine CG.region ?_
  refine RG.op (ok_move (ht rfl)) rfl ?_
  refine RG.op (ok_gtr (ht rfl) hI) rfl ?_
  refine RG.nil ?_
  refine AT.next ?_
  refine CG.cond (ht rfl) (fun hc => ?_) (fun hc => ?_)
  · have h := ct h hc
    refine CG.skip ?_
    refine AT.next ?_
    refine CG.seq ?_
    refine CG.block ?_
    refine CG.seq ?_
    refine CG.region ?_
    refine RG.op (ok_move (ht rfl)) rfl ?_
    refine RG.op (ok_mul hI (ht rfl)) rfl ?_
    obtain ⟨e1, q_e1, h⟩ := bs h
    refine RG.op (ok_indexAddrX Tryz.underlying186 ti91 (.head _) (ht rfl) (ht rfl) q_e1) rfl ?_
    refine RG.op (ok_loadX ti91 rfl rfl (.head _) q_e1 (ht rfl)) rfl ?_
    refine RG.op (ok_assign (ht rfl)) rfl ?_
    refine RG.nil ?_
    refine AT.next ?_
    refine CG.seq ?_
    refine CG.region ?_
    refine RG.op (ok_move (ht rfl)) rfl ?_
    refine RG.op (ok_move (ht rfl)) rfl ?_
    refine RG.op (ok_shr (ht rfl) hI (by decide)) rfl ?_
    obtain ⟨e2, q_e2, h⟩ := bs h
    refine RG.op (ok_indexAddrX Tryz.underlying186 ti91 (.head _) (ht rfl) (ht rfl) q_e2) rfl ?_
    obtain ⟨ar1, q_ar1, h⟩ := bs h
    refine RG.storeX ti91 rfl q_e2 (so q_ar1) (ht rfl) (ht rfl) ?_
    refine RG.nil ?_
    refine AT.next ?_
    refine CG.seq ?_
    refine CG.region ?_
    refine RG.op (ok_move (ht rfl)) rfl ?_
    refine RG.op (ok_and (ht rfl) hI) rfl ?_
    refine RG.op (ok_eqlI (ht rfl) hI) rfl ?_
    refine RG.nil ?_
    refine AT.next ?_
    refine CG.cond (ht rfl) (fun hc => ?_) (fun hc => ?_)
    · have h := ct h hc
      refine CG.region ?_
      refine RG.op (ok_move (ht rfl)) rfl ?_
      obtain ⟨e3, q_e3, h⟩ := bs h
      refine RG.op (ok_indexAddrX Tryz.underlying186 ti91 (.head _) (ht rfl) (ht rfl) q_e3) rfl ?_
      refine RG.op (ok_loadX ti91 rfl rfl (.head _) q_e3 (ht rfl)) rfl ?_
      refine RG.op (ok_xor (ht rfl) hI) rfl ?_
      refine RG.op (ok_indexAddrX Tryz.underlying186 ti91 (.head _) (ht rfl) (ht rfl) q_e3) rfl ?_
      obtain ⟨ar2, q_ar2, h⟩ := bs h
      refine RG.storeX ti91 rfl q_e3 (so q_ar2) (ht rfl) (ht rfl) ?_
      refine RG.nil ?_
      refine AT.in_normal ?_
      refine AT.next ?_
      refine CG.region ?_
      refine RG.op (ok_move (ht rfl)) rfl ?_
      refine RG.op (ok_quo (ht rfl) hI (by decide)) rfl ?_
      refine RG.op (ok_assign (ht rfl)) rfl ?_
      refine RG.nil ?_
      exact AT.round (LG.sub (ih (IntKind.i64.wrap ((n).tdiv (2 : Int))) ar2 h) ⟨rfl, rfl, trivial⟩)
    · have h := cf h hc
      refine CG.skip ?_
      refine AT.in_normal ?_
      refine AT.next ?_
      refine CG.region ?_
      refine RG.op (ok_move (ht rfl)) rfl ?_
      refine RG.op (ok_quo (ht rfl) hI (by decide)) rfl ?_
      refine RG.op (ok_assign (ht rfl)) rfl ?_
      refine RG.nil ?_
      exact AT.round (LG.sub (ih (IntKind.i64.wrap ((n).tdiv (2 : Int))) ar1 h) ⟨rfl, rfl, trivial⟩)
  · have h := cf h hc
    refine CG.exit ?_
    refine AT.then_exit (AT.then_exit (AT.in_exit ?_))
    refine AT.next ?_
    refine CG.seq ?_
    refine CG.seq ?_
    refine CG.region ?_
    refine RG.op (ok_assign hI) rfl ?_
    refine RG.nil ?_
    refine AT.next ?_
    refine CG.block ?_
    refine CG.loop ?_
    refine LG.sub (LG.ind2 (Z := fun n3 n2 out1 => sum_steps_l2 n3 n2 out1 = some R) (Of := fun n2 out1 => [bx (rArr (rI .u32) 256) 186 b out1]) (Gf := fun n2 out1 => [(0, tV (bptr b 0)), (3, tD (rI .i64) n2)]) (fun n2 out1 h => nn h) (fun n3 ih1 n2 out1 h => ?_) FUEL (2 : Int) out h) ⟨rfl, rfl, trivial⟩
    refine LG.unfold ?_
    refine CG.seq ?_
    refine CG.seq ?_
    refine CG.region ?_
    refine RG.op (ok_move (ht rfl)) rfl ?_
    refine RG.op (ok_lss (ht rfl) hI) rfl ?_
    refine RG.nil ?_
    refine AT.next ?_
    refine CG.cond (ht rfl) (fun hc => ?_) (fun hc => ?_)
    · have h := ct h hc
      refine CG.skip ?_
      refine AT.next ?_
      refine CG.seq ?_
      refine CG.block ?_
      refine CG.seq ?_
      refine CG.region ?_
      refine RG.op (ok_move (ht rfl)) rfl ?_
      refine RG.op (ok_move hI) rfl ?_
      refine RG.nil ?_
      refine AT.next ?_
      refine CG.block ?_
      refine CG.loop ?_
      refine LG.sub (LG.ind2 (Z := fun n4 x out2 => sum_steps_l3 (sum_steps_l2 n3) n2 n4 x out2 = some R) (Of := fun x out2 => [bx (rArr (rI .u32) 256) 186 b out2]) (Gf := fun x out2 => [(0, tV (bptr b 0)), (3, tD (rI .i64) n2), (30, tD (rI .i64) n2), (31, tD (rI .i64) x)]) (fun x out2 h => nn h) (fun n4 ih2 x out2 h => ?_) FUEL (0 : Int) out1 h) ⟨rfl, rfl, rfl, rfl, trivial⟩
      refine LG.unfold ?_
      refine CG.seq ?_
      refine CG.region ?_
      refine RG.op (ok_lss (ht rfl) (ht rfl)) rfl ?_
      refine RG.nil ?_
      refine AT.next ?_
      refine CG.seq ?_
      refine CG.cond (ht rfl) (fun hc => ?_) (fun hc => ?_)
      · have h := ct h hc
        refine CG.skip ?_
        refine AT.next ?_
        refine CG.seq ?_
        refine CG.block ?_
        refine CG.seq ?_
        refine CG.region ?_
        refine RG.op (ok_move (ht rfl)) rfl ?_
        refine RG.op (ok_assign (ht rfl)) rfl ?_
        refine RG.nil ?_
        refine AT.next ?_
        obtain ⟨e4, q_e4, h⟩ := bs h
        obtain ⟨e5, q_e5, h⟩ := bs h
        obtain ⟨e6, q_e6, h⟩ := bs h
        refine CG.drawM 11 (ts := [tD (rI .i64) n2, tD (rI .i64) x, tD (rI .i64) (IntKind.i64.wrap (n2 + x)), tD (rI .i64) n2, tV (bptr b (n2.toNat * 1)), tD (rI .u32) e4, tD (rI .i64) x, tV (bptr b (x.toNat * 1)), tD (rI .u32) e5, tD (rI .u32) (bitsOp .xor .u32 e4 e5), tV (bptr b ((IntKind.i64.wrap (n2 + x)).toNat * 1))]) mixed rfl rfl rfl
          ⟨⟨[⟨3, _, none⟩], _, rfl, ⟨rfl, trivial⟩, rfl, rfl, OpG.plain rfl (ok_move (ht rfl))⟩,
          ⟨⟨[⟨4, _, none⟩], _, rfl, ⟨rfl, trivial⟩, rfl, rfl, OpG.plain rfl (ok_move (ht rfl))⟩,
          ⟨⟨[⟨34, _, some 0⟩, ⟨35, _, some 1⟩], _, rfl, ⟨rfl, rfl, trivial⟩, rfl, rfl, OpG.plain rfl (ok_add (ht rfl) (ht rfl))⟩,
          ⟨⟨[⟨3, _, none⟩], _, rfl, ⟨rfl, trivial⟩, rfl, rfl, OpG.plain rfl (ok_move (ht rfl))⟩,
          ⟨⟨[⟨0, _, none⟩, ⟨37, _, some 3⟩], _, rfl, ⟨rfl, rfl, trivial⟩, rfl, rfl, OpG.plain rfl (ok_indexAddrX Tryz.underlying186 ti91 (.head _) (ht rfl) (ht rfl) q_e4)⟩,
          ⟨⟨[⟨38, _, some 4⟩], _, rfl, ⟨rfl, trivial⟩, rfl, rfl, OpG.plain rfl (ok_loadX ti91 rfl rfl (.head _) q_e4 (ht rfl))⟩,
          ⟨⟨[⟨4, _, none⟩], _, rfl, ⟨rfl, trivial⟩, rfl, rfl, OpG.plain rfl (ok_move (ht rfl))⟩,
          ⟨⟨[⟨0, _, none⟩, ⟨40, _, some 6⟩], _, rfl, ⟨rfl, rfl, trivial⟩, rfl, rfl, OpG.plain rfl (ok_indexAddrX Tryz.underlying186 ti91 (.head _) (ht rfl) (ht rfl) q_e5)⟩,
          ⟨⟨[⟨41, _, some 7⟩], _, rfl, ⟨rfl, trivial⟩, rfl, rfl, OpG.plain rfl (ok_loadX ti91 rfl rfl (.head _) q_e5 (ht rfl))⟩,
          ⟨⟨[⟨39, _, some 5⟩, ⟨42, _, some 8⟩], _, rfl, ⟨rfl, rfl, trivial⟩, rfl, rfl, OpG.plain rfl (ok_xor (ht rfl) (ht rfl))⟩,
          ⟨⟨[⟨0, _, none⟩, ⟨36, _, some 2⟩], _, rfl, ⟨rfl, rfl, trivial⟩, rfl, rfl, OpG.plain rfl (ok_indexAddrX Tryz.underlying186 ti91 (.head _) (ht rfl) (ht rfl) q_e6)⟩,
          trivial⟩⟩⟩⟩⟩⟩⟩⟩⟩⟩⟩ ?_
        obtain ⟨ar3, q_ar3, h⟩ := bs h
        refine RG.storeX ti91 rfl q_e6 (so q_ar3) (ht rfl) (ht rfl) ?_
        refine RG.nil ?_
        refine AT.in_normal ?_
        refine AT.next ?_
        refine CG.region ?_
        refine RG.op (ok_add (ht rfl) hI) rfl ?_
        refine RG.op (ok_move (ht rfl)) rfl ?_
        refine RG.nil ?_
        exact AT.round (LG.sub (ih2 (IntKind.i64.wrap (x + (1 : Int))) ar3 h) ⟨rfl, rfl, rfl, rfl, trivial⟩)
      · have h := cf h hc
        refine CG.exit ?_
        refine AT.then_exit (AT.then_exit (AT.in_exit ?_))
        refine AT.in_normal ?_
        refine AT.next ?_
        refine CG.region ?_
        refine RG.op (ok_move (ht rfl)) rfl ?_
        refine RG.op (ok_mul (ht rfl) hI) rfl ?_
        refine RG.op (ok_assign (ht rfl)) rfl ?_
        refine RG.nil ?_
        exact AT.round (LG.sub (ih1 (IntKind.i64.wrap (n2 * (2 : Int))) out2 h) ⟨rfl, rfl, trivial⟩)
    · have h := cf h hc
      refine CG.exit ?_
      refine AT.then_exit (AT.then_exit (AT.in_exit ?_))
      refine AT.next ?_
      refine CG.seq ?_
      refine CG.region ?_
      refine RG.op (ok_loadB ti186 rfl rfl fld_whole (.head _) (ht rfl)) rfl ?_
      refine RG.storeB ti186 rfl sfld_whole rfl (ht rfl) (ht rfl) ?_
      refine RG.nil ?_
      refine AT.next ?_
      refine CG.ret ?_
      refine AT.settleB 0 rfl ?_
      cases so h
      exact AT.ret1c rfl ti186 rfl rfl rfl

set_option maxRecDepth 100000 in
theorem f150_c (b : Nat) (register : Int) (table : (List Int)) (c : Int) {R : Int} (h : sum_Sum32_1 register table c = some R) : SpecM Tryz.prog 150 [tD (rI .u8) c, tV (bptr b 0), tPtr (rArr (rI .u32) 256) table] [bx (rI .u32) 91 b register] (fun i : OI => tT []) (fun i => [bx (rI .u32) 91 b R]) := by
  refine SpecM.of Tryz.func150 rfl rfl rfl fun w0 S0 => ?_
  obtain ⟨e, q_e, h⟩ := bs h
  refine CG.drawM 9 (ts := [tD (rI .u32) register, tD (rI .u32) ((register).fdiv (2 ^ (min (Int.toNat (8 : Int)) IntKind.u32.bits))), tD (rI .u32) register, tD (rI .u8) (IntKind.u8.wrap register), tD (rI .u8) c, tD (rI .u8) (bitsOp .xor .u8 (IntKind.u8.wrap register) c), tPtr (rI .u32) e, tD (rI .u32) e, tD (rI .u32) (bitsOp .xor .u32 ((register).fdiv (2 ^ (min (Int.toNat (8 : Int)) IntKind.u32.bits))) e)]) mixed rfl rfl rfl
    ⟨⟨[⟨1, _, none⟩], _, rfl, ⟨rfl, trivial⟩, rfl, rfl, OpG.plain rfl (ok_loadB ti91 rfl rfl fld_whole (.head _) (ht rfl))⟩,
    ⟨⟨[⟨4, _, some 0⟩], _, rfl, ⟨rfl, trivial⟩, rfl, rfl, OpG.plain rfl (ok_shr (ht rfl) hI (by decide))⟩,
    ⟨⟨[⟨1, _, none⟩], _, rfl, ⟨rfl, trivial⟩, rfl, rfl, OpG.plain rfl (ok_loadB ti91 rfl rfl fld_whole (.head _) (ht rfl))⟩,
    ⟨⟨[⟨6, _, some 2⟩], _, rfl, ⟨rfl, trivial⟩, rfl, rfl, OpG.plain rfl (ok_conv Tryz.underlying91 Tryz.underlying5 (ht rfl))⟩,
    ⟨⟨[⟨0, _, none⟩], _, rfl, ⟨rfl, trivial⟩, rfl, rfl, OpG.plain rfl (ok_move (ht rfl))⟩,
    ⟨⟨[⟨7, _, some 3⟩, ⟨8, _, some 4⟩], _, rfl, ⟨rfl, rfl, trivial⟩, rfl, rfl, OpG.plain rfl (ok_xor (ht rfl) (ht rfl))⟩,
    ⟨⟨[⟨2, _, none⟩, ⟨9, _, some 5⟩], _, rfl, ⟨rfl, rfl, trivial⟩, rfl, rfl, OpG.plain rfl (ok_indexAddrP Tryz.underlying186 ti91 rfl (ht rfl) (ht rfl) q_e)⟩,
    ⟨⟨[⟨10, _, some 6⟩], _, rfl, ⟨rfl, trivial⟩, rfl, rfl, OpG.plain rfl (ok_load ti91 rfl rfl (ht rfl))⟩,
    ⟨⟨[⟨5, _, some 1⟩, ⟨11, _, some 7⟩], _, rfl, ⟨rfl, rfl, trivial⟩, rfl, rfl, OpG.plain rfl (ok_xor (ht rfl) (ht rfl))⟩,
    trivial⟩⟩⟩⟩⟩⟩⟩⟩⟩ ?_
  refine RG.storeB ti91 rfl sfld_whole rfl (ht rfl) (ht rfl) ?_
  refine RG.nil ?_
  cases so h
  exact AT.normM0 rfl (oi none 0) rfl rfl

set_option maxRecDepth 100000 in
theorem f118_ok (b : (List Int)) {R : Int} (h : sum_Sum32 b = some R) : Spec Tryz.prog 118 [tD (rSl (rI .u8)) b] (tD (rI .u32) R) := by
  refine Spec.of Tryz.func118 rfl rfl rfl fun w0 S0 => ?_
  refine CG.seq ?_
  refine CG.region ?_
  refine RG.op (ok_assign hI) rfl ?_
  refine RG.nil ?_
  refine AT.next ?_
  refine CG.seq ?_
  refine CG.region ?_
  obtain ⟨r, q_r, h⟩ := bs h
  refine RG.op (ok_call cb149 (f149_ok  q_r) trivial) rfl ?_
  refine RG.alloc (r := (rArr (rI .u32) 256)) (x := (List.replicate 256 (0 : Int))) ti186 (fun _ => arr_zero (r := (rI .u32)) 256 (fun _ => rfl) _) rfl (fun b1 => ?_)
  refine RG.storeB ti186 rfl sfld_whole rfl (ht rfl) (ht rfl) ?_
  refine RG.settleB 3 rfl ?_
  refine RG.nil ?_
  refine AT.next ?_
  refine CG.seq ?_
  refine CG.region ?_
  refine RG.alloc (r := (rI .u32)) (x := (0 : Int)) ti91 (fun _ => rfl) rfl (fun b2 => ?_)
  refine RG.storeB ti91 rfl sfld_whole rfl (ht rfl) hI ?_
  refine RG.nil ?_
  refine AT.next ?_
  refine CG.seq ?_
  refine CG.region ?_
  refine RG.op (ok_makeC (cts := [tV (bptr b2 0), tPtr (rArr (rI .u32) 256) r]) (caps := [.tmp 4, .tmp 3]) ⟨(ht rfl), (ht rfl), trivial⟩) rfl ?_
  refine RG.op (ok_assign (ht rfl)) rfl ?_
  refine RG.nil ?_
  refine AT.next ?_
  refine CG.seq ?_
  refine CG.seq ?_
  refine CG.region ?_
  refine RG.op (ok_move (ht rfl)) rfl ?_
  refine RG.op (ok_lenSl Tryz.underlying117 (ht rfl)) rfl ?_
  refine RG.op (ok_move hI) rfl ?_
  refine RG.nil ?_
  refine AT.next ?_
  refine CG.block ?_
  refine CG.have_len (k := 10) rfl (fun hN => ?_)
  refine CG.loop ?_
  refine LG.sub (LG.list2 (Z := fun ls i register => (b.drop i = ls) ∧ sum_Sum32_l1 r ls register = some R) (Of := fun _ i register => [bx (rI .u32) 91 b2 register]) (Gf := fun _ i register => [(4, tV (bptr b2 0)), (5, tC 150 [tV (bptr b2 0), tPtr (rArr (rI .u32) 256) r]), (10, tD (rSl (rI .u8)) b), (11, tD (rI .i64) (b.length : Int)), (12, tD (rI .i64) (i : Int))]) (fun i register h => ?_) (fun e tl ih i register h => ?_) b 0 (4294967295 : Int) ⟨rfl, h⟩) ⟨rfl, rfl, rfl, rfl, rfl, trivial⟩
  · obtain ⟨hx, h⟩ := h
    refine LG.unfold ?_
    refine CG.seq ?_
    refine CG.region ?_
    refine RG.op (ok_lss (ht rfl) (ht rfl)) rfl ?_
    refine RG.nil ?_
    refine AT.next ?_
    refine CG.seq ?_
    refine CG.condF (ht rfl) (dropF hx) ?_
    refine CG.exit ?_
    refine AT.then_exit (AT.then_exit (AT.in_exit ?_))
    refine AT.next ?_
    refine CG.seq ?_
    refine CG.region ?_
    refine RG.op (ok_loadB ti91 rfl rfl fld_whole (.head _) (ht rfl)) rfl ?_
    refine RG.op (ok_cpl (ht rfl)) rfl ?_
    refine RG.op (ok_assign (ht rfl)) rfl ?_
    refine RG.nil ?_
    refine AT.next ?_
    refine CG.ret ?_
    refine AT.drop ?_
    cases so h
    exact AT.ret1 rfl rfl
  · obtain ⟨hx, h⟩ := h
    refine LG.unfold ?_
    refine CG.seq ?_
    refine CG.region ?_
    refine RG.op (ok_lss (ht rfl) (ht rfl)) rfl ?_
    refine RG.nil ?_
    refine AT.next ?_
    refine CG.seq ?_
    refine CG.condT (ht rfl) (dropT hx) ?_
    refine CG.skip ?_
    refine AT.next ?_
    refine CG.seq ?_
    refine CG.block ?_
    refine CG.seq ?_
    refine CG.region ?_
    refine RG.op (ok_indexAddr Tryz.underlying117 ti5 rfl (ht rfl) (ht rfl) (dropI hx)) rfl ?_
    refine RG.op (ok_load ti5 rfl rfl (ht rfl)) rfl ?_
    refine RG.op (ok_assign (ht rfl)) rfl ?_
    refine RG.nil ?_
    refine AT.next ?_
    refine CG.region ?_
    refine RG.op (ok_move (ht rfl)) rfl ?_
    refine RG.op (ok_move (ht rfl)) rfl ?_
    obtain ⟨r1, q_r1, h⟩ := bs h
    refine RG.eff (eff_callC (xs := [.tmp 17]) (ts := [tD (rI .u8) e]) (cts := [tV (bptr b2 0), tPtr (rArr (rI .u32) 256) r]) (post := fun i => [bx (rI .u32) 91 b2 r1]) [bx (rI .u32) 91 b2 register] [] rfl cb150 (f150_c b2 _ _ _ q_r1) (ht rfl) ⟨(ht rfl), trivial⟩ (fun _ => rfl)) rfl (fun i1 => ?_)
    refine (show RG _ _ _ _ [bx (rI .u32) 91 b2 r1] _ from ?_)
    refine RG.nil ?_
    refine AT.in_normal ?_
    refine AT.next ?_
    refine CG.region ?_
    refine RG.op (ok_incN (dropL hx hN) (ht rfl) hI) rfl ?_
    refine RG.op (ok_move (ht rfl)) rfl ?_
    refine RG.nil ?_
    exact AT.round (LG.sub (ih (i + 1) r1 ⟨dropS hx, h⟩) ⟨rfl, rfl, rfl, rfl, rfl, trivial⟩)

set_option maxRecDepth 100000 in
theorem f96_ok (r : (List DValue)) {R : Int} (h : row_hash r = some R) : Spec Tryz.prog 96 [tD (rSl rpDValue) r] (tD (rI .u32) R) := by
  refine Spec.of Tryz.func96 rfl rfl rfl fun w0 S0 => ?_
  refine CG.seq ?_
  refine CG.region ?_
  refine RG.op (ok_assign hI) rfl ?_
  refine RG.nil ?_
  refine AT.next ?_
  refine CG.seq ?_
  refine CG.region ?_
  refine RG.fresh false (rI .u8) 5 ?_
  refine RG.op (ok_assign hVn) rfl ?_
  refine RG.nil ?_
  refine AT.next ?_
  refine CG.seq ?_
  refine CG.seq ?_
  refine CG.region ?_
  refine RG.op (ok_move (ht rfl)) rfl ?_
  refine RG.op (ok_lenSl Tryz.underlying45 (ht rfl)) rfl ?_
  refine RG.op (ok_move hI) rfl ?_
  refine RG.nil ?_
  refine AT.next ?_
  refine CG.block ?_
  refine CG.have_len (k := 6) rfl (fun hN => ?_)
  refine CG.loop ?_
  refine LG.freeze ?_
  refine LG.tipAt 3 rfl ?_
  refine LG.sub (LG.list4 (Z := fun ls i b l c => (r.drop i = ls) ∧ row_hash_l1 ls b = some R) (Of := fun _ i b l c => [tip (rI .u8) 5 l c b]) (Gf := fun _ i b l c => [(3, tO (rI .u8) l c b), (6, tD (rSl rpDValue) r), (7, tD (rI .i64) (r.length : Int)), (8, tD (rI .i64) (i : Int))]) (fun i b l c h => ?_) (fun e tl ih i b l c h => ?_) r 0 ([] : List Int) none 0 ⟨rfl, h⟩) ⟨rfl, rfl, rfl, rfl, trivial⟩
  · obtain ⟨hx, h⟩ := h
    refine LG.unfold ?_
    refine CG.seq ?_
    refine CG.region ?_
    refine RG.op (ok_lss (ht rfl) (ht rfl)) rfl ?_
    refine RG.nil ?_
    refine AT.next ?_
    refine CG.seq ?_
    refine CG.condF (ht rfl) (dropF hx) ?_
    refine CG.exit ?_
    refine AT.then_exit (AT.then_exit (AT.in_exit ?_))
    refine AT.next ?_
    refine CG.seq ?_
    refine CG.region ?_
    refine RG.op (ok_move (ht rfl)) rfl ?_
    obtain ⟨r1, q_r1, h⟩ := bs h
    refine RG.op (ok_call cb118 (f118_ok _ q_r1) ⟨(tO_d (ht rfl)), trivial⟩) rfl ?_
    refine RG.op (ok_assign (ht rfl)) rfl ?_
    refine RG.nil ?_
    refine AT.next ?_
    refine CG.ret ?_
    refine AT.drop ?_
    cases so h
    exact AT.ret1 rfl rfl
  · obtain ⟨hx, h⟩ := h
    refine LG.unfold ?_
    refine CG.seq ?_
    refine CG.region ?_
    refine RG.op (ok_lss (ht rfl) (ht rfl)) rfl ?_
    refine RG.nil ?_
    refine AT.next ?_
    refine CG.seq ?_
    refine CG.condT (ht rfl) (dropT hx) ?_
    refine CG.skip ?_
    refine AT.next ?_
    refine CG.seq ?_
    refine CG.block ?_
    refine CG.seq ?_
    refine CG.region ?_
    refine RG.op (ok_indexAddr Tryz.underlying45 ti89 rfl (ht rfl) (ht rfl) (dropI hx)) rfl ?_
    refine RG.op (ok_load ti89 rfl rfl (ht rfl)) rfl ?_
    refine RG.alloc (r := rpDValue) (x := (⟨(0 : Int), (0 : Int), (0 : Int), []⟩ : DValue)) ti89 (fun _ => zrDValue _) rfl (fun b1 => ?_)
    refine RG.storeB ti89 rfl sfld_whole rfl (ht rfl) (ht rfl) ?_
    refine RG.settleB 5 rfl ?_
    refine RG.nil ?_
    refine AT.next ?_
    refine CG.seq ?_
    refine CG.region ?_
    refine RG.op (ok_move (ht rfl)) rfl ?_
    refine RG.op (ok_fieldAddr fd89_0 rfl flDValue_0 rfl (ht rfl)) rfl ?_
    refine RG.op (ok_load ti3 rfl rfl (ht rfl)) rfl ?_
    refine RG.op (ok_conv Tryz.underlying3 Tryz.underlying5 (ht rfl)) rfl ?_
    refine RG.op (ok_buildSlice (r := (rI .u8)) (ys := [(IntKind.u8.wrap e.Kind)]) (xs := [.tmp 15]) Tryz.underlying117 ti5 rfl rfl rfl rfl rfl ⟨(ht rfl), trivial⟩) rfl ?_
    obtain ⟨b2, q_b2, h⟩ := bs h
    refine RG.appendT ti5 rfl rfl rfl rfl Tryz.underlying117 rfl rfl (ht rfl) (ht rfl) q_b2 (fun l1 c1 => ?_)
    refine RG.op (ok_assign (ht rfl)) rfl ?_
    refine RG.nil ?_
    refine AT.next ?_
    refine CG.seq ?_
    obtain ⟨r2, q_r2, h⟩ := bs h
    refine CG.drawS 7 [tc (tO (rI .u8) l1 c1 b2), tc (tPtr (rI .i64) e.N), tc (tD (rI .i64) e.N), tc (tD (rI .u64) (IntKind.u64.wrap e.N)), ([4], fun s => tO (rI .u8) ((s.getD 0 zoi).h 0).1 ((s.getD 0 zoi).h 0).2 r2), tc (tPtr (rI .u64) e.U), tc (tD (rI .u64) e.U)] [false, false, false, false, true, false, false] [fun _ => [tip (rI .u8) 5 l1 c1 b2], fun sg => [tip (rI .u8) 5 ((sg 4).h 0).1 ((sg 4).h 0).2 r2]] rfl mixed rfl rfl rfl rfl rfl
      ⟨⟨[⟨3, fun _ => tO (rI .u8) l1 c1 b2, none⟩], _, 0, 0, rfl, ⟨(fun _ => rfl), trivial⟩, rfl, rfl, rfl, rfl, rfl, fun _ sg _ _ => OpG.plain rfl (ok_move (ht rfl))⟩,
      ⟨⟨[⟨5, fun _ => tPtr rpDValue e, none⟩], _, 0, 0, rfl, ⟨(fun _ => rfl), trivial⟩, rfl, rfl, rfl, rfl, rfl, fun _ sg _ _ => OpG.plain rfl (ok_fieldAddr fd89_1 rfl flDValue_1 rfl (ht rfl))⟩,
      ⟨⟨[⟨19, fun _ => tPtr (rI .i64) e.N, some 1⟩], _, 0, 0, rfl, ⟨(fun _ => rfl), trivial⟩, rfl, rfl, rfl, rfl, rfl, fun _ sg _ _ => OpG.plain rfl (ok_load ti2 rfl rfl (ht rfl))⟩,
      ⟨⟨[⟨20, fun _ => tD (rI .i64) e.N, some 2⟩], _, 0, 0, rfl, ⟨(fun _ => rfl), trivial⟩, rfl, rfl, rfl, rfl, rfl, fun _ sg _ _ => OpG.plain rfl (ok_conv Tryz.underlying2 Tryz.underlying87 (ht rfl))⟩,
      ⟨⟨[⟨18, fun _ => tO (rI .u8) l1 c1 b2, some 0⟩, ⟨21, fun _ => tD (rI .u64) (IntKind.u64.wrap e.N), some 3⟩], _, rfl, ⟨(fun _ => rfl), (fun _ => rfl), trivial⟩, rfl, rfl, rfl, fun sg => EffG.plain rfl (eff_callM (xs := [.tmp 18, .tmp 21]) (ts := [tV (oslV l1 c1 b2.length), tD (rI .u64) (IntKind.u64.wrap e.N)]) [_] _ rfl cb117 (f117_m _ _ _ _ q_r2) ⟨(tO_v (ht rfl)), (ht rfl), trivial⟩ (fun _ => rfl))⟩,
      ⟨⟨[⟨5, fun _ => tPtr rpDValue e, none⟩], _, 0, 1, rfl, ⟨(fun _ => rfl), trivial⟩, rfl, rfl, rfl, rfl, rfl, fun _ sg _ _ => OpG.plain rfl (ok_fieldAddr fd89_2 rfl flDValue_2 rfl (ht rfl))⟩,
      ⟨⟨[⟨23, fun _ => tPtr (rI .u64) e.U, some 5⟩], _, 0, 1, rfl, ⟨(fun _ => rfl), trivial⟩, rfl, rfl, rfl, rfl, rfl, fun _ sg _ _ => OpG.plain rfl (ok_load ti87 rfl rfl (ht rfl))⟩,
      trivial⟩⟩⟩⟩⟩⟩⟩ (fun sg => ?_)
    refine (show RG _ _ _ _ [tip (rI .u8) 5 ((sg 4).h 0).1 ((sg 4).h 0).2 r2] _ from ?_)
    obtain ⟨r3, q_r3, h⟩ := bs h
    refine RG.callM [tip (rI .u8) 5 ((sg 4).h 0).1 ((sg 4).h 0).2 r2] _ rfl cb117 (f117_m (((sg 4).h 0).1) (((sg 4).h 0).2) _ _ q_r3) ⟨(tO_v (ht rfl)), (ht rfl), trivial⟩ rfl (fun i1 => ?_)
    refine (show RG _ _ _ _ [tip (rI .u8) 5 (i1.h 0).1 (i1.h 0).2 r3] ((25, tO (rI .u8) (i1.h 0).1 (i1.h 0).2 r3) :: _) from ?_)
    refine RG.op (ok_assign (ht rfl)) rfl ?_
    refine RG.nil ?_
    refine AT.next ?_
    obtain ⟨l3, q_l3, h⟩ := bs h
    refine CG.drawS 9 [tc (tO (rI .u8) (i1.h 0).1 (i1.h 0).2 r3), tc (tPtr rS e.S), tc (tD rS e.S), tc (tD (rI .i64) (e.S.length : Int)), tc (tD (rI .u8) (IntKind.u8.wrap (e.S.length : Int))), tc (tD (rSl (rI .u8)) ([(IntKind.u8.wrap (e.S.length : Int))])), ([6], fun s => tO (rI .u8) ((s.getD 0 zoi).h 0).1 ((s.getD 0 zoi).h 0).2 l3), tc (tPtr rS e.S), tc (tD rS e.S)] [false, false, false, false, false, false, true, false, false] [fun _ => [tip (rI .u8) 5 (i1.h 0).1 (i1.h 0).2 r3], fun sg1 => [tip (rI .u8) 5 ((sg1 6).h 0).1 ((sg1 6).h 0).2 l3]] rfl mixed rfl rfl rfl rfl rfl
      ⟨⟨[⟨3, fun _ => tO (rI .u8) (i1.h 0).1 (i1.h 0).2 r3, none⟩], _, 0, 0, rfl, ⟨(fun _ => rfl), trivial⟩, rfl, rfl, rfl, rfl, rfl, fun _ sg1 _ _ => OpG.plain rfl (ok_move (ht rfl))⟩,
      ⟨⟨[⟨5, fun _ => tPtr rpDValue e, none⟩], _, 0, 0, rfl, ⟨(fun _ => rfl), trivial⟩, rfl, rfl, rfl, rfl, rfl, fun _ sg1 _ _ => OpG.plain rfl (ok_fieldAddr fd89_3 rfl flDValue_3 rfl (ht rfl))⟩,
      ⟨⟨[⟨27, fun _ => tPtr rS e.S, some 1⟩], _, 0, 0, rfl, ⟨(fun _ => rfl), trivial⟩, rfl, rfl, rfl, rfl, rfl, fun _ sg1 _ _ => OpG.plain rfl (ok_load ti9 rfl rfl (ht rfl))⟩,
      ⟨⟨[⟨28, fun _ => tD rS e.S, some 2⟩], _, 0, 0, rfl, ⟨(fun _ => rfl), trivial⟩, rfl, rfl, rfl, rfl, rfl, fun _ sg1 _ _ => OpG.plain rfl (ok_lenS Tryz.underlying9 (ht rfl))⟩,
      ⟨⟨[⟨29, fun _ => tD (rI .i64) (e.S.length : Int), some 3⟩], _, 0, 0, rfl, ⟨(fun _ => rfl), trivial⟩, rfl, rfl, rfl, rfl, rfl, fun _ sg1 _ _ => OpG.plain rfl (ok_conv Tryz.underlying3 Tryz.underlying5 (ht rfl))⟩,
      ⟨⟨[⟨30, fun _ => tD (rI .u8) (IntKind.u8.wrap (e.S.length : Int)), some 4⟩], _, 0, 0, rfl, ⟨(fun _ => rfl), trivial⟩, rfl, rfl, rfl, rfl, rfl, fun _ sg1 _ _ => OpG.plain rfl (ok_buildSlice (r := (rI .u8)) (ys := [(IntKind.u8.wrap (e.S.length : Int))]) (xs := [.tmp 30]) Tryz.underlying117 ti5 rfl rfl rfl rfl rfl ⟨(ht rfl), trivial⟩)⟩,
      ⟨⟨[⟨26, fun _ => tO (rI .u8) (i1.h 0).1 (i1.h 0).2 r3, some 0⟩, ⟨31, fun _ => tD (rSl (rI .u8)) ([(IntKind.u8.wrap (e.S.length : Int))]), some 5⟩], _, rfl, ⟨(fun _ => rfl), (fun _ => rfl), trivial⟩, rfl, rfl, rfl, fun sg1 => EffG.plain rfl (eff_appendT ti5 rfl rfl rfl rfl Tryz.underlying117 rfl (ht rfl) (ht rfl) q_l3)⟩,
      ⟨⟨[⟨5, fun _ => tPtr rpDValue e, none⟩], _, 0, 1, rfl, ⟨(fun _ => rfl), trivial⟩, rfl, rfl, rfl, rfl, rfl, fun _ sg1 _ _ => OpG.plain rfl (ok_fieldAddr fd89_3 rfl flDValue_3 rfl (ht rfl))⟩,
      ⟨⟨[⟨33, fun _ => tPtr rS e.S, some 7⟩], _, 0, 1, rfl, ⟨(fun _ => rfl), trivial⟩, rfl, rfl, rfl, rfl, rfl, fun _ sg1 _ _ => OpG.plain rfl (ok_load ti9 rfl rfl (ht rfl))⟩,
      trivial⟩⟩⟩⟩⟩⟩⟩⟩⟩ (fun sg1 => ?_)
    refine (show RG _ _ _ _ [tip (rI .u8) 5 ((sg1 6).h 0).1 ((sg1 6).h 0).2 l3] _ from ?_)
    obtain ⟨b3, q_b3, h⟩ := bs h
    refine RG.appendST ti5 rfl rfl Tryz.underlying117 Tryz.underlying9 rfl (ht rfl) (ht rfl) q_b3 (fun l4 c3 => ?_)
    refine RG.op (ok_assign (ht rfl)) rfl ?_
    refine RG.nil ?_
    refine AT.in_normal ?_
    refine AT.next ?_
    refine CG.region ?_
    refine RG.op (ok_incN (dropL hx hN) (ht rfl) hI) rfl ?_
    refine RG.op (ok_move (ht rfl)) rfl ?_
    refine RG.nil ?_
    exact AT.round (LG.sub (ih (i + 1) b3 l4 c3 ⟨dropS hx, h⟩) ⟨rfl, rfl, rfl, rfl, trivial⟩)

set_option maxRecDepth 100000 in
theorem f71_ok (r : (List DValue)) (columns : (List Int)) {R : Int × Int} (h : row_Hash r columns = some R) : Spec Tryz.prog 71 [tD (rSl rpDValue) r, tD (rSl (rI .i64)) columns] (tT [tD (rI .u32) R.1, tD (rI .i64) R.2]) := by
  refine Spec.of Tryz.func71 rfl rfl rfl fun w0 S0 => ?_
  refine CG.seq ?_
  refine CG.region ?_
  refine RG.op (ok_assign hI) rfl ?_
  refine RG.op (ok_assign hI) rfl ?_
  refine RG.nil ?_
  refine AT.next ?_
  refine CG.seq ?_
  refine CG.region ?_
  refine RG.op (ok_move (ht rfl)) rfl ?_
  refine RG.op (ok_move (ht rfl)) rfl ?_
  obtain ⟨r1, q_r1, h⟩ := bs h
  refine RG.op (ok_call cb95 (f95_ok _ _ q_r1) ⟨(ht rfl), (ht rfl), trivial⟩) rfl ?_
  refine RG.op (ok_move (ht rfl)) rfl ?_
  refine RG.op (ok_extract rfl (ht rfl)) rfl ?_
  refine RG.op (ok_extract rfl (ht rfl)) rfl ?_
  refine RG.op (ok_assign (ht rfl)) rfl ?_
  refine RG.op (ok_assign (ht rfl)) rfl ?_
  refine RG.nil ?_
  refine AT.next ?_
  refine CG.seq ?_
  refine CG.seq ?_
  refine CG.region ?_
  refine RG.op (ok_move (ht rfl)) rfl ?_
  refine RG.op (ok_neqI (ht rfl) hI) rfl ?_
  refine RG.nil ?_
  refine AT.next ?_
  refine CG.cond (ht rfl) (fun hc => ?_) (fun hc => ?_)
  · have h := ct h hc
    refine CG.seq ?_
    refine CG.region ?_
    refine RG.op (ok_move (ht rfl)) rfl ?_
    refine RG.op (ok_assign hI) rfl ?_
    refine RG.op (ok_assign (ht rfl)) rfl ?_
    refine RG.nil ?_
    refine AT.next ?_
    refine CG.ret ?_
    refine AT.then_ret ?_
    cases so h
    exact AT.ret2 rfl rfl rfl
  · have h := cf h hc
    refine CG.skip ?_
    refine AT.next ?_
    refine CG.seq ?_
    refine CG.region ?_
    refine RG.op (ok_move (ht rfl)) rfl ?_
    obtain ⟨r2, q_r2, h⟩ := bs h
    refine RG.op (ok_call cb96 (f96_ok _ q_r2) ⟨(ht rfl), trivial⟩) rfl ?_
    refine RG.op (ok_assign (ht rfl)) rfl ?_
    refine RG.op (ok_assign hI) rfl ?_
    refine RG.nil ?_
    refine AT.next ?_
    refine CG.ret ?_
    cases so h
    exact AT.ret2 rfl rfl rfl

set_option maxRecDepth 100000 in
theorem f43_ok (t : DTable) (r : (List DValue)) (nodes : Int) {R : Int} (h : place_home t r nodes = some R) : Spec Tryz.prog 43 [tD rpDTable t, tD (rSl rpDValue) r, tD (rI .i64) nodes] (tD (rI .i64) R) := by
  refine Spec.of Tryz.func43 rfl rfl rfl fun w0 S0 => ?_
  refine CG.seq ?_
  refine CG.region ?_
  refine RG.op (ok_box (ht rfl)) rfl ?_
  refine RG.op (ok_assign hI) rfl ?_
  refine RG.nil ?_
  refine AT.next ?_
  refine CG.seq ?_
  refine CG.seq ?_
  refine CG.region ?_
  refine RG.op (ok_fieldAddr fd53_2 rfl flDTable_2 rfl (ht rfl)) rfl ?_
  refine RG.op (ok_load ti28 rfl rfl (ht rfl)) rfl ?_
  refine RG.op (ok_lenSl Tryz.underlying28 (ht rfl)) rfl ?_
  refine RG.op (ok_eqlI (ht rfl) hI) rfl ?_
  refine RG.nil ?_
  refine AT.next ?_
  refine CG.cond (ht rfl) (fun hc => ?_) (fun hc => ?_)
  · have h := ct h hc
    refine CG.seq ?_
    refine CG.region ?_
    refine RG.op (ok_assign hI) rfl ?_
    refine RG.nil ?_
    refine AT.next ?_
    refine CG.ret ?_
    refine AT.then_ret ?_
    cases so h
    exact AT.ret1 rfl rfl
  · have h := cf h hc
    refine CG.skip ?_
    refine AT.next ?_
    refine CG.seq ?_
    refine CG.region ?_
    refine RG.op (ok_move (ht rfl)) rfl ?_
    refine RG.op (ok_fieldAddr fd53_2 rfl flDTable_2 rfl (ht rfl)) rfl ?_
    refine RG.op (ok_load ti28 rfl rfl (ht rfl)) rfl ?_
    obtain ⟨r1, q_r1, h⟩ := bs h
    refine RG.op (ok_call cb71 (f71_ok _ _ q_r1) ⟨(ht rfl), (ht rfl), trivial⟩) rfl ?_
    refine RG.op (ok_move (ht rfl)) rfl ?_
    refine RG.op (ok_extract rfl (ht rfl)) rfl ?_
    refine RG.op (ok_extract rfl (ht rfl)) rfl ?_
    refine RG.op (ok_assign (ht rfl)) rfl ?_
    refine RG.op (ok_assign (ht rfl)) rfl ?_
    refine RG.nil ?_
    refine AT.next ?_
    refine CG.seq ?_
    refine CG.region ?_
    refine RG.op (ok_move (ht rfl)) rfl ?_
    refine RG.op (ok_move (ht rfl)) rfl ?_
    refine RG.op (ok_conv Tryz.underlying3 Tryz.underlying91 (ht rfl)) rfl ?_
    obtain ⟨u, q_u, h⟩ := bs h
    refine RG.op (ok_rem (ht rfl) (ht rfl) (nz_some q_u)) rfl ?_
    refine RG.op (ok_conv Tryz.underlying91 Tryz.underlying3 (ht rfl)) rfl ?_
    refine RG.op (ok_add (ht rfl) hI) rfl ?_
    refine RG.op (ok_assign (ht rfl)) rfl ?_
    refine RG.nil ?_
    refine AT.next ?_
    refine CG.ret ?_
    cases so h
    exact AT.ret1 rfl rfl

set_option maxRecDepth 100000 in
theorem f51_own (s : (List DValue)) {R : (List DValue)} (h : slices_Clone_api_Row_api_Value s = some R) : SpecO Tryz.prog 51 [tD (rSl rpDValue) s] false rpDValue 89 R := by
  refine SpecO.of Tryz.func51 rfl rfl rfl fun w0 S0 => ?_
  refine CG.seq ?_
  refine CG.region ?_
  refine RG.fresh false rpDValue 89 ?_
  refine RG.op (ok_assign hVn) rfl ?_
  refine RG.nil ?_
  refine AT.next ?_
  refine CG.seq ?_
  refine CG.seq ?_
  refine CG.region ?_
  refine RG.op (ok_move (ht rfl)) rfl ?_
  refine RG.isNil Tryz.underlying45 (ht rfl) rfl (fun isnil hisnil => ?_)
  refine RG.nil ?_
  refine AT.next ?_
  refine CG.cond (ht rfl) (fun hc => ?_) (fun hc => ?_)
  · have hx := hisnil hc
    have h : some ([] : List DValue) = some R := by simpa [slices_Clone_api_Row_api_Value, app, hx] using h
    refine CG.seq ?_
    refine CG.region ?_
    refine RG.fresh false rpDValue 89 ?_
    refine RG.op (ok_assign hVn) rfl ?_
    refine RG.nil ?_
    refine AT.next ?_
    refine CG.ret ?_
    refine AT.then_ret ?_
    cases so h
    exact AT.retO rfl rfl
  · refine CG.skip ?_
    refine AT.next ?_
    refine CG.seq ?_
    refine CG.region ?_
    refine RG.buildOwn (r := rpDValue) (ys := ([] : List DValue)) (xs := []) Tryz.underlying45 ti89 rfl rfl rfl rfl rfl trivial rfl (fun l c => ?_)
    refine RG.op (ok_move (ht rfl)) rfl ?_
    obtain ⟨x, q_x, h⟩ := bs h
    refine RG.append ti89 rfl rfl rfl rfl Tryz.underlying45 rfl rfl (ht rfl) (ht rfl) q_x (fun l1 c1 => ?_)
    refine RG.op (ok_assign (ht rfl)) rfl ?_
    refine RG.nil ?_
    refine AT.next ?_
    refine CG.ret ?_
    cases so h
    exact AT.retO rfl rfl
theorem f51_ok (s : (List DValue)) {R : (List DValue)} (h : slices_Clone_api_Row_api_Value s = some R) : Spec Tryz.prog 51 [tD (rSl rpDValue) s] (tD (rSl rpDValue) R) := (f51_own _ h).spec

set_option maxRecDepth 100000 in
theorem f44_n (l : Option Nat) (c n : Nat) (g : NG) (x : List DBase) (node : Int) (table : Int) (r : (List DValue)) {R : List DBase} (h : place_put x node table r = some R) : SpecM Tryz.prog 44 [tV (.agg #[oslV l c n]), tD (rI .i64) node, tD (rI .i64) table, tD (rSl rpDValue) r] [nst (fun y : DBase => y.Tables) (rSl rpDValue) 27 54 45 l c n g x none] (fun _ : OI => tT []) (fun i : OI => [nst (fun y : DBase => y.Tables) (rSl rpDValue) 27 54 45 l c n i.ng R none]) := by
  refine SpecM.of Tryz.func44 rfl rfl rfl fun w0 S0 => ?_
  refine CG.seq ?_
  refine CG.region ?_
  refine RG.boxO (r := rpOLayout_0) (v := mkOLayout_0 (⟨[]⟩ : DLayout) (oslV l c n)) (hH rfl (fun _ => ⟨rfl, osl_one _ _ _⟩) (ht rfl)) rfl (fun b => ?_)
  refine RG.nil ?_
  refine AT.next ?_
  refine CG.seq ?_
  refine CG.region ?_
  refine RG.op (ok_fieldAddrC (n := 0) fd36_0 rfl (ht rfl) rfl) rfl ?_
  refine RG.op (ok_loadFV (l := l) (cap := c) (n := n) ti34 flOLayout_0_0 (.head _) rfl (ht rfl)) rfl ?_
  refine RG.op (ok_move (ht rfl)) rfl ?_
  refine RG.op (ok_sub (ht rfl) hI) rfl ?_
  obtain ⟨e, q_e, h⟩ := bs h
  refine RG.op (ok_idxN1 Tryz.underlying34 ti27 (.tail _ (.head _)) (ht rfl) (ht rfl) q_e) rfl ?_
  refine RG.op (ok_faN fd27_0 rfl (nst_some1 (.tail _ (.head _)) q_e) (ht rfl)) rfl ?_
  refine RG.op (ok_ldN1 ti25 (.tail _ (.head _)) q_e (ht rfl)) rfl ?_
  refine RG.op (ok_move (ht rfl)) rfl ?_
  obtain ⟨e1, q_e1, h⟩ := bs h
  refine RG.op (ok_idxN2 (i := (IntKind.i64.wrap (node - (1 : Int)))) Tryz.underlying25 ti54 (.tail _ (.head _)) q_e (ht rfl) (ht rfl) q_e1) rfl ?_
  refine RG.op (ok_assign (ht rfl)) rfl ?_
  refine RG.nil ?_
  refine AT.next ?_
  refine CG.front1 ?_
  refine CG.openN (i := (IntKind.i64.wrap (node - (1 : Int)))) (j := table) q_e q_e1 ?_
  obtain ⟨r1, q_r1, h⟩ := bs h
  obtain ⟨l1, q_l1, h⟩ := bs h
  refine CG.drawS 8 [tc (tV (eptr (g (IntKind.i64.wrap (node - (1 : Int))).toNat).1.1 table.toNat)), tc (tV (eptr (g (IntKind.i64.wrap (node - (1 : Int))).toNat).1.1 table.toNat)), tc (tV (eptr (g (IntKind.i64.wrap (node - (1 : Int))).toNat).1.1 table.toNat)), tc (tO (rSl rpDValue) ((g (IntKind.i64.wrap (node - (1 : Int))).toNat).2 table.toNat).1 ((g (IntKind.i64.wrap (node - (1 : Int))).toNat).2 table.toNat).2 e1), tc (tD (rSl rpDValue) r), tc (tD (rSl rpDValue) r1), tc (tD (rSl (rSl rpDValue)) ([r1])), ([7], fun s => tO (rSl rpDValue) ((s.getD 0 zoi).h 0).1 ((s.getD 0 zoi).h 0).2 l1)] [false, false, false, false, false, false, false, true] [fun _ => [tip (rSl rpDValue) 45 ((g (IntKind.i64.wrap (node - (1 : Int))).toNat).2 table.toNat).1 ((g (IntKind.i64.wrap (node - (1 : Int))).toNat).2 table.toNat).2 e1, nst (fun y : DBase => y.Tables) (rSl rpDValue) 27 54 45 l c n g x (some ((IntKind.i64.wrap (node - (1 : Int))).toNat, table.toNat)), bx rpOLayout_0 36 b (mkOLayout_0 (⟨[]⟩ : DLayout) (oslV l c n))], fun sg => [tip (rSl rpDValue) 45 ((sg 7).h 0).1 ((sg 7).h 0).2 l1, nst (fun y : DBase => y.Tables) (rSl rpDValue) 27 54 45 l c n g x (some ((IntKind.i64.wrap (node - (1 : Int))).toNat, table.toNat)), bx rpOLayout_0 36 b (mkOLayout_0 (⟨[]⟩ : DLayout) (oslV l c n))]] rfl mixed rfl rfl rfl rfl rfl
    ⟨⟨[⟨8, fun _ => tV (eptr (g (IntKind.i64.wrap (node - (1 : Int))).toNat).1.1 table.toNat), none⟩], _, 0, 1, rfl, ⟨(fun _ => rfl), trivial⟩, rfl, rfl, rfl, rfl, rfl, fun _ sg _ _ => OpG.plain rfl (ok_move (ht rfl))⟩,
    ⟨⟨[⟨8, fun _ => tV (eptr (g (IntKind.i64.wrap (node - (1 : Int))).toNat).1.1 table.toNat), none⟩], _, 0, 0, rfl, ⟨(fun _ => rfl), trivial⟩, rfl, rfl, rfl, rfl, rfl, fun _ sg _ _ => OpG.plain rfl (ok_move (ht rfl))⟩,
    ⟨⟨[⟨19, fun _ => tV (eptr (g (IntKind.i64.wrap (node - (1 : Int))).toNat).1.1 table.toNat), some 1⟩], _, 0, 0, rfl, ⟨(fun _ => rfl), trivial⟩, rfl, rfl, rfl, rfl, rfl, win1 (fun sg => OpG.plain rfl (ok_nilN (nst_some2 (.tail _ (.head _)) q_e q_e1) (ht rfl)))⟩,
    ⟨⟨[⟨20, fun _ => tV (eptr (g (IntKind.i64.wrap (node - (1 : Int))).toNat).1.1 table.toNat), some 2⟩], _, 0, 0, rfl, ⟨(fun _ => rfl), trivial⟩, rfl, rfl, rfl, rfl, rfl, win1 (fun sg => OpG.plain rfl (ok_ldN2 ti54 (.tail _ (.head _)) (.head _) q_e q_e1 (ht rfl)))⟩,
    ⟨⟨[⟨3, fun _ => tD (rSl rpDValue) r, none⟩], _, 0, 0, rfl, ⟨(fun _ => rfl), trivial⟩, rfl, rfl, rfl, rfl, rfl, fun _ sg _ _ => OpG.plain rfl (ok_move (ht rfl))⟩,
    ⟨⟨[⟨22, fun _ => tD (rSl rpDValue) r, some 4⟩], _, 0, 0, rfl, ⟨(fun _ => rfl), trivial⟩, rfl, rfl, rfl, rfl, rfl, fun _ sg _ _ => OpG.plain rfl (ok_call cb51 (f51_ok _ q_r1) ⟨(ht rfl), trivial⟩)⟩,
    ⟨⟨[⟨23, fun _ => tD (rSl rpDValue) r1, some 5⟩], _, 0, 0, rfl, ⟨(fun _ => rfl), trivial⟩, rfl, rfl, rfl, rfl, rfl, fun _ sg _ _ => OpG.plain rfl (ok_buildSlice (r := (rSl rpDValue)) (ys := [r1]) (xs := [.tmp 23]) Tryz.underlying54 ti45 rfl rfl rfl rfl rfl ⟨(ht rfl), trivial⟩)⟩,
    ⟨⟨[⟨21, fun _ => tO (rSl rpDValue) ((g (IntKind.i64.wrap (node - (1 : Int))).toNat).2 table.toNat).1 ((g (IntKind.i64.wrap (node - (1 : Int))).toNat).2 table.toNat).2 e1, some 3⟩, ⟨24, fun _ => tD (rSl (rSl rpDValue)) ([r1]), some 6⟩], _, rfl, ⟨(fun _ => rfl), (fun _ => rfl), trivial⟩, rfl, rfl, rfl, fun sg => EffG.plain rfl (eff_appendT ti45 rfl rfl rfl rfl Tryz.underlying54 rfl (ht rfl) (ht rfl) q_l1)⟩,
    trivial⟩⟩⟩⟩⟩⟩⟩⟩ (fun sg => ?_)
  refine (show RG _ _ _ _ [tip (rSl rpDValue) 45 ((sg 7).h 0).1 ((sg 7).h 0).2 l1, nst (fun y : DBase => y.Tables) (rSl rpDValue) 27 54 45 l c n g x (some ((IntKind.i64.wrap (node - (1 : Int))).toNat, table.toNat)), bx rpOLayout_0 36 b (mkOLayout_0 (⟨[]⟩ : DLayout) (oslV l c n))] _ from ?_)
  refine RG.op (ok_nilN (nst_some2 (.tail _ (.head _)) q_e q_e1) (ht rfl)) rfl ?_
  refine RG.eff0 (EffOK.fr1 (EffOK.fr1 (eff_stN (mk := (fun z => (⟨z⟩ : DBase))) (fun _ => rfl) ti54 q_e q_e1 (ht rfl) (tO_v (ht rfl))))) (fun _ => ?_)
  refine (show RG _ _ _ _ [nst (fun y : DBase => y.Tables) (rSl rpDValue) 27 54 45 l c n (gset g (IntKind.i64.wrap (node - (1 : Int))).toNat table.toNat (((sg 7).h 0).1, ((sg 7).h 0).2)) (xset (fun y : DBase => y.Tables) (fun z => (⟨z⟩ : DBase)) x (IntKind.i64.wrap (node - (1 : Int))).toNat table.toNat l1) none, bx rpOLayout_0 36 b (mkOLayout_0 (⟨[]⟩ : DLayout) (oslV l c n))] _ from ?_)
  refine RG.nil ?_
  refine AT.front1 ?_
  refine AT.drop ?_
  cases so h
  exact AT.normM0 rfl ({ ng := (gset g (IntKind.i64.wrap (node - (1 : Int))).toNat table.toNat (((sg 7).h 0).1, ((sg 7).h 0).2)) } : OI) rfl rfl

set_option maxRecDepth 100000 in
theorem f12_ok (c : DCatalog) (b : DBase) (nodes : Int) (spread : (List Int)) {R : DLayout × Int} (h : place_Lay c b nodes spread = some R) : Spec Tryz.prog 12 [tD rpDCatalog c, tD rpDBase b, tD (rI .i64) nodes, tD (rSl (rI .i64)) spread] (tT [tD rpDLayout R.1, tD (rI .i64) R.2]) := by
  refine Spec.of Tryz.func12 rfl rfl rfl fun w0 S0 => ?_
  refine CG.seq ?_
  refine CG.region ?_
  refine RG.op (ok_box (ht rfl)) rfl ?_
  refine RG.op (ok_box (ht rfl)) rfl ?_
  refine RG.op (ok_box (ht rfl)) rfl ?_
  refine RG.op (ok_box (ht rfl)) rfl ?_
  refine RG.alloc (r := rpDLayout) (x := (⟨[]⟩ : DLayout)) ti36 (fun _ => zrDLayout _) rfl (fun b1 => ?_)
  refine RG.op (ok_assign hI) rfl ?_
  refine RG.nil ?_
  refine AT.next ?_
  refine CG.seq ?_
  refine CG.block ?_
  refine CG.seq ?_
  refine CG.region ?_
  refine RG.op (ok_load ti24 rfl rfl (ht rfl)) rfl ?_
  obtain ⟨r, q_r, h⟩ := bs h
  refine RG.op (ok_call cb39 (f39_ok _ q_r) ⟨(ht rfl), trivial⟩) rfl ?_
  refine RG.op (ok_neqI (ht rfl) hI) rfl ?_
  refine RG.op (ok_assign (ht rfl)) rfl ?_
  refine RG.nil ?_
  refine AT.next ?_
  refine CG.cond (ht rfl) (fun hc => ?_) (fun hc => ?_)
  · have h := ct h hc
    refine CG.seq ?_
    refine CG.region ?_
    refine RG.op (ok_build (y := (⟨[]⟩ : DLayout)) ti36 fs36 zrDLayout (rfl)) rfl ?_
    refine RG.storeB ti36 rfl sfld_whole rfl (ht rfl) (ht rfl) ?_
    refine RG.op (ok_assign hI) rfl ?_
    refine RG.nil ?_
    refine AT.next ?_
    refine CG.ret ?_
    refine AT.in_ret (AT.then_ret ?_)
    refine AT.settleB 8 rfl ?_
    cases so h
    exact AT.retL (rvs := [.cell 8 36, .tmp 9]) rfl rfl ⟨res_cell ti36 rfl rfl rfl, res_tmp rfl, trivial⟩
  · have h := cf h hc
    refine CG.seq ?_
    refine CG.region ?_
    refine RG.op (ok_load ti24 rfl rfl (ht rfl)) rfl ?_
    refine RG.op (ok_load ti27 rfl rfl (ht rfl)) rfl ?_
    obtain ⟨r1, q_r1, h⟩ := bs h
    refine RG.op (ok_call cb40 (f40_ok _ _ q_r1) ⟨(ht rfl), (ht rfl), trivial⟩) rfl ?_
    refine RG.op (ok_neqI (ht rfl) hI) rfl ?_
    refine RG.op (ok_assign (ht rfl)) rfl ?_
    refine RG.nil ?_
    refine AT.next ?_
    refine CG.cond (ht rfl) (fun hc => ?_) (fun hc => ?_)
    · have h := ct h hc
      refine CG.seq ?_
      refine CG.region ?_
      refine RG.op (ok_build (y := (⟨[]⟩ : DLayout)) ti36 fs36 zrDLayout (rfl)) rfl ?_
      refine RG.storeB ti36 rfl sfld_whole rfl (ht rfl) (ht rfl) ?_
      refine RG.op (ok_assign hI) rfl ?_
      refine RG.nil ?_
      refine AT.next ?_
      refine CG.ret ?_
      refine AT.in_ret (AT.then_ret ?_)
      refine AT.settleB 8 rfl ?_
      cases so h
      exact AT.retL (rvs := [.cell 8 36, .tmp 9]) rfl rfl ⟨res_cell ti36 rfl rfl rfl, res_tmp rfl, trivial⟩
    · have h := cf h hc
      refine CG.seq ?_
      refine CG.region ?_
      refine RG.op (ok_load ti3 rfl rfl (ht rfl)) rfl ?_
      refine RG.op (ok_lss (ht rfl) hI) rfl ?_
      refine RG.op (ok_move (ht rfl)) rfl ?_
      refine RG.opGf rfl rfl rfl rfl (fun hg => ok_load ti3 rfl rfl (ht rfl)) ?_
      refine RG.opGf rfl rfl rfl rfl (fun hg => ok_gtr (htO rfl hg) hI) ?_
      refine RG.op (ok_pickOr (ht rfl) (fun hb => (htO rfl (noti hb)))) rfl ?_
      refine RG.op (ok_assign (ht rfl)) rfl ?_
      refine RG.nil ?_
      refine AT.next ?_
      refine CG.cond (ht rfl) (fun hc => ?_) (fun hc => ?_)
      · have h := ct h hc
        refine CG.seq ?_
        refine CG.region ?_
        refine RG.op (ok_build (y := (⟨[]⟩ : DLayout)) ti36 fs36 zrDLayout (rfl)) rfl ?_
        refine RG.storeB ti36 rfl sfld_whole rfl (ht rfl) (ht rfl) ?_
        refine RG.op (ok_assign hI) rfl ?_
        refine RG.nil ?_
        refine AT.next ?_
        refine CG.ret ?_
        refine AT.in_ret (AT.then_ret ?_)
        refine AT.settleB 8 rfl ?_
        cases so h
        exact AT.retL (rvs := [.cell 8 36, .tmp 9]) rfl rfl ⟨res_cell ti36 rfl rfl rfl, res_tmp rfl, trivial⟩
      · have h := cf h hc
        refine CG.skip ?_
        refine AT.in_normal ?_
        refine AT.next ?_
        refine CG.seq ?_
        refine CG.region ?_
        refine RG.op ((show OpOK _ _ _ _ ((tFun Tryz.prog (fun (x : Int) => [tD (rI .i64) x]) (fun (x : Int) => tD (rI .i64) x) (fun (x : Int) => (place_Lay_1 spread nodes) x))) from ok_makeFunc (cts := [tPtr (rSl (rI .i64)) spread, tPtr (rI .i64) nodes]) (caps := [.tmp 7, .tmp 6]) cb41 ⟨(ht rfl), (ht rfl), trivial⟩ (fun x y h => f41_ok _ _ _ h))) rfl ?_
        refine RG.op (ok_assign (ht rfl)) rfl ?_
        refine RG.nil ?_
        refine AT.next ?_
        refine CG.seq ?_
        refine CG.region ?_
        refine RG.op (ok_load ti24 rfl rfl (ht rfl)) rfl ?_
        refine RG.op (ok_load ti3 rfl rfl (ht rfl)) rfl ?_
        obtain ⟨r2, q_r2, h⟩ := bs h
        refine RG.callM [] _ rfl cb42 (f42_n _ _ q_r2) ⟨(ht rfl), (ht rfl), trivial⟩ rfl (fun i => ?_)
        refine (show RG _ _ _ _ [nst (fun y : DBase => y.Tables) (rSl rpDValue) 27 54 45 (i.h 0).1 (i.h 0).2 r2.Parts.length i.ng r2.Parts none, bx rpDLayout 36 b1 (⟨[]⟩ : DLayout)] ((39, tV (.agg #[oslV (i.h 0).1 (i.h 0).2 r2.Parts.length])) :: _) from ?_)
        refine RG.alloc (r := rpOLayout_0) (x := mkOLayout_0 (⟨[]⟩ : DLayout) (oslV none 0 0)) ti36 zrOLayout_0 rfl (fun b2 => ?_)
        refine RG.storeFX (q := rpOLayout_0) (y := mkOLayout_0 (⟨[]⟩ : DLayout) (oslV (i.h 0).1 (i.h 0).2 r2.Parts.length)) (x' := mkOLayout_0 (⟨[]⟩ : DLayout) (oslV (i.h 0).1 (i.h 0).2 r2.Parts.length)) ti36 rfl (sfx_of sfld_whole) rfl (ht rfl) (hH rfl (fun _ => ⟨rfl, osl_one _ _ _⟩) (ht rfl)) ?_
        refine RG.nil ?_
        refine AT.next ?_
        refine CG.seq ?_
        refine CG.seq ?_
        refine CG.region ?_
        refine RG.op (ok_fieldAddr fd27_0 rfl flDBase_0 rfl (ht rfl)) rfl ?_
        refine RG.op (ok_load ti25 rfl rfl (ht rfl)) rfl ?_
        refine RG.op (ok_lenSl Tryz.underlying25 (ht rfl)) rfl ?_
        refine RG.op (ok_move hI) rfl ?_
        refine RG.nil ?_
        refine AT.next ?_
        refine CG.block ?_
        refine CG.have_len (k := 41) rfl (fun hN => ?_)
        refine CG.loop ?_
        refine LG.front1 ?_
        refine LG.front1 ?_
        refine LG.front2 ?_
        refine LG.sub (LG.list3 (Z := fun ls i1 x g => (b.Tables.drop i1 = ls) ∧ place_Lay_l1 c nodes spread ls i1 x = some R) (Of := fun _ i1 x g => [bx rpDLayout 36 b1 (⟨[]⟩ : DLayout), bx rpOLayout_0 36 b2 (mkOLayout_0 (⟨[]⟩ : DLayout) (oslV (i.h 0).1 (i.h 0).2 r2.Parts.length)), nst (fun y : DBase => y.Tables) (rSl rpDValue) 27 54 45 (i.h 0).1 (i.h 0).2 r2.Parts.length g x none]) (Gf := fun _ i1 x g => [(4, tPtr rpDCatalog c), (6, tPtr (rI .i64) nodes), (8, tV (bptr b1 0)), (10, (tFun Tryz.prog (fun (x : Int) => [tD (rI .i64) x]) (fun (x : Int) => tD (rI .i64) x) (fun (x : Int) => (place_Lay_1 spread nodes) x))), (11, tV (bptr b2 0)), (41, tD (rSl (rSl (rSl rpDValue))) b.Tables), (42, tD (rI .i64) (b.Tables.length : Int)), (43, tD (rI .i64) (i1 : Int))]) (fun i1 x g h => ?_) (fun e tl ih i1 x g h => ?_) b.Tables 0 r2.Parts i.ng ⟨rfl, h⟩) ⟨rfl, rfl, rfl, rfl, rfl, rfl, rfl, rfl, trivial⟩
        · obtain ⟨hx, h⟩ := h
          refine LG.unfold ?_
          refine CG.seq ?_
          refine CG.region ?_
          refine RG.op (ok_lss (ht rfl) (ht rfl)) rfl ?_
          refine RG.nil ?_
          refine AT.next ?_
          refine CG.seq ?_
          refine CG.condF (ht rfl) (dropF hx) ?_
          refine CG.exit ?_
          refine AT.then_exit (AT.then_exit (AT.in_exit ?_))
          refine AT.next ?_
          refine CG.seq ?_
          refine CG.region ?_
          refine RG.op (ok_loadH (r := rpOLayout_0) (y := mkOLayout_0 (⟨[]⟩ : DLayout) (oslV (i.h 0).1 (i.h 0).2 r2.Parts.length)) (v := oslV (i.h 0).1 (i.h 0).2 r2.Parts.length) ti36 rfl rfl (fun _ _ h => h.1) (.tail _ (.head _)) (ht rfl)) rfl ?_
          refine RG.front2 ?_
          refine RG.settleN (q := rpDBase) (rl := rpDLayout) (y := (⟨x⟩ : DLayout)) rfl (fun _ _ _ h => h) 75 rfl (fun _ h => ⟨_, rfl, h⟩) ?_
          refine RG.storeB ti36 rfl sfld_whole rfl (ht rfl) (ht rfl) ?_
          refine RG.op (ok_assign hI) rfl ?_
          refine RG.nil ?_
          refine AT.next ?_
          refine CG.ret ?_
          refine AT.settleB 8 rfl ?_
          refine AT.drop ?_
          cases so h
          exact AT.retL (rvs := [.cell 8 36, .tmp 9]) rfl rfl ⟨res_cell ti36 rfl rfl rfl, res_tmp rfl, trivial⟩
        · obtain ⟨hx, h⟩ := h
          refine LG.unfold ?_
          refine CG.seq ?_
          refine CG.region ?_
          refine RG.op (ok_lss (ht rfl) (ht rfl)) rfl ?_
          refine RG.nil ?_
          refine AT.next ?_
          refine CG.seq ?_
          refine CG.condT (ht rfl) (dropT hx) ?_
          refine CG.skip ?_
          refine AT.next ?_
          refine CG.seq ?_
          refine CG.block ?_
          refine CG.seq ?_
          refine CG.region ?_
          refine RG.op (ok_move (ht rfl)) rfl ?_
          refine RG.op (ok_indexAddr Tryz.underlying25 ti54 rfl (ht rfl) (ht rfl) (dropI hx)) rfl ?_
          refine RG.op (ok_load ti54 rfl rfl (ht rfl)) rfl ?_
          refine RG.op (ok_assign (ht rfl)) rfl ?_
          refine RG.op (ok_assign (ht rfl)) rfl ?_
          refine RG.nil ?_
          refine AT.next ?_
          refine CG.seq ?_
          refine CG.region ?_
          refine RG.op (ok_move (ht rfl)) rfl ?_
          refine RG.op (ok_lenSl Tryz.underlying54 (ht rfl)) rfl ?_
          refine RG.op (ok_move hI) rfl ?_
          refine RG.nil ?_
          refine AT.next ?_
          refine CG.block ?_
          refine CG.have_len (k := 48) rfl (fun hN1 => ?_)
          refine CG.loop ?_
          refine LG.sub (LG.list3 (Z := fun ls1 i2 x1 g1 => (e.drop i2 = ls1) ∧ place_Lay_l2 c nodes spread (place_Lay_l1 c nodes spread tl) i1 ls1 i2 x1 = some R) (Of := fun _ i2 x1 g1 => [bx rpDLayout 36 b1 (⟨[]⟩ : DLayout), bx rpOLayout_0 36 b2 (mkOLayout_0 (⟨[]⟩ : DLayout) (oslV (i.h 0).1 (i.h 0).2 r2.Parts.length)), nst (fun y : DBase => y.Tables) (rSl rpDValue) 27 54 45 (i.h 0).1 (i.h 0).2 r2.Parts.length g1 x1 none]) (Gf := fun _ i2 x1 g1 => [(4, tPtr rpDCatalog c), (6, tPtr (rI .i64) nodes), (8, tV (bptr b1 0)), (10, (tFun Tryz.prog (fun (x : Int) => [tD (rI .i64) x]) (fun (x : Int) => tD (rI .i64) x) (fun (x : Int) => (place_Lay_1 spread nodes) x))), (11, tV (bptr b2 0)), (12, tD (rI .i64) (i1 : Int)), (41, tD (rSl (rSl (rSl rpDValue))) b.Tables), (42, tD (rI .i64) (b.Tables.length : Int)), (43, tD (rI .i64) (i1 : Int)), (48, tD (rSl (rSl rpDValue)) e), (49, tD (rI .i64) (e.length : Int)), (50, tD (rI .i64) (i2 : Int))]) (fun i2 x1 g1 h => ?_) (fun e1 tl1 ih1 i2 x1 g1 h => ?_) e 0 x g ⟨rfl, h⟩) ⟨rfl, rfl, rfl, rfl, rfl, rfl, rfl, rfl, rfl, rfl, rfl, rfl, trivial⟩
          · obtain ⟨hx1, h⟩ := h
            refine LG.unfold ?_
            refine CG.seq ?_
            refine CG.region ?_
            refine RG.op (ok_lss (ht rfl) (ht rfl)) rfl ?_
            refine RG.nil ?_
            refine AT.next ?_
            refine CG.seq ?_
            refine CG.condF (ht rfl) (dropF hx1) ?_
            refine CG.exit ?_
            refine AT.then_exit (AT.then_exit (AT.in_exit ?_))
            refine AT.in_normal ?_
            refine AT.next ?_
            refine CG.region ?_
            refine RG.op (ok_incN (dropL hx hN) (ht rfl) hI) rfl ?_
            refine RG.op (ok_move (ht rfl)) rfl ?_
            refine RG.nil ?_
            exact AT.round (LG.sub (ih (i1 + 1) x1 g1 ⟨dropS hx, h⟩) ⟨rfl, rfl, rfl, rfl, rfl, rfl, rfl, rfl, trivial⟩)
          · obtain ⟨hx1, h⟩ := h
            refine LG.unfold ?_
            refine CG.seq ?_
            refine CG.region ?_
            refine RG.op (ok_lss (ht rfl) (ht rfl)) rfl ?_
            refine RG.nil ?_
            refine AT.next ?_
            refine CG.seq ?_
            refine CG.condT (ht rfl) (dropT hx1) ?_
            refine CG.skip ?_
            refine AT.next ?_
            refine CG.seq ?_
            refine CG.block ?_
            refine CG.seq ?_
            refine CG.region ?_
            refine RG.op (ok_move (ht rfl)) rfl ?_
            refine RG.op (ok_indexAddr Tryz.underlying54 ti45 rfl (ht rfl) (ht rfl) (dropI hx1)) rfl ?_
            refine RG.op (ok_load ti45 rfl rfl (ht rfl)) rfl ?_
            refine RG.op (ok_assign (ht rfl)) rfl ?_
            refine RG.op (ok_assign (ht rfl)) rfl ?_
            refine RG.nil ?_
            refine AT.next ?_
            refine CG.seq ?_
            obtain ⟨e2, q_e2, h⟩ := bs h
            obtain ⟨r3, q_r3, h⟩ := bs h
            refine CG.draw (ts := [tPtr (rSl rpDTable) c.Tables, tD (rSl rpDTable) c.Tables, tD (rI .i64) (i1 : Int), tPtr rpDTable e2, tD rpDTable e2, tD (rSl rpDValue) e1, tD (rI .i64) nodes, tD (rI .i64) r3, tD (rI .i64) r3]) mixed rfl rfl
              ⟨⟨[⟨4, _, none⟩], _, rfl, ⟨rfl, trivial⟩, rfl, rfl, OpG.plain rfl (ok_fieldAddr fd24_0 rfl flDCatalog_0 rfl (ht rfl))⟩,
              ⟨⟨[⟨55, _, some 0⟩], _, rfl, ⟨rfl, trivial⟩, rfl, rfl, OpG.plain rfl (ok_load ti22 rfl rfl (ht rfl))⟩,
              ⟨⟨[⟨12, _, none⟩], _, rfl, ⟨rfl, trivial⟩, rfl, rfl, OpG.plain rfl (ok_move (ht rfl))⟩,
              ⟨⟨[⟨56, _, some 1⟩, ⟨57, _, some 2⟩], _, rfl, ⟨rfl, rfl, trivial⟩, rfl, rfl, OpG.plain rfl (ok_indexAddr Tryz.underlying22 ti53 rfl (ht rfl) (ht rfl) q_e2)⟩,
              ⟨⟨[⟨58, _, some 3⟩], _, rfl, ⟨rfl, trivial⟩, rfl, rfl, OpG.plain rfl (ok_load ti53 rfl rfl (ht rfl))⟩,
              ⟨⟨[⟨15, _, none⟩], _, rfl, ⟨rfl, trivial⟩, rfl, rfl, OpG.plain rfl (ok_move (ht rfl))⟩,
              ⟨⟨[⟨6, _, none⟩], _, rfl, ⟨rfl, trivial⟩, rfl, rfl, OpG.plain rfl (ok_load ti3 rfl rfl (ht rfl))⟩,
              ⟨⟨[⟨59, _, some 4⟩, ⟨60, _, some 5⟩, ⟨61, _, some 6⟩], _, rfl, ⟨rfl, rfl, rfl, trivial⟩, rfl, rfl, OpG.plain rfl (ok_call cb43 (f43_ok _ _ _ q_r3) ⟨(ht rfl), (ht rfl), (ht rfl), trivial⟩)⟩,
              ⟨⟨[⟨62, _, some 7⟩], _, rfl, ⟨rfl, trivial⟩, rfl, rfl, OpG.plain rfl (ok_assign (ht rfl))⟩,
              trivial⟩⟩⟩⟩⟩⟩⟩⟩⟩ ?_
            refine AT.next ?_
            refine CG.sjoin1 (Z := fun n => place_Lay_k1 i1 (place_Lay_l2 c nodes spread (place_Lay_l1 c nodes spread tl) i1 tl1) i2 e1 x1 n = some R) (Of := fun n => [bx rpDLayout 36 b1 (⟨[]⟩ : DLayout), bx rpOLayout_0 36 b2 (mkOLayout_0 (⟨[]⟩ : DLayout) (oslV (i.h 0).1 (i.h 0).2 r2.Parts.length)), nst (fun y : DBase => y.Tables) (rSl rpDValue) 27 54 45 (i.h 0).1 (i.h 0).2 r2.Parts.length g1 x1 none]) (Gf := fun n => [(4, tPtr rpDCatalog c), (6, tPtr (rI .i64) nodes), (8, tV (bptr b1 0)), (10, (tFun Tryz.prog (fun (x : Int) => [tD (rI .i64) x]) (fun (x : Int) => tD (rI .i64) x) (fun (x : Int) => (place_Lay_1 spread nodes) x))), (11, tV (bptr b2 0)), (12, tD (rI .i64) (i1 : Int)), (15, tD (rSl rpDValue) e1), (16, tD (rI .i64) n), (41, tD (rSl (rSl (rSl rpDValue))) b.Tables), (42, tD (rI .i64) (b.Tables.length : Int)), (43, tD (rI .i64) (i1 : Int)), (48, tD (rSl (rSl rpDValue)) e), (49, tD (rI .i64) (e.length : Int)), (50, tD (rI .i64) (i2 : Int))]) (fun n h => ?_) (fun K => ?_)
            · skip
              refine CG.region ?_
              refine RG.op (ok_loadH (r := rpOLayout_0) (y := mkOLayout_0 (⟨[]⟩ : DLayout) (oslV (i.h 0).1 (i.h 0).2 r2.Parts.length)) (v := oslV (i.h 0).1 (i.h 0).2 r2.Parts.length) ti36 rfl rfl (fun _ _ h => h.1) (.tail _ (.head _)) (ht rfl)) rfl ?_
              refine RG.op (ok_move (ht rfl)) rfl ?_
              refine RG.op (ok_move (ht rfl)) rfl ?_
              refine RG.op (ok_move (ht rfl)) rfl ?_
              refine RG.front2 ?_
              obtain ⟨x2, q_x2, h⟩ := bs h
              refine RG.callM [_] _ rfl cb44 (f44_n _ _ _ _ _ _ _ _ q_x2) ⟨(ht rfl), (ht rfl), (ht rfl), (ht rfl), trivial⟩ rfl (fun i3 => ?_)
              refine (show RG _ _ _ _ [nst (fun y : DBase => y.Tables) (rSl rpDValue) 27 54 45 (i.h 0).1 (i.h 0).2 r2.Parts.length i3.ng x2 none, bx rpDLayout 36 b1 (⟨[]⟩ : DLayout), bx rpOLayout_0 36 b2 (mkOLayout_0 (⟨[]⟩ : DLayout) (oslV (i.h 0).1 (i.h 0).2 r2.Parts.length))] ((72, tT []) :: _) from ?_)
              refine RG.nil ?_
              refine AT.in_normal ?_
              refine AT.next ?_
              refine CG.region ?_
              refine RG.op (ok_incN (dropL hx1 hN1) (ht rfl) hI) rfl ?_
              refine RG.op (ok_move (ht rfl)) rfl ?_
              refine RG.nil ?_
              refine AT.front2 ?_
              refine AT.front2 ?_
              exact AT.round (LG.sub (ih1 (i2 + 1) x2 i3.ng ⟨dropS hx1, h⟩) ⟨rfl, rfl, rfl, rfl, rfl, rfl, rfl, rfl, rfl, rfl, rfl, rfl, trivial⟩)
            · skip
              refine CG.seq ?_
              refine CG.region ?_
              refine RG.op (ok_move (ht rfl)) rfl ?_
              refine RG.op (ok_eqlI (ht rfl) hI) rfl ?_
              refine RG.nil ?_
              refine AT.next ?_
              refine CG.cond (ht rfl) (fun hc => ?_) (fun hc => ?_)
              · have h := ct h hc
                refine CG.region ?_
                refine RG.op (ok_move (ht rfl)) rfl ?_
                refine RG.op (ok_move (ht rfl)) rfl ?_
                obtain ⟨r4, q_r4, h⟩ := bs h
                refine RG.op (ok_callV (args := (fun (x : Int) => [tD (rI .i64) x])) (res := (fun (x : Int) => tD (rI .i64) x)) (f := (fun (x : Int) => (place_Lay_1 spread nodes) x)) (x := (((i2 : Int)) : Int)) (ht rfl) q_r4 ⟨(ht rfl), trivial⟩) rfl ?_
                refine RG.op (ok_assign (ht rfl)) rfl ?_
                refine RG.nil ?_
                exact AT.sub (K r4 h) ⟨rfl, rfl, rfl, rfl, rfl, rfl, rfl, rfl, rfl, rfl, rfl, rfl, rfl, rfl, trivial⟩
              · have h := cf h hc
                refine CG.skip ?_
                exact AT.sub (K r3 h) ⟨rfl, rfl, rfl, rfl, rfl, rfl, rfl, rfl, rfl, rfl, rfl, rfl, rfl, rfl, trivial⟩

end Go.Proofs.YtegigakgcnhiaaaGreatDoor

