/- Facts of this claim: P5. -/
import Derived.Test.YtdhledkpgaeoaaaGreatDoorKeT
import Derived.Test.YtdhledkpgaeoaaaGreatDoorKeP4
namespace Go.Proofs.YtdhledkpgaeoaaaGreatDoor
open Go

set_option maxRecDepth 100000 in
theorem f90_ok (n : Int) {R : DValue} (h : ref02_Int n = some R) : Spec Tryz.prog 90 [tD (rI .i64) n] (tD rpDValue R) := by
  refine Spec.of Tryz.func90 rfl rfl rfl fun w0 S0 => ?_
  refine CG.seq ?_
  refine CG.region ?_
  refine RG.alloc (r := rpDValue) (x := (⟨(0 : Int), (0 : Int), (0 : Int), []⟩ : DValue)) ti33 (fun _ => zrDValue _) rfl (fun b => ?_)
  refine RG.nil ?_
  refine AT.next ?_
  refine CG.seq ?_
  refine CG.region ?_
  refine RG.op (ok_move (ht rfl)) rfl ?_
  refine RG.op (ok_build (y := (⟨(2 : Int), n, (0 : Int), []⟩ : DValue)) ti33 fs33 zrDValue (⟨_, _, _, _, _, rfl, sfDValue_0, rfl, hI, ⟨_, _, _, _, _, rfl, sfDValue_1, rfl, (ht rfl), rfl⟩⟩)) rfl ?_
  refine RG.storeB ti33 rfl sfld_whole rfl (ht rfl) (ht rfl) ?_
  refine RG.settleB 2 rfl ?_
  refine RG.nil ?_
  refine AT.next ?_
  refine CG.ret ?_
  cases so h
  exact AT.ret1c rfl ti33 rfl rfl rfl

set_option maxRecDepth 100000 in
theorem f128_ok (v : DValue) {R : Bool} (h : ref04_Term v = some R) : Spec Tryz.prog 128 [tD rpDValue v] (tD rB R) := by
  refine Spec.of Tryz.func128 rfl rfl rfl fun w0 S0 => ?_
  refine CG.seq ?_
  refine CG.region ?_
  refine RG.op (ok_box (ht rfl)) rfl ?_
  refine RG.op (ok_assign hB) rfl ?_
  refine RG.nil ?_
  refine AT.next ?_
  refine CG.seq ?_
  refine CG.region ?_
  refine RG.op (ok_load ti33 rfl rfl (ht rfl)) rfl ?_
  obtain ⟨r, q_r, h⟩ := bs h
  refine RG.op (ok_call cb88 (f88_ok _ q_r) ⟨(ht rfl), trivial⟩) rfl ?_
  refine RG.op (ok_move (ht rfl)) rfl ?_
  refine RG.opGt rfl rfl rfl rfl (fun hg => ok_fieldAddr fd33_0 rfl flDValue_0 rfl (ht rfl)) ?_
  refine RG.opGt rfl rfl rfl rfl (fun hg => ok_load ti3 rfl rfl (htO rfl hg)) ?_
  refine RG.opGt rfl rfl rfl rfl (fun hg => ok_eqlI (htO rfl hg) hI) ?_
  refine RG.opGt rfl rfl rfl rfl (fun hg => ok_move (htO rfl hg)) ?_
  refine RG.opGof rfl rfl rfl rfl (fun hg => ok_fieldAddr fd33_0 rfl flDValue_0 rfl (ht rfl)) ?_
  refine RG.opGof rfl rfl rfl rfl (fun hg => ok_load ti3 rfl rfl (htO rfl hg)) ?_
  refine RG.opGof rfl rfl rfl rfl (fun hg => ok_eqlI (htO rfl hg) hI) ?_
  refine RG.opGt rfl rfl rfl rfl (fun hg => ok_pickOr (htO rfl hg) (fun hb => (htO rfl (andi hg (noti hb))))) ?_
  refine RG.op (ok_pickAnd (ht rfl) (fun hb => (htO rfl hb))) rfl ?_
  refine RG.op (ok_assign (ht rfl)) rfl ?_
  refine RG.nil ?_
  refine AT.next ?_
  refine CG.ret ?_
  cases so h
  exact AT.ret1 rfl rfl

set_option maxRecDepth 100000 in
theorem f151_ok (a1 : DBig) (b : DBig) {R : Bool} (h : ref04_less a1 b = some R) : Spec Tryz.prog 151 [tD rpDBig a1, tD rpDBig b] (tD rB R) := by
  refine Spec.of Tryz.func151 rfl rfl rfl fun w0 S0 => ?_
  refine CG.seq ?_
  refine CG.region ?_
  refine RG.op (ok_box (ht rfl)) rfl ?_
  refine RG.op (ok_box (ht rfl)) rfl ?_
  refine RG.op (ok_assign hB) rfl ?_
  refine RG.nil ?_
  refine AT.next ?_
  refine CG.seq ?_
  refine CG.seq ?_
  refine CG.region ?_
  refine RG.op (ok_assign hI) rfl ?_
  refine RG.nil ?_
  refine AT.next ?_
  refine CG.block ?_
  refine CG.loop ?_
  refine LG.sub (LG.ind1 (Z := fun n i => ref04_less_l1 a1 b n i = some R) (Of := fun i => []) (Gf := fun i => [(2, tPtr rpDBig a1), (3, tPtr rpDBig b), (5, tD (rI .i64) i)]) (fun i h => nn h) (fun n ih i h => ?_) FUEL (7 : Int) h) ⟨rfl, rfl, rfl, trivial⟩
  refine LG.unfold ?_
  refine CG.seq ?_
  refine CG.seq ?_
  refine CG.region ?_
  refine RG.op (ok_move (ht rfl)) rfl ?_
  refine RG.op (ok_geq (ht rfl) hI) rfl ?_
  refine RG.nil ?_
  refine AT.next ?_
  refine CG.cond (ht rfl) (fun hc => ?_) (fun hc => ?_)
  · have h := ct h hc
    refine CG.skip ?_
    refine AT.next ?_
    refine CG.seq ?_
    refine CG.block ?_
    refine CG.seq ?_
    obtain ⟨e, q_e, h⟩ := bs h
    obtain ⟨e1, q_e1, h⟩ := bs h
    refine CG.draw (ts := [tD (rI .i64) i, tPtr (rArr (rI .u64) 8) a1.D, tPtr (rI .u64) e, tD (rI .u64) e, tD (rI .i64) i, tPtr (rArr (rI .u64) 8) b.D, tPtr (rI .u64) e1, tD (rI .u64) e1, tD rB (e != e1)]) mixed rfl rfl
      ⟨⟨[⟨5, _, none⟩], _, rfl, ⟨rfl, trivial⟩, rfl, rfl, OpG.plain rfl (ok_move (ht rfl))⟩,
      ⟨⟨[⟨2, _, none⟩], _, rfl, ⟨rfl, trivial⟩, rfl, rfl, OpG.plain rfl (ok_fieldAddr fd136_0 rfl flDBig_0 rfl (ht rfl))⟩,
      ⟨⟨[⟨11, _, some 1⟩, ⟨10, _, some 0⟩], _, rfl, ⟨rfl, rfl, trivial⟩, rfl, rfl, OpG.plain rfl (ok_indexAddrP Tryz.underlying134 ti31 rfl (ht rfl) (ht rfl) q_e)⟩,
      ⟨⟨[⟨12, _, some 2⟩], _, rfl, ⟨rfl, trivial⟩, rfl, rfl, OpG.plain rfl (ok_load ti31 rfl rfl (ht rfl))⟩,
      ⟨⟨[⟨5, _, none⟩], _, rfl, ⟨rfl, trivial⟩, rfl, rfl, OpG.plain rfl (ok_move (ht rfl))⟩,
      ⟨⟨[⟨3, _, none⟩], _, rfl, ⟨rfl, trivial⟩, rfl, rfl, OpG.plain rfl (ok_fieldAddr fd136_0 rfl flDBig_0 rfl (ht rfl))⟩,
      ⟨⟨[⟨15, _, some 5⟩, ⟨14, _, some 4⟩], _, rfl, ⟨rfl, rfl, trivial⟩, rfl, rfl, OpG.plain rfl (ok_indexAddrP Tryz.underlying134 ti31 rfl (ht rfl) (ht rfl) q_e1)⟩,
      ⟨⟨[⟨16, _, some 6⟩], _, rfl, ⟨rfl, trivial⟩, rfl, rfl, OpG.plain rfl (ok_load ti31 rfl rfl (ht rfl))⟩,
      ⟨⟨[⟨13, _, some 3⟩, ⟨17, _, some 7⟩], _, rfl, ⟨rfl, rfl, trivial⟩, rfl, rfl, OpG.plain rfl (ok_neqI (ht rfl) (ht rfl))⟩,
      trivial⟩⟩⟩⟩⟩⟩⟩⟩⟩ ?_
    refine AT.next ?_
    refine CG.cond (ht rfl) (fun hc => ?_) (fun hc => ?_)
    · have h := ct h hc
      refine CG.seq ?_
      refine CG.draw (ts := [tD (rI .i64) i, tPtr (rArr (rI .u64) 8) a1.D, tPtr (rI .u64) e, tD (rI .u64) e, tD (rI .i64) i, tPtr (rArr (rI .u64) 8) b.D, tPtr (rI .u64) e1, tD (rI .u64) e1, tD rB (decide (e < e1)), tD rB (decide (e < e1))]) mixed rfl rfl
        ⟨⟨[⟨5, _, none⟩], _, rfl, ⟨rfl, trivial⟩, rfl, rfl, OpG.plain rfl (ok_move (ht rfl))⟩,
        ⟨⟨[⟨2, _, none⟩], _, rfl, ⟨rfl, trivial⟩, rfl, rfl, OpG.plain rfl (ok_fieldAddr fd136_0 rfl flDBig_0 rfl (ht rfl))⟩,
        ⟨⟨[⟨20, _, some 1⟩, ⟨19, _, some 0⟩], _, rfl, ⟨rfl, rfl, trivial⟩, rfl, rfl, OpG.plain rfl (ok_indexAddrP Tryz.underlying134 ti31 rfl (ht rfl) (ht rfl) q_e)⟩,
        ⟨⟨[⟨21, _, some 2⟩], _, rfl, ⟨rfl, trivial⟩, rfl, rfl, OpG.plain rfl (ok_load ti31 rfl rfl (ht rfl))⟩,
        ⟨⟨[⟨5, _, none⟩], _, rfl, ⟨rfl, trivial⟩, rfl, rfl, OpG.plain rfl (ok_move (ht rfl))⟩,
        ⟨⟨[⟨3, _, none⟩], _, rfl, ⟨rfl, trivial⟩, rfl, rfl, OpG.plain rfl (ok_fieldAddr fd136_0 rfl flDBig_0 rfl (ht rfl))⟩,
        ⟨⟨[⟨24, _, some 5⟩, ⟨23, _, some 4⟩], _, rfl, ⟨rfl, rfl, trivial⟩, rfl, rfl, OpG.plain rfl (ok_indexAddrP Tryz.underlying134 ti31 rfl (ht rfl) (ht rfl) q_e1)⟩,
        ⟨⟨[⟨25, _, some 6⟩], _, rfl, ⟨rfl, trivial⟩, rfl, rfl, OpG.plain rfl (ok_load ti31 rfl rfl (ht rfl))⟩,
        ⟨⟨[⟨22, _, some 3⟩, ⟨26, _, some 7⟩], _, rfl, ⟨rfl, rfl, trivial⟩, rfl, rfl, OpG.plain rfl (ok_lss (ht rfl) (ht rfl))⟩,
        ⟨⟨[⟨27, _, some 8⟩], _, rfl, ⟨rfl, trivial⟩, rfl, rfl, OpG.plain rfl (ok_assign (ht rfl))⟩,
        trivial⟩⟩⟩⟩⟩⟩⟩⟩⟩⟩ ?_
      refine AT.next ?_
      refine CG.ret ?_
      refine AT.in_ret (AT.then_ret (AT.then_ret (AT.in_ret (AT.then_ret ?_))))
      cases so h
      exact AT.ret1 rfl rfl
    · have h := cf h hc
      refine CG.skip ?_
      refine AT.in_normal ?_
      refine AT.next ?_
      refine CG.region ?_
      refine RG.op (ok_move (ht rfl)) rfl ?_
      refine RG.op (ok_sub (ht rfl) hI) rfl ?_
      refine RG.op (ok_assign (ht rfl)) rfl ?_
      refine RG.nil ?_
      exact AT.round (LG.sub (ih (IntKind.i64.wrap (i - (1 : Int))) h) ⟨rfl, rfl, rfl, trivial⟩)
  · have h := cf h hc
    refine CG.exit ?_
    refine AT.then_exit (AT.then_exit (AT.in_exit ?_))
    refine AT.next ?_
    refine CG.seq ?_
    refine CG.region ?_
    refine RG.op (ok_assign hB) rfl ?_
    refine RG.nil ?_
    refine AT.next ?_
    refine CG.ret ?_
    cases so h
    exact AT.ret1 rfl rfl

set_option maxRecDepth 100000 in
theorem f152_ok (a1 : DBig) {R : Bool} (h : ref04_zero a1 = some R) : Spec Tryz.prog 152 [tD rpDBig a1] (tD rB R) := by
  refine Spec.of Tryz.func152 rfl rfl rfl fun w0 S0 => ?_
  refine CG.seq ?_
  refine CG.region ?_
  refine RG.op (ok_box (ht rfl)) rfl ?_
  refine RG.op (ok_assign hB) rfl ?_
  refine RG.nil ?_
  refine AT.next ?_
  refine CG.seq ?_
  refine CG.region ?_
  refine RG.op (ok_fieldAddr fd136_0 rfl flDBig_0 rfl (ht rfl)) rfl ?_
  refine RG.op (ok_load ti134 rfl rfl (ht rfl)) rfl ?_
  refine RG.op (ok_buildAZ (r := (rI .u64)) (x := (List.replicate 8 (0 : Int))) Tryz.underlying134 ti31 rfl ti134 (fun _ => arr_zero (r := (rI .u64)) 8 (fun _ => rfl) _) rfl) rfl ?_
  refine RG.op (ok_eqlD eq134 (ht rfl) (ht rfl)) rfl ?_
  refine RG.op (ok_assign (ht rfl)) rfl ?_
  refine RG.nil ?_
  refine AT.next ?_
  refine CG.ret ?_
  cases so h
  exact AT.ret1 rfl rfl

set_option maxRecDepth 100000 in
theorem f129_ok (a1 : DBig) (b : DBig) {R : DBig} (h : ref04_Plus a1 b = some R) : Spec Tryz.prog 129 [tD rpDBig a1, tD rpDBig b] (tD rpDBig R) := by
  refine Spec.of Tryz.func129 rfl rfl rfl fun w0 S0 => ?_
  refine CG.seq ?_
  refine CG.region ?_
  refine RG.boxO (ht rfl) rfl (fun b1 => ?_)
  refine RG.boxO (ht rfl) rfl (fun b2 => ?_)
  refine RG.alloc (r := rpDBig) (x := (⟨(List.replicate 8 (0 : Int)), false⟩ : DBig)) ti136 (fun _ => zrDBig _) rfl (fun b3 => ?_)
  refine RG.nil ?_
  refine AT.next ?_
  refine CG.sjoin2 (Z := fun a2 b4 => ref04_Plus_k1 a2 b4 = some R) (Of := fun a2 b4 => [bx rpDBig 136 b1 a2, bx rpDBig 136 b2 b4, bx rpDBig 136 b3 (⟨(List.replicate 8 (0 : Int)), false⟩ : DBig)]) (Gf := fun a2 b4 => [(2, tV (bptr b1 0)), (3, tV (bptr b2 0)), (4, tV (bptr b3 0))]) (fun a2 b4 h => ?_) (fun K => ?_)
  · skip
    refine CG.seq ?_
    refine CG.region ?_
    refine RG.op (ok_fieldAddrC (n := 8) fd136_1 rfl (ht rfl) rfl) rfl ?_
    refine RG.op (ok_loadB ti4 rfl rfl flDBig_1 (.head _) (ht rfl)) rfl ?_
    refine RG.op (ok_build (y := (⟨(List.replicate 8 (0 : Int)), a2.Below⟩ : DBig)) ti136 fs136 zrDBig (⟨_, _, _, _, _, rfl, sfDBig_1, rfl, (ht rfl), rfl⟩)) rfl ?_
    refine RG.alloc (r := rpDBig) (x := (⟨(List.replicate 8 (0 : Int)), false⟩ : DBig)) ti136 (fun _ => zrDBig _) rfl (fun b5 => ?_)
    refine RG.storeB ti136 rfl sfld_whole rfl (ht rfl) (ht rfl) ?_
    refine RG.nil ?_
    refine AT.next ?_
    refine CG.seq ?_
    refine CG.region ?_
    refine RG.op (ok_assign hI) rfl ?_
    refine RG.nil ?_
    refine AT.next ?_
    refine CG.seq ?_
    refine CG.seq ?_
    refine CG.region ?_
    refine RG.op (ok_move hI) rfl ?_
    refine RG.nil ?_
    refine AT.next ?_
    refine CG.block ?_
    refine CG.loop ?_
    refine LG.front3 ?_
    refine LG.front3 ?_
    refine LG.front3 ?_
    refine LG.sub (LG.nat3 (Z := fun k i carry out => (8 - i = k) ∧ ref04_Plus_l1 a2 b4 k i carry out = some R) (Of := fun _ i carry out => [bx rpDBig 136 b1 a2, bx rpDBig 136 b2 b4, bx rpDBig 136 b3 (⟨(List.replicate 8 (0 : Int)), false⟩ : DBig), bx rpDBig 136 b5 out]) (Gf := fun _ i carry out => [(2, tV (bptr b1 0)), (3, tV (bptr b2 0)), (4, tV (bptr b3 0)), (5, tV (bptr b5 0)), (6, tD (rI .u64) carry), (25, tD (rI .i64) (i : Int))]) (fun i carry out h => ?_) (fun k1 ih i carry out h => ?_) 8 0 (0 : Int) (⟨(List.replicate 8 (0 : Int)), a2.Below⟩ : DBig) ⟨rfl, h⟩) ⟨rfl, rfl, rfl, rfl, rfl, rfl, trivial⟩
    · obtain ⟨hx, h⟩ := h
      refine LG.unfold ?_
      refine CG.seq ?_
      refine CG.region ?_
      refine RG.op (ok_lss (ht rfl) hI) rfl ?_
      refine RG.nil ?_
      refine AT.next ?_
      refine CG.seq ?_
      refine CG.condF (ht rfl) (natF hx) ?_
      refine CG.exit ?_
      refine AT.then_exit (AT.then_exit (AT.in_exit ?_))
      refine AT.next ?_
      refine CG.seq ?_
      refine CG.region ?_
      refine RG.op (ok_fieldAddrC (n := 8) fd136_1 rfl (ht rfl) rfl) rfl ?_
      refine RG.op (ok_loadB ti4 rfl rfl flDBig_1 (.tail _ (.tail _ (.tail _ (.head _)))) (ht rfl)) rfl ?_
      refine RG.op (ok_move (ht rfl)) rfl ?_
      obtain ⟨t, q_t, h⟩ := bs h
      refine RG.opGt rfl rfl rfl rfl (fun hg => ok_loadB ti136 rfl rfl fld_whole (.tail _ (.tail _ (.tail _ (.head _)))) (ht rfl)) ?_
      obtain ⟨r, h1t, h0t⟩ := og q_t
      have q_rg := fun hb => (h1t hb).1
      refine RG.opGt rfl rfl rfl rfl (fun hg => ok_call cb152 (f152_ok _ (q_rg hg)) ⟨(htO rfl hg), trivial⟩) ?_
      refine RG.opGt rfl rfl rfl rfl (fun hg => ok_not (htO rfl hg)) ?_
      refine RG.op (ok_pickAndM (ht rfl) (fun hb => (htO rfl hb)) (fun hb => (h1t hb).2) h0t) rfl ?_
      refine RG.op (ok_fieldAddrC (n := 8) fd136_1 rfl (ht rfl) rfl) rfl ?_
      refine RG.front3 ?_
      refine RG.storeB ti4 rfl sfDBig_1 rfl (ht rfl) (ht rfl) ?_
      refine RG.nil ?_
      refine AT.next ?_
      refine CG.seq ?_
      refine CG.region ?_
      refine RG.op (ok_loadB ti136 rfl rfl fld_whole (.head _) (ht rfl)) rfl ?_
      refine RG.front3 ?_
      refine RG.storeB ti136 rfl sfld_whole rfl (ht rfl) (ht rfl) ?_
      refine RG.settleB 4 rfl ?_
      refine RG.nil ?_
      refine AT.next ?_
      refine CG.ret ?_
      refine AT.drop ?_
      refine AT.drop ?_
      refine AT.drop ?_
      cases so h
      exact AT.ret1c rfl ti136 rfl rfl rfl
    · obtain ⟨hx, h⟩ := h
      refine LG.unfold ?_
      refine CG.seq ?_
      refine CG.region ?_
      refine RG.op (ok_lss (ht rfl) hI) rfl ?_
      refine RG.nil ?_
      refine AT.next ?_
      refine CG.seq ?_
      refine CG.condT (ht rfl) (natT hx) ?_
      refine CG.skip ?_
      refine AT.next ?_
      refine CG.seq ?_
      refine CG.block ?_
      refine CG.seq ?_
      refine CG.region ?_
      refine RG.op (ok_move (ht rfl)) rfl ?_
      refine RG.op (ok_assign (ht rfl)) rfl ?_
      refine RG.nil ?_
      refine AT.next ?_
      refine CG.seq ?_
      refine CG.region ?_
      refine RG.op (ok_fieldAddrC (n := 8) fd136_1 rfl (ht rfl) rfl) rfl ?_
      refine RG.op (ok_loadB ti4 rfl rfl flDBig_1 (.head _) (ht rfl)) rfl ?_
      refine RG.op (ok_fieldAddrC (n := 8) fd136_1 rfl (ht rfl) rfl) rfl ?_
      refine RG.op (ok_loadB ti4 rfl rfl flDBig_1 (.tail _ (.head _)) (ht rfl)) rfl ?_
      refine RG.op (ok_eqlB Tryz.underlying4 (ht rfl) (ht rfl)) rfl ?_
      refine RG.nil ?_
      refine AT.next ?_
      refine CG.cond (ht rfl) (fun hc => ?_) (fun hc => ?_)
      · have h := ct h hc
        refine CG.seq ?_
        obtain ⟨u, q_u, h⟩ := bs h
        obtain ⟨e1, q_e1, h⟩ := bs h
        obtain ⟨u1, q_u1, h⟩ := bs h
        obtain ⟨e2, q_e2, h⟩ := bs h
        refine CG.draw (ts := [tD (rI .i64) (i : Int), tV (bptr b1 0), tV (bptr b1 (0 + (i : Int).toNat * 1)), tD (rI .u64) e1, tD (rI .i64) (i : Int), tV (bptr b2 0), tV (bptr b2 (0 + (i : Int).toNat * 1)), tD (rI .u64) e2, tD (rI .u64) (IntKind.u64.wrap (e1 + e2)), tD (rI .u64) carry, tD (rI .u64) (IntKind.u64.wrap ((IntKind.u64.wrap (e1 + e2)) + carry)), tD (rI .u64) (IntKind.u64.wrap ((IntKind.u64.wrap (e1 + e2)) + carry))]) mixed rfl rfl
          ⟨⟨[⟨7, _, none⟩], _, rfl, ⟨rfl, trivial⟩, rfl, rfl, OpG.plain rfl (ok_move (ht rfl))⟩,
          ⟨⟨[⟨2, _, none⟩], _, rfl, ⟨rfl, trivial⟩, rfl, rfl, OpG.plain rfl (ok_fieldAddrC (n := 0) fd136_0 rfl (ht rfl) rfl)⟩,
          ⟨⟨[⟨34, _, some 1⟩, ⟨33, _, some 0⟩], _, rfl, ⟨rfl, rfl, trivial⟩, rfl, rfl, OpG.plain rfl (ok_indexAddrG (n := 8) (off := 0) Tryz.underlying134 ti31 (ht rfl) (ht rfl) (inR_some q_u))⟩,
          ⟨⟨[⟨35, _, some 2⟩], _, rfl, ⟨rfl, trivial⟩, rfl, rfl, OpG.plain rfl (ok_loadG (q := (rI .u64)) (off := 0 + (i : Int).toNat * 1) ti31 rfl rfl (.head _) (fldx_idx (fldx_fld fldx_whole flDBig_0 rfl rfl) q_e1) (ht rfl))⟩,
          ⟨⟨[⟨7, _, none⟩], _, rfl, ⟨rfl, trivial⟩, rfl, rfl, OpG.plain rfl (ok_move (ht rfl))⟩,
          ⟨⟨[⟨3, _, none⟩], _, rfl, ⟨rfl, trivial⟩, rfl, rfl, OpG.plain rfl (ok_fieldAddrC (n := 0) fd136_0 rfl (ht rfl) rfl)⟩,
          ⟨⟨[⟨38, _, some 5⟩, ⟨37, _, some 4⟩], _, rfl, ⟨rfl, rfl, trivial⟩, rfl, rfl, OpG.plain rfl (ok_indexAddrG (n := 8) (off := 0) Tryz.underlying134 ti31 (ht rfl) (ht rfl) (inR_some q_u1))⟩,
          ⟨⟨[⟨39, _, some 6⟩], _, rfl, ⟨rfl, trivial⟩, rfl, rfl, OpG.plain rfl (ok_loadG (q := (rI .u64)) (off := 0 + (i : Int).toNat * 1) ti31 rfl rfl (.tail _ (.head _)) (fldx_idx (fldx_fld fldx_whole flDBig_0 rfl rfl) q_e2) (ht rfl))⟩,
          ⟨⟨[⟨36, _, some 3⟩, ⟨40, _, some 7⟩], _, rfl, ⟨rfl, rfl, trivial⟩, rfl, rfl, OpG.plain rfl (ok_add (ht rfl) (ht rfl))⟩,
          ⟨⟨[⟨6, _, none⟩], _, rfl, ⟨rfl, trivial⟩, rfl, rfl, OpG.plain rfl (ok_move (ht rfl))⟩,
          ⟨⟨[⟨41, _, some 8⟩, ⟨42, _, some 9⟩], _, rfl, ⟨rfl, rfl, trivial⟩, rfl, rfl, OpG.plain rfl (ok_add (ht rfl) (ht rfl))⟩,
          ⟨⟨[⟨43, _, some 10⟩], _, rfl, ⟨rfl, trivial⟩, rfl, rfl, OpG.plain rfl (ok_assign (ht rfl))⟩,
          trivial⟩⟩⟩⟩⟩⟩⟩⟩⟩⟩⟩⟩ ?_
        refine AT.next ?_
        refine CG.region ?_
        refine RG.op (ok_move (ht rfl)) rfl ?_
        refine RG.op (ok_move (ht rfl)) rfl ?_
        refine RG.op (ok_rem (ht rfl) hI (by decide)) rfl ?_
        refine RG.op (ok_move (ht rfl)) rfl ?_
        refine RG.op (ok_shr (ht rfl) hI (by decide)) rfl ?_
        refine RG.op (ok_fieldAddrC (n := 0) fd136_0 rfl (ht rfl) rfl) rfl ?_
        obtain ⟨u2, q_u2, h⟩ := bs h
        refine RG.op (ok_indexAddrG (n := 8) (off := 0) Tryz.underlying134 ti31 (ht rfl) (ht rfl) (inR_some q_u2)) rfl ?_
        refine RG.eff0 (EffOK.fr3 (eff_storeG (q := (rI .u64)) (off := 0 + (i : Int).toNat * 1) (y0 := (((IntKind.u64.wrap ((IntKind.u64.wrap (e1 + e2)) + carry))).tmod (4294967296 : Int))) ti31 rfl (sfx_comp (off := 0) (fldx_fld fldx_whole flDBig_0 rfl rfl) (sfx_elem (inR_some q_u2)) (sfx_of sfDBig_0) (elem_fits (inR_some q_u2)) rfl) (fit_arr (d := 0) (sz := 1) (n := 8) (inR_some q_u2) rfl) (ht rfl) (ht rfl))) (fun _ => ?_)
        refine (show RG _ _ _ _ [bx rpDBig 136 b5 ({ out with D := (out.D.set (i : Int).toNat (((IntKind.u64.wrap ((IntKind.u64.wrap (e1 + e2)) + carry))).tmod (4294967296 : Int))) } : DBig), bx rpDBig 136 b1 a2, bx rpDBig 136 b2 b4, bx rpDBig 136 b3 (⟨(List.replicate 8 (0 : Int)), false⟩ : DBig)] _ from ?_)
        refine RG.op (ok_assign (ht rfl)) rfl ?_
        refine RG.nil ?_
        refine AT.in_normal ?_
        refine AT.next ?_
        refine CG.region ?_
        refine RG.op (ok_incN (natL hx (by decide)) (ht rfl) hI) rfl ?_
        refine RG.op (ok_move (ht rfl)) rfl ?_
        refine RG.nil ?_
        refine AT.front3 ?_
        refine AT.front3 ?_
        refine AT.front3 ?_
        exact AT.round (LG.sub (ih (i + 1) (((IntKind.u64.wrap ((IntKind.u64.wrap (e1 + e2)) + carry))).fdiv (2 ^ (min (Int.toNat (32 : Int)) IntKind.u64.bits))) ({ out with D := (out.D.set (i : Int).toNat (((IntKind.u64.wrap ((IntKind.u64.wrap (e1 + e2)) + carry))).tmod (4294967296 : Int))) } : DBig) ⟨natS hx, h⟩) ⟨rfl, rfl, rfl, rfl, rfl, rfl, trivial⟩)
      · have h := cf h hc
        refine CG.seq ?_
        obtain ⟨u3, q_u3, h⟩ := bs h
        obtain ⟨e3, q_e3, h⟩ := bs h
        obtain ⟨u4, q_u4, h⟩ := bs h
        obtain ⟨e4, q_e4, h⟩ := bs h
        refine CG.draw (ts := [tD (rI .i64) (i : Int), tV (bptr b1 0), tV (bptr b1 (0 + (i : Int).toNat * 1)), tD (rI .u64) e3, tD (rI .u64) (IntKind.u64.wrap (e3 + (4294967296 : Int))), tD (rI .i64) (i : Int), tV (bptr b2 0), tV (bptr b2 (0 + (i : Int).toNat * 1)), tD (rI .u64) e4, tD (rI .u64) (IntKind.u64.wrap ((IntKind.u64.wrap (e3 + (4294967296 : Int))) - e4)), tD (rI .u64) carry, tD (rI .u64) (IntKind.u64.wrap ((IntKind.u64.wrap ((IntKind.u64.wrap (e3 + (4294967296 : Int))) - e4)) - carry)), tD (rI .u64) (IntKind.u64.wrap ((IntKind.u64.wrap ((IntKind.u64.wrap (e3 + (4294967296 : Int))) - e4)) - carry))]) mixed rfl rfl
          ⟨⟨[⟨7, _, none⟩], _, rfl, ⟨rfl, trivial⟩, rfl, rfl, OpG.plain rfl (ok_move (ht rfl))⟩,
          ⟨⟨[⟨2, _, none⟩], _, rfl, ⟨rfl, trivial⟩, rfl, rfl, OpG.plain rfl (ok_fieldAddrC (n := 0) fd136_0 rfl (ht rfl) rfl)⟩,
          ⟨⟨[⟨52, _, some 1⟩, ⟨51, _, some 0⟩], _, rfl, ⟨rfl, rfl, trivial⟩, rfl, rfl, OpG.plain rfl (ok_indexAddrG (n := 8) (off := 0) Tryz.underlying134 ti31 (ht rfl) (ht rfl) (inR_some q_u3))⟩,
          ⟨⟨[⟨53, _, some 2⟩], _, rfl, ⟨rfl, trivial⟩, rfl, rfl, OpG.plain rfl (ok_loadG (q := (rI .u64)) (off := 0 + (i : Int).toNat * 1) ti31 rfl rfl (.head _) (fldx_idx (fldx_fld fldx_whole flDBig_0 rfl rfl) q_e3) (ht rfl))⟩,
          ⟨⟨[⟨54, _, some 3⟩], _, rfl, ⟨rfl, trivial⟩, rfl, rfl, OpG.plain rfl (ok_add (ht rfl) hI)⟩,
          ⟨⟨[⟨7, _, none⟩], _, rfl, ⟨rfl, trivial⟩, rfl, rfl, OpG.plain rfl (ok_move (ht rfl))⟩,
          ⟨⟨[⟨3, _, none⟩], _, rfl, ⟨rfl, trivial⟩, rfl, rfl, OpG.plain rfl (ok_fieldAddrC (n := 0) fd136_0 rfl (ht rfl) rfl)⟩,
          ⟨⟨[⟨57, _, some 6⟩, ⟨56, _, some 5⟩], _, rfl, ⟨rfl, rfl, trivial⟩, rfl, rfl, OpG.plain rfl (ok_indexAddrG (n := 8) (off := 0) Tryz.underlying134 ti31 (ht rfl) (ht rfl) (inR_some q_u4))⟩,
          ⟨⟨[⟨58, _, some 7⟩], _, rfl, ⟨rfl, trivial⟩, rfl, rfl, OpG.plain rfl (ok_loadG (q := (rI .u64)) (off := 0 + (i : Int).toNat * 1) ti31 rfl rfl (.tail _ (.head _)) (fldx_idx (fldx_fld fldx_whole flDBig_0 rfl rfl) q_e4) (ht rfl))⟩,
          ⟨⟨[⟨55, _, some 4⟩, ⟨59, _, some 8⟩], _, rfl, ⟨rfl, rfl, trivial⟩, rfl, rfl, OpG.plain rfl (ok_sub (ht rfl) (ht rfl))⟩,
          ⟨⟨[⟨6, _, none⟩], _, rfl, ⟨rfl, trivial⟩, rfl, rfl, OpG.plain rfl (ok_move (ht rfl))⟩,
          ⟨⟨[⟨60, _, some 9⟩, ⟨61, _, some 10⟩], _, rfl, ⟨rfl, rfl, trivial⟩, rfl, rfl, OpG.plain rfl (ok_sub (ht rfl) (ht rfl))⟩,
          ⟨⟨[⟨62, _, some 11⟩], _, rfl, ⟨rfl, trivial⟩, rfl, rfl, OpG.plain rfl (ok_assign (ht rfl))⟩,
          trivial⟩⟩⟩⟩⟩⟩⟩⟩⟩⟩⟩⟩⟩ ?_
        refine AT.next ?_
        refine CG.region ?_
        refine RG.op (ok_move (ht rfl)) rfl ?_
        refine RG.op (ok_move (ht rfl)) rfl ?_
        refine RG.op (ok_rem (ht rfl) hI (by decide)) rfl ?_
        refine RG.op (ok_move (ht rfl)) rfl ?_
        refine RG.op (ok_shr (ht rfl) hI (by decide)) rfl ?_
        refine RG.op (ok_sub hI (ht rfl)) rfl ?_
        refine RG.op (ok_fieldAddrC (n := 0) fd136_0 rfl (ht rfl) rfl) rfl ?_
        obtain ⟨u5, q_u5, h⟩ := bs h
        refine RG.op (ok_indexAddrG (n := 8) (off := 0) Tryz.underlying134 ti31 (ht rfl) (ht rfl) (inR_some q_u5)) rfl ?_
        refine RG.eff0 (EffOK.fr3 (eff_storeG (q := (rI .u64)) (off := 0 + (i : Int).toNat * 1) (y0 := (((IntKind.u64.wrap ((IntKind.u64.wrap ((IntKind.u64.wrap (e3 + (4294967296 : Int))) - e4)) - carry))).tmod (4294967296 : Int))) ti31 rfl (sfx_comp (off := 0) (fldx_fld fldx_whole flDBig_0 rfl rfl) (sfx_elem (inR_some q_u5)) (sfx_of sfDBig_0) (elem_fits (inR_some q_u5)) rfl) (fit_arr (d := 0) (sz := 1) (n := 8) (inR_some q_u5) rfl) (ht rfl) (ht rfl))) (fun _ => ?_)
        refine (show RG _ _ _ _ [bx rpDBig 136 b5 ({ out with D := (out.D.set (i : Int).toNat (((IntKind.u64.wrap ((IntKind.u64.wrap ((IntKind.u64.wrap (e3 + (4294967296 : Int))) - e4)) - carry))).tmod (4294967296 : Int))) } : DBig), bx rpDBig 136 b1 a2, bx rpDBig 136 b2 b4, bx rpDBig 136 b3 (⟨(List.replicate 8 (0 : Int)), false⟩ : DBig)] _ from ?_)
        refine RG.op (ok_assign (ht rfl)) rfl ?_
        refine RG.nil ?_
        refine AT.in_normal ?_
        refine AT.next ?_
        refine CG.region ?_
        refine RG.op (ok_incN (natL hx (by decide)) (ht rfl) hI) rfl ?_
        refine RG.op (ok_move (ht rfl)) rfl ?_
        refine RG.nil ?_
        refine AT.front3 ?_
        refine AT.front3 ?_
        refine AT.front3 ?_
        exact AT.round (LG.sub (ih (i + 1) (IntKind.u64.wrap ((1 : Int) - (((IntKind.u64.wrap ((IntKind.u64.wrap ((IntKind.u64.wrap (e3 + (4294967296 : Int))) - e4)) - carry))).fdiv (2 ^ (min (Int.toNat (32 : Int)) IntKind.u64.bits))))) ({ out with D := (out.D.set (i : Int).toNat (((IntKind.u64.wrap ((IntKind.u64.wrap ((IntKind.u64.wrap (e3 + (4294967296 : Int))) - e4)) - carry))).tmod (4294967296 : Int))) } : DBig) ⟨natS hx, h⟩) ⟨rfl, rfl, rfl, rfl, rfl, rfl, trivial⟩)
  · skip
    refine CG.seq ?_
    refine CG.region ?_
    refine RG.op (ok_fieldAddrC (n := 8) fd136_1 rfl (ht rfl) rfl) rfl ?_
    refine RG.op (ok_loadB ti4 rfl rfl flDBig_1 (.tail _ (.tail _ (.head _))) (ht rfl)) rfl ?_
    refine RG.op (ok_fieldAddrC (n := 8) fd136_1 rfl (ht rfl) rfl) rfl ?_
    refine RG.op (ok_loadB ti4 rfl rfl flDBig_1 (.tail _ (.head _)) (ht rfl)) rfl ?_
    refine RG.op (ok_neqB Tryz.underlying4 (ht rfl) (ht rfl)) rfl ?_
    refine RG.op (ok_move (ht rfl)) rfl ?_
    obtain ⟨t1, q_t1, h⟩ := bs h
    refine RG.opGt rfl rfl rfl rfl (fun hg => ok_loadB ti136 rfl rfl fld_whole (.tail _ (.tail _ (.head _))) (ht rfl)) ?_
    refine RG.opGt rfl rfl rfl rfl (fun hg => ok_loadB ti136 rfl rfl fld_whole (.tail _ (.head _)) (ht rfl)) ?_
    obtain ⟨r1, h1t1, h0t1⟩ := og q_t1
    have q_r1g := fun hb => (h1t1 hb).1
    refine RG.opGt rfl rfl rfl rfl (fun hg => ok_call cb151 (f151_ok _ _ (q_r1g hg)) ⟨(htO rfl hg), (htO rfl hg), trivial⟩) ?_
    refine RG.op (ok_pickAndM (ht rfl) (fun hb => (htO rfl hb)) (fun hb => (h1t1 hb).2) h0t1) rfl ?_
    refine RG.nil ?_
    refine AT.next ?_
    refine CG.cond (ht rfl) (fun hc => ?_) (fun hc => ?_)
    · have h := ct h hc
      refine CG.region ?_
      refine RG.op (ok_loadB ti136 rfl rfl fld_whole (.tail _ (.head _)) (ht rfl)) rfl ?_
      refine RG.op (ok_loadB ti136 rfl rfl fld_whole (.tail _ (.tail _ (.head _))) (ht rfl)) rfl ?_
      refine RG.front2 ?_
      refine RG.storeB ti136 rfl sfld_whole rfl (ht rfl) (ht rfl) ?_
      refine RG.front2 ?_
      refine RG.storeB ti136 rfl sfld_whole rfl (ht rfl) (ht rfl) ?_
      refine RG.nil ?_
      refine AT.front2 ?_
      refine AT.front1 ?_
      refine AT.front2 ?_
      exact AT.sub (K b a1 h) ⟨rfl, rfl, rfl, trivial⟩
    · have h := cf h hc
      refine CG.skip ?_
      refine AT.front1 ?_
      refine AT.front2 ?_
      exact AT.sub (K a1 b h) ⟨rfl, rfl, rfl, trivial⟩

set_option maxRecDepth 100000 in
theorem f153_ok (n : Int) (u : Int) {R : DBig} (h : ref04_Of n u = some R) : Spec Tryz.prog 153 [tD (rI .i64) n, tD (rI .u64) u] (tD rpDBig R) := by
  refine Spec.of Tryz.func153 rfl rfl rfl fun w0 S0 => ?_
  refine CG.seq ?_
  refine CG.region ?_
  refine RG.alloc (r := rpDBig) (x := (⟨(List.replicate 8 (0 : Int)), false⟩ : DBig)) ti136 (fun _ => zrDBig _) rfl (fun b => ?_)
  refine RG.nil ?_
  refine AT.next ?_
  refine CG.seq ?_
  refine CG.region ?_
  refine RG.alloc (r := rpDBig) (x := (⟨(List.replicate 8 (0 : Int)), false⟩ : DBig)) ti136 (fun _ => zrDBig _) rfl (fun b1 => ?_)
  refine RG.nil ?_
  refine AT.next ?_
  refine CG.seq ?_
  refine CG.region ?_
  refine RG.op (ok_move (ht rfl)) rfl ?_
  refine RG.op (ok_conv Tryz.underlying2 Tryz.underlying31 (ht rfl)) rfl ?_
  refine RG.op (ok_move (ht rfl)) rfl ?_
  refine RG.op (ok_assign (ht rfl)) rfl ?_
  refine RG.op (ok_assign (ht rfl)) rfl ?_
  refine RG.nil ?_
  refine AT.next ?_
  refine CG.sjoin3 (Z := fun high low b2 => ref04_Of_k1 high low b2 = some R) (Of := fun high low b2 => [bx rpDBig 136 b (⟨(List.replicate 8 (0 : Int)), false⟩ : DBig), bx rpDBig 136 b1 b2]) (Gf := fun high low b2 => [(4, tV (bptr b 0)), (5, tV (bptr b1 0)), (6, tD (rI .u64) high), (7, tD (rI .u64) low)]) (fun high low b2 h => ?_) (fun K => ?_)
  · skip
    refine CG.seq ?_
    refine CG.region ?_
    refine RG.op (ok_move (ht rfl)) rfl ?_
    refine RG.op (ok_rem (ht rfl) hI (by decide)) rfl ?_
    refine RG.op (ok_move (ht rfl)) rfl ?_
    refine RG.op (ok_shr (ht rfl) hI (by decide)) rfl ?_
    refine RG.op (ok_move (ht rfl)) rfl ?_
    refine RG.op (ok_rem (ht rfl) hI (by decide)) rfl ?_
    refine RG.op (ok_move (ht rfl)) rfl ?_
    refine RG.op (ok_shr (ht rfl) hI (by decide)) rfl ?_
    refine RG.op (ok_fieldAddrC (n := 0) fd136_0 rfl (ht rfl) rfl) rfl ?_
    refine RG.op (ok_indexAddrG (n := 8) (off := 0) Tryz.underlying134 ti31 (ht rfl) hI (by decide)) rfl ?_
    refine RG.eff0 (EffOK.fr1 (eff_storeG (q := (rI .u64)) (off := 0 + (0 : Int).toNat * 1) (y0 := ((low).tmod (4294967296 : Int))) ti31 rfl (sfx_comp (off := 0) (fldx_fld fldx_whole flDBig_0 rfl rfl) (sfx_elem (by decide)) (sfx_of sfDBig_0) (elem_fits (by decide)) rfl) (fit_arr (d := 0) (sz := 1) (n := 8) (by decide) rfl) (ht rfl) (ht rfl))) (fun _ => ?_)
    refine (show RG _ _ _ _ [bx rpDBig 136 b1 ({ b2 with D := (b2.D.set (0 : Int).toNat ((low).tmod (4294967296 : Int))) } : DBig), bx rpDBig 136 b (⟨(List.replicate 8 (0 : Int)), false⟩ : DBig)] _ from ?_)
    refine RG.op (ok_fieldAddrC (n := 0) fd136_0 rfl (ht rfl) rfl) rfl ?_
    refine RG.op (ok_indexAddrG (n := 8) (off := 0) Tryz.underlying134 ti31 (ht rfl) hI (by decide)) rfl ?_
    refine RG.eff0 (eff_storeG (q := (rI .u64)) (off := 0 + (1 : Int).toNat * 1) (y0 := ((low).fdiv (2 ^ (min (Int.toNat (32 : Int)) IntKind.u64.bits)))) ti31 rfl (sfx_comp (off := 0) (fldx_fld fldx_whole flDBig_0 rfl rfl) (sfx_elem (by decide)) (sfx_of sfDBig_0) (elem_fits (by decide)) rfl) (fit_arr (d := 0) (sz := 1) (n := 8) (by decide) rfl) (ht rfl) (ht rfl)) (fun _ => ?_)
    refine (show RG _ _ _ _ [bx rpDBig 136 b1 ({ ({ b2 with D := (b2.D.set (0 : Int).toNat ((low).tmod (4294967296 : Int))) } : DBig) with D := ((({ b2 with D := (b2.D.set (0 : Int).toNat ((low).tmod (4294967296 : Int))) } : DBig).D).set (1 : Int).toNat ((low).fdiv (2 ^ (min (Int.toNat (32 : Int)) IntKind.u64.bits)))) } : DBig), bx rpDBig 136 b (⟨(List.replicate 8 (0 : Int)), false⟩ : DBig)] _ from ?_)
    refine RG.op (ok_fieldAddrC (n := 0) fd136_0 rfl (ht rfl) rfl) rfl ?_
    refine RG.op (ok_indexAddrG (n := 8) (off := 0) Tryz.underlying134 ti31 (ht rfl) hI (by decide)) rfl ?_
    refine RG.eff0 (eff_storeG (q := (rI .u64)) (off := 0 + (2 : Int).toNat * 1) (y0 := ((high).tmod (4294967296 : Int))) ti31 rfl (sfx_comp (off := 0) (fldx_fld fldx_whole flDBig_0 rfl rfl) (sfx_elem (by decide)) (sfx_of sfDBig_0) (elem_fits (by decide)) rfl) (fit_arr (d := 0) (sz := 1) (n := 8) (by decide) rfl) (ht rfl) (ht rfl)) (fun _ => ?_)
    refine (show RG _ _ _ _ [bx rpDBig 136 b1 ({ ({ ({ b2 with D := (b2.D.set (0 : Int).toNat ((low).tmod (4294967296 : Int))) } : DBig) with D := ((({ b2 with D := (b2.D.set (0 : Int).toNat ((low).tmod (4294967296 : Int))) } : DBig).D).set (1 : Int).toNat ((low).fdiv (2 ^ (min (Int.toNat (32 : Int)) IntKind.u64.bits)))) } : DBig) with D := ((({ ({ b2 with D := (b2.D.set (0 : Int).toNat ((low).tmod (4294967296 : Int))) } : DBig) with D := ((({ b2 with D := (b2.D.set (0 : Int).toNat ((low).tmod (4294967296 : Int))) } : DBig).D).set (1 : Int).toNat ((low).fdiv (2 ^ (min (Int.toNat (32 : Int)) IntKind.u64.bits)))) } : DBig).D).set (2 : Int).toNat ((high).tmod (4294967296 : Int))) } : DBig), bx rpDBig 136 b (⟨(List.replicate 8 (0 : Int)), false⟩ : DBig)] _ from ?_)
    refine RG.op (ok_fieldAddrC (n := 0) fd136_0 rfl (ht rfl) rfl) rfl ?_
    refine RG.op (ok_indexAddrG (n := 8) (off := 0) Tryz.underlying134 ti31 (ht rfl) hI (by decide)) rfl ?_
    refine RG.eff0 (eff_storeG (q := (rI .u64)) (off := 0 + (3 : Int).toNat * 1) (y0 := ((high).fdiv (2 ^ (min (Int.toNat (32 : Int)) IntKind.u64.bits)))) ti31 rfl (sfx_comp (off := 0) (fldx_fld fldx_whole flDBig_0 rfl rfl) (sfx_elem (by decide)) (sfx_of sfDBig_0) (elem_fits (by decide)) rfl) (fit_arr (d := 0) (sz := 1) (n := 8) (by decide) rfl) (ht rfl) (ht rfl)) (fun _ => ?_)
    refine (show RG _ _ _ _ [bx rpDBig 136 b1 ({ ({ ({ ({ b2 with D := (b2.D.set (0 : Int).toNat ((low).tmod (4294967296 : Int))) } : DBig) with D := ((({ b2 with D := (b2.D.set (0 : Int).toNat ((low).tmod (4294967296 : Int))) } : DBig).D).set (1 : Int).toNat ((low).fdiv (2 ^ (min (Int.toNat (32 : Int)) IntKind.u64.bits)))) } : DBig) with D := ((({ ({ b2 with D := (b2.D.set (0 : Int).toNat ((low).tmod (4294967296 : Int))) } : DBig) with D := ((({ b2 with D := (b2.D.set (0 : Int).toNat ((low).tmod (4294967296 : Int))) } : DBig).D).set (1 : Int).toNat ((low).fdiv (2 ^ (min (Int.toNat (32 : Int)) IntKind.u64.bits)))) } : DBig).D).set (2 : Int).toNat ((high).tmod (4294967296 : Int))) } : DBig) with D := ((({ ({ ({ b2 with D := (b2.D.set (0 : Int).toNat ((low).tmod (4294967296 : Int))) } : DBig) with D := ((({ b2 with D := (b2.D.set (0 : Int).toNat ((low).tmod (4294967296 : Int))) } : DBig).D).set (1 : Int).toNat ((low).fdiv (2 ^ (min (Int.toNat (32 : Int)) IntKind.u64.bits)))) } : DBig) with D := ((({ ({ b2 with D := (b2.D.set (0 : Int).toNat ((low).tmod (4294967296 : Int))) } : DBig) with D := ((({ b2 with D := (b2.D.set (0 : Int).toNat ((low).tmod (4294967296 : Int))) } : DBig).D).set (1 : Int).toNat ((low).fdiv (2 ^ (min (Int.toNat (32 : Int)) IntKind.u64.bits)))) } : DBig).D).set (2 : Int).toNat ((high).tmod (4294967296 : Int))) } : DBig).D).set (3 : Int).toNat ((high).fdiv (2 ^ (min (Int.toNat (32 : Int)) IntKind.u64.bits)))) } : DBig), bx rpDBig 136 b (⟨(List.replicate 8 (0 : Int)), false⟩ : DBig)] _ from ?_)
    refine RG.nil ?_
    refine AT.next ?_
    refine CG.seq ?_
    refine CG.region ?_
    refine RG.op (ok_loadB ti136 rfl rfl fld_whole (.head _) (ht rfl)) rfl ?_
    refine RG.front1 ?_
    refine RG.storeB ti136 rfl sfld_whole rfl (ht rfl) (ht rfl) ?_
    refine RG.settleB 4 rfl ?_
    refine RG.nil ?_
    refine AT.next ?_
    refine CG.ret ?_
    refine AT.drop ?_
    cases so h
    exact AT.ret1c rfl ti136 rfl rfl rfl
  · skip
    refine CG.seq ?_
    refine CG.region ?_
    refine RG.op (ok_move (ht rfl)) rfl ?_
    refine RG.op (ok_lss (ht rfl) hI) rfl ?_
    refine RG.nil ?_
    refine AT.next ?_
    refine CG.cond (ht rfl) (fun hc => ?_) (fun hc => ?_)
    · have h := ct h hc
      refine CG.seq ?_
      refine CG.region ?_
      refine RG.op (ok_fieldAddrC (n := 8) fd136_1 rfl (ht rfl) rfl) rfl ?_
      refine RG.storeB ti4 rfl sfDBig_1 rfl (ht rfl) hB ?_
      refine RG.nil ?_
      refine AT.next ?_
      refine CG.seq ?_
      refine CG.region ?_
      refine RG.op (ok_move (ht rfl)) rfl ?_
      refine RG.op (ok_cpl (ht rfl)) rfl ?_
      refine RG.op (ok_move (ht rfl)) rfl ?_
      refine RG.op (ok_cpl (ht rfl)) rfl ?_
      refine RG.op (ok_assign (ht rfl)) rfl ?_
      refine RG.op (ok_assign (ht rfl)) rfl ?_
      refine RG.nil ?_
      refine AT.next ?_
      refine CG.seq ?_
      refine CG.region ?_
      refine RG.op (ok_move (ht rfl)) rfl ?_
      refine RG.op (ok_add (ht rfl) hI) rfl ?_
      refine RG.op (ok_assign (ht rfl)) rfl ?_
      refine RG.nil ?_
      refine AT.next ?_
      refine CG.seq ?_
      refine CG.region ?_
      refine RG.op (ok_move (ht rfl)) rfl ?_
      refine RG.op (ok_eqlI (ht rfl) hI) rfl ?_
      refine RG.nil ?_
      refine AT.next ?_
      refine CG.cond (ht rfl) (fun hc => ?_) (fun hc => ?_)
      · have h := ct h hc
        refine CG.region ?_
        refine RG.op (ok_move (ht rfl)) rfl ?_
        refine RG.op (ok_add (ht rfl) hI) rfl ?_
        refine RG.op (ok_assign (ht rfl)) rfl ?_
        refine RG.nil ?_
        refine AT.front1 ?_
        exact AT.sub (K (IntKind.u64.wrap ((bitsOp .xor .u64 (if IntKind.u64.signed then -1 else IntKind.u64.max) (IntKind.u64.wrap n)) + (1 : Int))) (IntKind.u64.wrap ((bitsOp .xor .u64 (if IntKind.u64.signed then -1 else IntKind.u64.max) u) + (1 : Int))) (DBig.mk (⟨(List.replicate 8 (0 : Int)), false⟩ : DBig).D true) h) ⟨rfl, rfl, rfl, rfl, trivial⟩
      · have h := cf h hc
        refine CG.skip ?_
        refine AT.front1 ?_
        exact AT.sub (K (bitsOp .xor .u64 (if IntKind.u64.signed then -1 else IntKind.u64.max) (IntKind.u64.wrap n)) (IntKind.u64.wrap ((bitsOp .xor .u64 (if IntKind.u64.signed then -1 else IntKind.u64.max) u) + (1 : Int))) (DBig.mk (⟨(List.replicate 8 (0 : Int)), false⟩ : DBig).D true) h) ⟨rfl, rfl, rfl, rfl, trivial⟩
    · have h := cf h hc
      refine CG.skip ?_
      refine AT.front1 ?_
      exact AT.sub (K (IntKind.u64.wrap n) u (⟨(List.replicate 8 (0 : Int)), false⟩ : DBig) h) ⟨rfl, rfl, rfl, rfl, trivial⟩

set_option maxRecDepth 100000 in
theorem f130_ok (n : Int) {R : DBig} (h : ref04_Int n = some R) : Spec Tryz.prog 130 [tD (rI .i64) n] (tD rpDBig R) := by
  refine Spec.of Tryz.func130 rfl rfl rfl fun w0 S0 => ?_
  refine CG.seq ?_
  refine CG.region ?_
  refine RG.alloc (r := rpDBig) (x := (⟨(List.replicate 8 (0 : Int)), false⟩ : DBig)) ti136 (fun _ => zrDBig _) rfl (fun b => ?_)
  refine RG.nil ?_
  refine AT.next ?_
  refine CG.seq ?_
  refine CG.seq ?_
  refine CG.region ?_
  refine RG.op (ok_move (ht rfl)) rfl ?_
  refine RG.op (ok_lss (ht rfl) hI) rfl ?_
  refine RG.nil ?_
  refine AT.next ?_
  refine CG.cond (ht rfl) (fun hc => ?_) (fun hc => ?_)
  · have h := ct h hc
    refine CG.seq ?_
    refine CG.region ?_
    refine RG.op (ok_move (ht rfl)) rfl ?_
    refine RG.op (ok_conv Tryz.underlying2 Tryz.underlying31 (ht rfl)) rfl ?_
    obtain ⟨r, q_r, h⟩ := bs h
    refine RG.op (ok_call cb153 (f153_ok _ _ q_r) ⟨hI, (ht rfl), trivial⟩) rfl ?_
    refine RG.storeB ti136 rfl sfld_whole rfl (ht rfl) (ht rfl) ?_
    refine RG.nil ?_
    refine AT.next ?_
    refine CG.ret ?_
    refine AT.then_ret ?_
    refine AT.settleB 2 rfl ?_
    cases so h
    exact AT.ret1c rfl ti136 rfl rfl rfl
  · have h := cf h hc
    refine CG.skip ?_
    refine AT.next ?_
    refine CG.seq ?_
    refine CG.region ?_
    refine RG.op (ok_move (ht rfl)) rfl ?_
    refine RG.op (ok_conv Tryz.underlying2 Tryz.underlying31 (ht rfl)) rfl ?_
    obtain ⟨r1, q_r1, h⟩ := bs h
    refine RG.op (ok_call cb153 (f153_ok _ _ q_r1) ⟨hI, (ht rfl), trivial⟩) rfl ?_
    refine RG.storeB ti136 rfl sfld_whole rfl (ht rfl) (ht rfl) ?_
    refine RG.nil ?_
    refine AT.next ?_
    refine CG.ret ?_
    refine AT.settleB 2 rfl ?_
    cases so h
    exact AT.ret1c rfl ti136 rfl rfl rfl

set_option maxRecDepth 100000 in
theorem f131_ok (a1 : DBig) {R : DBig} (h : ref04_Turned a1 = some R) : Spec Tryz.prog 131 [tD rpDBig a1] (tD rpDBig R) := by
  refine Spec.of Tryz.func131 rfl rfl rfl fun w0 S0 => ?_
  refine CG.seq ?_
  refine CG.region ?_
  refine RG.boxO (ht rfl) rfl (fun b => ?_)
  refine RG.alloc (r := rpDBig) (x := (⟨(List.replicate 8 (0 : Int)), false⟩ : DBig)) ti136 (fun _ => zrDBig _) rfl (fun b1 => ?_)
  refine RG.nil ?_
  refine AT.next ?_
  refine CG.seq ?_
  refine CG.region ?_
  refine RG.op (ok_fieldAddrC (n := 8) fd136_1 rfl (ht rfl) rfl) rfl ?_
  refine RG.op (ok_loadB ti4 rfl rfl flDBig_1 (.tail _ (.head _)) (ht rfl)) rfl ?_
  refine RG.op (ok_not (ht rfl)) rfl ?_
  refine RG.op (ok_move (ht rfl)) rfl ?_
  obtain ⟨t, q_t, h⟩ := bs h
  refine RG.opGt rfl rfl rfl rfl (fun hg => ok_loadB ti136 rfl rfl fld_whole (.tail _ (.head _)) (ht rfl)) ?_
  obtain ⟨r, h1t, h0t⟩ := og q_t
  have q_rg := fun hb => (h1t hb).1
  refine RG.opGt rfl rfl rfl rfl (fun hg => ok_call cb152 (f152_ok _ (q_rg hg)) ⟨(htO rfl hg), trivial⟩) ?_
  refine RG.opGt rfl rfl rfl rfl (fun hg => ok_not (htO rfl hg)) ?_
  refine RG.op (ok_pickAndM (ht rfl) (fun hb => (htO rfl hb)) (fun hb => (h1t hb).2) h0t) rfl ?_
  refine RG.op (ok_fieldAddrC (n := 8) fd136_1 rfl (ht rfl) rfl) rfl ?_
  refine RG.front1 ?_
  refine RG.storeB ti4 rfl sfDBig_1 rfl (ht rfl) (ht rfl) ?_
  refine RG.nil ?_
  refine AT.next ?_
  refine CG.seq ?_
  refine CG.region ?_
  refine RG.op (ok_loadB ti136 rfl rfl fld_whole (.head _) (ht rfl)) rfl ?_
  refine RG.front1 ?_
  refine RG.storeB ti136 rfl sfld_whole rfl (ht rfl) (ht rfl) ?_
  refine RG.settleB 2 rfl ?_
  refine RG.nil ?_
  refine AT.next ?_
  refine CG.ret ?_
  refine AT.drop ?_
  cases so h
  exact AT.ret1c rfl ti136 rfl rfl rfl

set_option maxRecDepth 100000 in
theorem f132_ok (a1 : DBig) (b : DBig) {R : DBig} (h : ref04_Times a1 b = some R) : Spec Tryz.prog 132 [tD rpDBig a1, tD rpDBig b] (tD rpDBig R) := by
  refine Spec.of Tryz.func132 rfl rfl rfl fun w0 S0 => ?_
  refine CG.seq ?_
  refine CG.region ?_
  refine RG.op (ok_box (ht rfl)) rfl ?_
  refine RG.op (ok_box (ht rfl)) rfl ?_
  refine RG.alloc (r := rpDBig) (x := (⟨(List.replicate 8 (0 : Int)), false⟩ : DBig)) ti136 (fun _ => zrDBig _) rfl (fun b1 => ?_)
  refine RG.nil ?_
  refine AT.next ?_
  refine CG.seq ?_
  refine CG.region ?_
  refine RG.alloc (r := rpDBig) (x := (⟨(List.replicate 8 (0 : Int)), false⟩ : DBig)) ti136 (fun _ => zrDBig _) rfl (fun b2 => ?_)
  refine RG.nil ?_
  refine AT.next ?_
  refine CG.seq ?_
  refine CG.seq ?_
  refine CG.region ?_
  refine RG.op (ok_move hI) rfl ?_
  refine RG.nil ?_
  refine AT.next ?_
  refine CG.block ?_
  refine CG.loop ?_
  refine LG.front1 ?_
  refine LG.sub (LG.nat2 (Z := fun k i out => (4 - i = k) ∧ ref04_Times_l1 a1 b k i out = some R) (Of := fun _ i out => [bx rpDBig 136 b1 (⟨(List.replicate 8 (0 : Int)), false⟩ : DBig), bx rpDBig 136 b2 out]) (Gf := fun _ i out => [(2, tPtr rpDBig a1), (3, tPtr rpDBig b), (4, tV (bptr b1 0)), (5, tV (bptr b2 0)), (10, tD (rI .i64) (i : Int))]) (fun i out h => ?_) (fun k1 ih i out h => ?_) 4 0 (⟨(List.replicate 8 (0 : Int)), false⟩ : DBig) ⟨rfl, h⟩) ⟨rfl, rfl, rfl, rfl, rfl, trivial⟩
  · obtain ⟨hx, h⟩ := h
    refine LG.unfold ?_
    refine CG.seq ?_
    refine CG.region ?_
    refine RG.op (ok_lss (ht rfl) hI) rfl ?_
    refine RG.nil ?_
    refine AT.next ?_
    refine CG.seq ?_
    refine CG.condF (ht rfl) (natF hx) ?_
    refine CG.exit ?_
    refine AT.then_exit (AT.then_exit (AT.in_exit ?_))
    refine AT.next ?_
    refine CG.seq ?_
    refine CG.region ?_
    refine RG.op (ok_fieldAddr fd136_1 rfl flDBig_1 rfl (ht rfl)) rfl ?_
    refine RG.op (ok_load ti4 rfl rfl (ht rfl)) rfl ?_
    refine RG.op (ok_fieldAddr fd136_1 rfl flDBig_1 rfl (ht rfl)) rfl ?_
    refine RG.op (ok_load ti4 rfl rfl (ht rfl)) rfl ?_
    refine RG.op (ok_neqB Tryz.underlying4 (ht rfl) (ht rfl)) rfl ?_
    refine RG.op (ok_move (ht rfl)) rfl ?_
    obtain ⟨t, q_t, h⟩ := bs h
    refine RG.opGt rfl rfl rfl rfl (fun hg => ok_loadB ti136 rfl rfl fld_whole (.tail _ (.head _)) (ht rfl)) ?_
    obtain ⟨r, h1t, h0t⟩ := og q_t
    have q_rg := fun hb => (h1t hb).1
    refine RG.opGt rfl rfl rfl rfl (fun hg => ok_call cb152 (f152_ok _ (q_rg hg)) ⟨(htO rfl hg), trivial⟩) ?_
    refine RG.opGt rfl rfl rfl rfl (fun hg => ok_not (htO rfl hg)) ?_
    refine RG.op (ok_pickAndM (ht rfl) (fun hb => (htO rfl hb)) (fun hb => (h1t hb).2) h0t) rfl ?_
    refine RG.op (ok_fieldAddrC (n := 8) fd136_1 rfl (ht rfl) rfl) rfl ?_
    refine RG.front1 ?_
    refine RG.storeB ti4 rfl sfDBig_1 rfl (ht rfl) (ht rfl) ?_
    refine RG.nil ?_
    refine AT.next ?_
    refine CG.seq ?_
    refine CG.region ?_
    refine RG.op (ok_loadB ti136 rfl rfl fld_whole (.head _) (ht rfl)) rfl ?_
    refine RG.front1 ?_
    refine RG.storeB ti136 rfl sfld_whole rfl (ht rfl) (ht rfl) ?_
    refine RG.settleB 4 rfl ?_
    refine RG.nil ?_
    refine AT.next ?_
    refine CG.ret ?_
    refine AT.drop ?_
    cases so h
    exact AT.ret1c rfl ti136 rfl rfl rfl
  · obtain ⟨hx, h⟩ := h
    refine LG.unfold ?_
    refine CG.seq ?_
    refine CG.region ?_
    refine RG.op (ok_lss (ht rfl) hI) rfl ?_
    refine RG.nil ?_
    refine AT.next ?_
    refine CG.seq ?_
    refine CG.condT (ht rfl) (natT hx) ?_
    refine CG.skip ?_
    refine AT.next ?_
    refine CG.seq ?_
    refine CG.block ?_
    refine CG.seq ?_
    refine CG.region ?_
    refine RG.op (ok_move (ht rfl)) rfl ?_
    refine RG.op (ok_assign (ht rfl)) rfl ?_
    refine RG.nil ?_
    refine AT.next ?_
    refine CG.seq ?_
    refine CG.region ?_
    refine RG.op (ok_assign hI) rfl ?_
    refine RG.nil ?_
    refine AT.next ?_
    refine CG.seq ?_
    refine CG.seq ?_
    refine CG.region ?_
    refine RG.op (ok_move hI) rfl ?_
    refine RG.nil ?_
    refine AT.next ?_
    refine CG.block ?_
    refine CG.loop ?_
    refine LG.sub (LG.nat3 (Z := fun k2 i1 carry out1 => (4 - i1 = k2) ∧ ref04_Times_l2 a1 b (ref04_Times_l1 a1 b k1) i k2 i1 carry out1 = some R) (Of := fun _ i1 carry out1 => [bx rpDBig 136 b1 (⟨(List.replicate 8 (0 : Int)), false⟩ : DBig), bx rpDBig 136 b2 out1]) (Gf := fun _ i1 carry out1 => [(2, tPtr rpDBig a1), (3, tPtr rpDBig b), (4, tV (bptr b1 0)), (5, tV (bptr b2 0)), (6, tD (rI .i64) (i : Int)), (7, tD (rI .u64) carry), (10, tD (rI .i64) (i : Int)), (13, tD (rI .i64) (i1 : Int))]) (fun i1 carry out1 h => ?_) (fun k3 ih1 i1 carry out1 h => ?_) 4 0 (0 : Int) out ⟨rfl, h⟩) ⟨rfl, rfl, rfl, rfl, rfl, rfl, rfl, rfl, trivial⟩
    · obtain ⟨hx1, h⟩ := h
      refine LG.unfold ?_
      refine CG.seq ?_
      refine CG.region ?_
      refine RG.op (ok_lss (ht rfl) hI) rfl ?_
      refine RG.nil ?_
      refine AT.next ?_
      refine CG.seq ?_
      refine CG.condF (ht rfl) (natF hx1) ?_
      refine CG.exit ?_
      refine AT.then_exit (AT.then_exit (AT.in_exit ?_))
      refine AT.next ?_
      refine CG.region ?_
      refine RG.op (ok_move (ht rfl)) rfl ?_
      refine RG.op (ok_add (ht rfl) hI) rfl ?_
      refine RG.op (ok_move (ht rfl)) rfl ?_
      refine RG.op (ok_fieldAddrC (n := 0) fd136_0 rfl (ht rfl) rfl) rfl ?_
      obtain ⟨u, q_u, h⟩ := bs h
      refine RG.op (ok_indexAddrG (n := 8) (off := 0) Tryz.underlying134 ti31 (ht rfl) (ht rfl) (inR_some q_u)) rfl ?_
      refine RG.eff0 (EffOK.fr1 (eff_storeG (q := (rI .u64)) (off := 0 + (IntKind.i64.wrap ((i : Int) + (4 : Int))).toNat * 1) (y0 := carry) ti31 rfl (sfx_comp (off := 0) (fldx_fld fldx_whole flDBig_0 rfl rfl) (sfx_elem (inR_some q_u)) (sfx_of sfDBig_0) (elem_fits (inR_some q_u)) rfl) (fit_arr (d := 0) (sz := 1) (n := 8) (inR_some q_u) rfl) (ht rfl) (ht rfl))) (fun _ => ?_)
      refine (show RG _ _ _ _ [bx rpDBig 136 b2 ({ out1 with D := (out1.D.set (IntKind.i64.wrap ((i : Int) + (4 : Int))).toNat carry) } : DBig), bx rpDBig 136 b1 (⟨(List.replicate 8 (0 : Int)), false⟩ : DBig)] _ from ?_)
      refine RG.nil ?_
      refine AT.in_normal ?_
      refine AT.next ?_
      refine CG.region ?_
      refine RG.op (ok_incN (natL hx (by decide)) (ht rfl) hI) rfl ?_
      refine RG.op (ok_move (ht rfl)) rfl ?_
      refine RG.nil ?_
      refine AT.front1 ?_
      exact AT.round (LG.sub (ih (i + 1) ({ out1 with D := (out1.D.set (IntKind.i64.wrap ((i : Int) + (4 : Int))).toNat carry) } : DBig) ⟨natS hx, h⟩) ⟨rfl, rfl, rfl, rfl, rfl, trivial⟩)
    · obtain ⟨hx1, h⟩ := h
      refine LG.unfold ?_
      refine CG.seq ?_
      refine CG.region ?_
      refine RG.op (ok_lss (ht rfl) hI) rfl ?_
      refine RG.nil ?_
      refine AT.next ?_
      refine CG.seq ?_
      refine CG.condT (ht rfl) (natT hx1) ?_
      refine CG.skip ?_
      refine AT.next ?_
      refine CG.seq ?_
      refine CG.block ?_
      refine CG.seq ?_
      refine CG.region ?_
      refine RG.op (ok_move (ht rfl)) rfl ?_
      refine RG.op (ok_assign (ht rfl)) rfl ?_
      refine RG.nil ?_
      refine AT.next ?_
      refine CG.seq ?_
      obtain ⟨u1, q_u1, h⟩ := bs h
      obtain ⟨e2, q_e2, h⟩ := bs h
      obtain ⟨e3, q_e3, h⟩ := bs h
      obtain ⟨e4, q_e4, h⟩ := bs h
      refine CG.draw (ts := [tD (rI .i64) (i : Int), tD (rI .i64) (i1 : Int), tD (rI .i64) (IntKind.i64.wrap ((i : Int) + (i1 : Int))), tV (bptr b2 0), tV (bptr b2 (0 + (IntKind.i64.wrap ((i : Int) + (i1 : Int))).toNat * 1)), tD (rI .u64) e2, tD (rI .i64) (i : Int), tPtr (rArr (rI .u64) 8) a1.D, tPtr (rI .u64) e3, tD (rI .u64) e3, tD (rI .i64) (i1 : Int), tPtr (rArr (rI .u64) 8) b.D, tPtr (rI .u64) e4, tD (rI .u64) e4, tD (rI .u64) (IntKind.u64.wrap (e3 * e4)), tD (rI .u64) (IntKind.u64.wrap (e2 + (IntKind.u64.wrap (e3 * e4)))), tD (rI .u64) carry, tD (rI .u64) (IntKind.u64.wrap ((IntKind.u64.wrap (e2 + (IntKind.u64.wrap (e3 * e4)))) + carry)), tD (rI .u64) (IntKind.u64.wrap ((IntKind.u64.wrap (e2 + (IntKind.u64.wrap (e3 * e4)))) + carry))]) mixed rfl rfl
        ⟨⟨[⟨6, _, none⟩], _, rfl, ⟨rfl, trivial⟩, rfl, rfl, OpG.plain rfl (ok_move (ht rfl))⟩,
        ⟨⟨[⟨8, _, none⟩], _, rfl, ⟨rfl, trivial⟩, rfl, rfl, OpG.plain rfl (ok_move (ht rfl))⟩,
        ⟨⟨[⟨16, _, some 0⟩, ⟨17, _, some 1⟩], _, rfl, ⟨rfl, rfl, trivial⟩, rfl, rfl, OpG.plain rfl (ok_add (ht rfl) (ht rfl))⟩,
        ⟨⟨[⟨5, _, none⟩], _, rfl, ⟨rfl, trivial⟩, rfl, rfl, OpG.plain rfl (ok_fieldAddrC (n := 0) fd136_0 rfl (ht rfl) rfl)⟩,
        ⟨⟨[⟨19, _, some 3⟩, ⟨18, _, some 2⟩], _, rfl, ⟨rfl, rfl, trivial⟩, rfl, rfl, OpG.plain rfl (ok_indexAddrG (n := 8) (off := 0) Tryz.underlying134 ti31 (ht rfl) (ht rfl) (inR_some q_u1))⟩,
        ⟨⟨[⟨20, _, some 4⟩], _, rfl, ⟨rfl, trivial⟩, rfl, rfl, OpG.plain rfl (ok_loadG (q := (rI .u64)) (off := 0 + (IntKind.i64.wrap ((i : Int) + (i1 : Int))).toNat * 1) ti31 rfl rfl (.tail _ (.head _)) (fldx_idx (fldx_fld fldx_whole flDBig_0 rfl rfl) q_e2) (ht rfl))⟩,
        ⟨⟨[⟨6, _, none⟩], _, rfl, ⟨rfl, trivial⟩, rfl, rfl, OpG.plain rfl (ok_move (ht rfl))⟩,
        ⟨⟨[⟨2, _, none⟩], _, rfl, ⟨rfl, trivial⟩, rfl, rfl, OpG.plain rfl (ok_fieldAddr fd136_0 rfl flDBig_0 rfl (ht rfl))⟩,
        ⟨⟨[⟨23, _, some 7⟩, ⟨22, _, some 6⟩], _, rfl, ⟨rfl, rfl, trivial⟩, rfl, rfl, OpG.plain rfl (ok_indexAddrP Tryz.underlying134 ti31 rfl (ht rfl) (ht rfl) q_e3)⟩,
        ⟨⟨[⟨24, _, some 8⟩], _, rfl, ⟨rfl, trivial⟩, rfl, rfl, OpG.plain rfl (ok_load ti31 rfl rfl (ht rfl))⟩,
        ⟨⟨[⟨8, _, none⟩], _, rfl, ⟨rfl, trivial⟩, rfl, rfl, OpG.plain rfl (ok_move (ht rfl))⟩,
        ⟨⟨[⟨3, _, none⟩], _, rfl, ⟨rfl, trivial⟩, rfl, rfl, OpG.plain rfl (ok_fieldAddr fd136_0 rfl flDBig_0 rfl (ht rfl))⟩,
        ⟨⟨[⟨27, _, some 11⟩, ⟨26, _, some 10⟩], _, rfl, ⟨rfl, rfl, trivial⟩, rfl, rfl, OpG.plain rfl (ok_indexAddrP Tryz.underlying134 ti31 rfl (ht rfl) (ht rfl) q_e4)⟩,
        ⟨⟨[⟨28, _, some 12⟩], _, rfl, ⟨rfl, trivial⟩, rfl, rfl, OpG.plain rfl (ok_load ti31 rfl rfl (ht rfl))⟩,
        ⟨⟨[⟨25, _, some 9⟩, ⟨29, _, some 13⟩], _, rfl, ⟨rfl, rfl, trivial⟩, rfl, rfl, OpG.plain rfl (ok_mul (ht rfl) (ht rfl))⟩,
        ⟨⟨[⟨21, _, some 5⟩, ⟨30, _, some 14⟩], _, rfl, ⟨rfl, rfl, trivial⟩, rfl, rfl, OpG.plain rfl (ok_add (ht rfl) (ht rfl))⟩,
        ⟨⟨[⟨7, _, none⟩], _, rfl, ⟨rfl, trivial⟩, rfl, rfl, OpG.plain rfl (ok_move (ht rfl))⟩,
        ⟨⟨[⟨31, _, some 15⟩, ⟨32, _, some 16⟩], _, rfl, ⟨rfl, rfl, trivial⟩, rfl, rfl, OpG.plain rfl (ok_add (ht rfl) (ht rfl))⟩,
        ⟨⟨[⟨33, _, some 17⟩], _, rfl, ⟨rfl, trivial⟩, rfl, rfl, OpG.plain rfl (ok_assign (ht rfl))⟩,
        trivial⟩⟩⟩⟩⟩⟩⟩⟩⟩⟩⟩⟩⟩⟩⟩⟩⟩⟩⟩ ?_
      refine AT.next ?_
      refine CG.region ?_
      refine RG.op (ok_move (ht rfl)) rfl ?_
      refine RG.op (ok_move (ht rfl)) rfl ?_
      refine RG.op (ok_add (ht rfl) (ht rfl)) rfl ?_
      refine RG.op (ok_move (ht rfl)) rfl ?_
      refine RG.op (ok_rem (ht rfl) hI (by decide)) rfl ?_
      refine RG.op (ok_move (ht rfl)) rfl ?_
      refine RG.op (ok_shr (ht rfl) hI (by decide)) rfl ?_
      refine RG.op (ok_fieldAddrC (n := 0) fd136_0 rfl (ht rfl) rfl) rfl ?_
      obtain ⟨u2, q_u2, h⟩ := bs h
      refine RG.op (ok_indexAddrG (n := 8) (off := 0) Tryz.underlying134 ti31 (ht rfl) (ht rfl) (inR_some q_u2)) rfl ?_
      refine RG.eff0 (EffOK.fr1 (eff_storeG (q := (rI .u64)) (off := 0 + (IntKind.i64.wrap ((i : Int) + (i1 : Int))).toNat * 1) (y0 := (((IntKind.u64.wrap ((IntKind.u64.wrap (e2 + (IntKind.u64.wrap (e3 * e4)))) + carry))).tmod (4294967296 : Int))) ti31 rfl (sfx_comp (off := 0) (fldx_fld fldx_whole flDBig_0 rfl rfl) (sfx_elem (inR_some q_u2)) (sfx_of sfDBig_0) (elem_fits (inR_some q_u2)) rfl) (fit_arr (d := 0) (sz := 1) (n := 8) (inR_some q_u2) rfl) (ht rfl) (ht rfl))) (fun _ => ?_)
      refine (show RG _ _ _ _ [bx rpDBig 136 b2 ({ out1 with D := (out1.D.set (IntKind.i64.wrap ((i : Int) + (i1 : Int))).toNat (((IntKind.u64.wrap ((IntKind.u64.wrap (e2 + (IntKind.u64.wrap (e3 * e4)))) + carry))).tmod (4294967296 : Int))) } : DBig), bx rpDBig 136 b1 (⟨(List.replicate 8 (0 : Int)), false⟩ : DBig)] _ from ?_)
      refine RG.op (ok_assign (ht rfl)) rfl ?_
      refine RG.nil ?_
      refine AT.in_normal ?_
      refine AT.next ?_
      refine CG.region ?_
      refine RG.op (ok_incN (natL hx1 (by decide)) (ht rfl) hI) rfl ?_
      refine RG.op (ok_move (ht rfl)) rfl ?_
      refine RG.nil ?_
      refine AT.front1 ?_
      exact AT.round (LG.sub (ih1 (i1 + 1) (((IntKind.u64.wrap ((IntKind.u64.wrap (e2 + (IntKind.u64.wrap (e3 * e4)))) + carry))).fdiv (2 ^ (min (Int.toNat (32 : Int)) IntKind.u64.bits))) ({ out1 with D := (out1.D.set (IntKind.i64.wrap ((i : Int) + (i1 : Int))).toNat (((IntKind.u64.wrap ((IntKind.u64.wrap (e2 + (IntKind.u64.wrap (e3 * e4)))) + carry))).tmod (4294967296 : Int))) } : DBig) ⟨natS hx1, h⟩) ⟨rfl, rfl, rfl, rfl, rfl, rfl, rfl, rfl, trivial⟩)

set_option maxRecDepth 100000 in
theorem f133_ok (a1 : DBig) (b : DBig) {R : DBig} (h : ref04_Quotient a1 b = some R) : Spec Tryz.prog 133 [tD rpDBig a1, tD rpDBig b] (tD rpDBig R) := by
  refine Spec.of Tryz.func133 rfl rfl rfl fun w0 S0 => ?_
  refine CG.seq ?_
  refine CG.region ?_
  refine RG.op (ok_box (ht rfl)) rfl ?_
  refine RG.op (ok_box (ht rfl)) rfl ?_
  refine RG.alloc (r := rpDBig) (x := (⟨(List.replicate 8 (0 : Int)), false⟩ : DBig)) ti136 (fun _ => zrDBig _) rfl (fun b1 => ?_)
  refine RG.nil ?_
  refine AT.next ?_
  refine CG.seq ?_
  obtain ⟨e, q_e, h⟩ := bs h
  obtain ⟨e1, q_e1, h⟩ := bs h
  obtain ⟨e2, q_e2, h⟩ := bs h
  obtain ⟨e3, q_e3, h⟩ := bs h
  refine CG.draw (ts := [tPtr (rArr (rI .u64) 8) a1.D, tPtr (rI .u64) e, tD (rI .u64) e, tD (rI .u64) (IntKind.u64.wrap (e * 2 ^ (min (Int.toNat (32 : Int)) IntKind.u64.bits))), tPtr (rArr (rI .u64) 8) a1.D, tPtr (rI .u64) e1, tD (rI .u64) e1, tD (rI .u64) (IntKind.u64.wrap ((IntKind.u64.wrap (e * 2 ^ (min (Int.toNat (32 : Int)) IntKind.u64.bits))) + e1)), tPtr (rArr (rI .u64) 8) b.D, tPtr (rI .u64) e2, tD (rI .u64) e2, tD (rI .u64) (IntKind.u64.wrap (e2 * 2 ^ (min (Int.toNat (32 : Int)) IntKind.u64.bits))), tPtr (rArr (rI .u64) 8) b.D, tPtr (rI .u64) e3, tD (rI .u64) e3, tD (rI .u64) (IntKind.u64.wrap ((IntKind.u64.wrap (e2 * 2 ^ (min (Int.toNat (32 : Int)) IntKind.u64.bits))) + e3)), tD (rI .u64) (IntKind.u64.wrap ((IntKind.u64.wrap (e * 2 ^ (min (Int.toNat (32 : Int)) IntKind.u64.bits))) + e1)), tD (rI .u64) (IntKind.u64.wrap ((IntKind.u64.wrap (e2 * 2 ^ (min (Int.toNat (32 : Int)) IntKind.u64.bits))) + e3))]) mixed rfl rfl
    ⟨⟨[⟨2, _, none⟩], _, rfl, ⟨rfl, trivial⟩, rfl, rfl, OpG.plain rfl (ok_fieldAddr fd136_0 rfl flDBig_0 rfl (ht rfl))⟩,
    ⟨⟨[⟨8, _, some 0⟩], _, rfl, ⟨rfl, trivial⟩, rfl, rfl, OpG.plain rfl (ok_indexAddrP Tryz.underlying134 ti31 rfl (ht rfl) hI q_e)⟩,
    ⟨⟨[⟨9, _, some 1⟩], _, rfl, ⟨rfl, trivial⟩, rfl, rfl, OpG.plain rfl (ok_load ti31 rfl rfl (ht rfl))⟩,
    ⟨⟨[⟨10, _, some 2⟩], _, rfl, ⟨rfl, trivial⟩, rfl, rfl, OpG.plain rfl (ok_shl (ht rfl) hI (by decide))⟩,
    ⟨⟨[⟨2, _, none⟩], _, rfl, ⟨rfl, trivial⟩, rfl, rfl, OpG.plain rfl (ok_fieldAddr fd136_0 rfl flDBig_0 rfl (ht rfl))⟩,
    ⟨⟨[⟨12, _, some 4⟩], _, rfl, ⟨rfl, trivial⟩, rfl, rfl, OpG.plain rfl (ok_indexAddrP Tryz.underlying134 ti31 rfl (ht rfl) hI q_e1)⟩,
    ⟨⟨[⟨13, _, some 5⟩], _, rfl, ⟨rfl, trivial⟩, rfl, rfl, OpG.plain rfl (ok_load ti31 rfl rfl (ht rfl))⟩,
    ⟨⟨[⟨11, _, some 3⟩, ⟨14, _, some 6⟩], _, rfl, ⟨rfl, rfl, trivial⟩, rfl, rfl, OpG.plain rfl (ok_add (ht rfl) (ht rfl))⟩,
    ⟨⟨[⟨3, _, none⟩], _, rfl, ⟨rfl, trivial⟩, rfl, rfl, OpG.plain rfl (ok_fieldAddr fd136_0 rfl flDBig_0 rfl (ht rfl))⟩,
    ⟨⟨[⟨16, _, some 8⟩], _, rfl, ⟨rfl, trivial⟩, rfl, rfl, OpG.plain rfl (ok_indexAddrP Tryz.underlying134 ti31 rfl (ht rfl) hI q_e2)⟩,
    ⟨⟨[⟨17, _, some 9⟩], _, rfl, ⟨rfl, trivial⟩, rfl, rfl, OpG.plain rfl (ok_load ti31 rfl rfl (ht rfl))⟩,
    ⟨⟨[⟨18, _, some 10⟩], _, rfl, ⟨rfl, trivial⟩, rfl, rfl, OpG.plain rfl (ok_shl (ht rfl) hI (by decide))⟩,
    ⟨⟨[⟨3, _, none⟩], _, rfl, ⟨rfl, trivial⟩, rfl, rfl, OpG.plain rfl (ok_fieldAddr fd136_0 rfl flDBig_0 rfl (ht rfl))⟩,
    ⟨⟨[⟨20, _, some 12⟩], _, rfl, ⟨rfl, trivial⟩, rfl, rfl, OpG.plain rfl (ok_indexAddrP Tryz.underlying134 ti31 rfl (ht rfl) hI q_e3)⟩,
    ⟨⟨[⟨21, _, some 13⟩], _, rfl, ⟨rfl, trivial⟩, rfl, rfl, OpG.plain rfl (ok_load ti31 rfl rfl (ht rfl))⟩,
    ⟨⟨[⟨19, _, some 11⟩, ⟨22, _, some 14⟩], _, rfl, ⟨rfl, rfl, trivial⟩, rfl, rfl, OpG.plain rfl (ok_add (ht rfl) (ht rfl))⟩,
    ⟨⟨[⟨15, _, some 7⟩], _, rfl, ⟨rfl, trivial⟩, rfl, rfl, OpG.plain rfl (ok_assign (ht rfl))⟩,
    ⟨⟨[⟨23, _, some 15⟩], _, rfl, ⟨rfl, trivial⟩, rfl, rfl, OpG.plain rfl (ok_assign (ht rfl))⟩,
    trivial⟩⟩⟩⟩⟩⟩⟩⟩⟩⟩⟩⟩⟩⟩⟩⟩⟩⟩ ?_
  refine AT.next ?_
  refine CG.seq ?_
  refine CG.region ?_
  refine RG.op (ok_move (ht rfl)) rfl ?_
  refine RG.op (ok_move (ht rfl)) rfl ?_
  obtain ⟨u, q_u, h⟩ := bs h
  refine RG.op (ok_quo (ht rfl) (ht rfl) (nz_some q_u)) rfl ?_
  refine RG.op (ok_assign (ht rfl)) rfl ?_
  refine RG.nil ?_
  refine AT.next ?_
  refine CG.seq ?_
  refine CG.region ?_
  refine RG.op (ok_move (ht rfl)) rfl ?_
  refine RG.op (ok_rem (ht rfl) hI (by decide)) rfl ?_
  refine RG.op (ok_move (ht rfl)) rfl ?_
  refine RG.op (ok_shr (ht rfl) hI (by decide)) rfl ?_
  refine RG.op (ok_buildAZ (r := (rI .u64)) (x := (List.replicate 8 (0 : Int))) Tryz.underlying134 ti31 rfl ti134 (fun _ => arr_zero (r := (rI .u64)) 8 (fun _ => rfl) _) ⟨_, rfl, (ht rfl), ⟨_, rfl, (ht rfl), rfl⟩⟩) rfl ?_
  refine RG.op (ok_fieldAddr fd136_1 rfl flDBig_1 rfl (ht rfl)) rfl ?_
  refine RG.op (ok_load ti4 rfl rfl (ht rfl)) rfl ?_
  refine RG.op (ok_fieldAddr fd136_1 rfl flDBig_1 rfl (ht rfl)) rfl ?_
  refine RG.op (ok_load ti4 rfl rfl (ht rfl)) rfl ?_
  refine RG.op (ok_neqB Tryz.underlying4 (ht rfl) (ht rfl)) rfl ?_
  refine RG.op (ok_move (ht rfl)) rfl ?_
  refine RG.opGt rfl rfl rfl rfl (fun hg => ok_move (ht rfl)) ?_
  refine RG.opGt rfl rfl rfl rfl (fun hg => ok_neqI (htO rfl hg) hI) ?_
  refine RG.op (ok_pickAnd (ht rfl) (fun hb => (htO rfl hb))) rfl ?_
  refine RG.op (ok_build (y := (⟨(((List.replicate 8 (0 : Int)).set 0 (((IntKind.u64.wrap (((IntKind.u64.wrap ((IntKind.u64.wrap (e * 2 ^ (min (Int.toNat (32 : Int)) IntKind.u64.bits))) + e1))).tdiv (IntKind.u64.wrap ((IntKind.u64.wrap (e2 * 2 ^ (min (Int.toNat (32 : Int)) IntKind.u64.bits))) + e3))))).tmod (4294967296 : Int))).set 1 (((IntKind.u64.wrap (((IntKind.u64.wrap ((IntKind.u64.wrap (e * 2 ^ (min (Int.toNat (32 : Int)) IntKind.u64.bits))) + e1))).tdiv (IntKind.u64.wrap ((IntKind.u64.wrap (e2 * 2 ^ (min (Int.toNat (32 : Int)) IntKind.u64.bits))) + e3))))).fdiv (2 ^ (min (Int.toNat (32 : Int)) IntKind.u64.bits)))), ((a1.Below != b.Below) && ((IntKind.u64.wrap (((IntKind.u64.wrap ((IntKind.u64.wrap (e * 2 ^ (min (Int.toNat (32 : Int)) IntKind.u64.bits))) + e1))).tdiv (IntKind.u64.wrap ((IntKind.u64.wrap (e2 * 2 ^ (min (Int.toNat (32 : Int)) IntKind.u64.bits))) + e3)))) != (0 : Int)))⟩ : DBig)) ti136 fs136 zrDBig (⟨_, _, _, _, _, rfl, sfDBig_0, rfl, (ht rfl), ⟨_, _, _, _, _, rfl, sfDBig_1, rfl, (ht rfl), rfl⟩⟩)) rfl ?_
  refine RG.storeB ti136 rfl sfld_whole rfl (ht rfl) (ht rfl) ?_
  refine RG.settleB 4 rfl ?_
  refine RG.nil ?_
  refine AT.next ?_
  refine CG.ret ?_
  cases so h
  exact AT.ret1c rfl ti136 rfl rfl rfl

set_option maxRecDepth 100000 in
theorem f154_ok (a1 : DBig) {R : Int × Int × Bool} (h : ref04_Fits a1 = some R) : Spec Tryz.prog 154 [tD rpDBig a1] (tT [tD (rI .i64) R.1, tD (rI .u64) R.2.1, tD rB R.2.2]) := by
  refine Spec.of Tryz.func154 rfl rfl rfl fun w0 S0 => ?_
  refine CG.seq ?_
  refine CG.region ?_
  refine RG.op (ok_box (ht rfl)) rfl ?_
  refine RG.op (ok_assign hI) rfl ?_
  refine RG.op (ok_assign hI) rfl ?_
  refine RG.op (ok_assign hB) rfl ?_
  refine RG.nil ?_
  refine AT.next ?_
  refine CG.seq ?_
  obtain ⟨e, q_e, h⟩ := bs h
  obtain ⟨e1, q_e1, h⟩ := bs h
  obtain ⟨e2, q_e2, h⟩ := bs h
  obtain ⟨e3, q_e3, h⟩ := bs h
  refine CG.draw (ts := [tPtr (rArr (rI .u64) 8) a1.D, tPtr (rI .u64) e, tD (rI .u64) e, tD (rI .u64) (IntKind.u64.wrap (e * 2 ^ (min (Int.toNat (32 : Int)) IntKind.u64.bits))), tPtr (rArr (rI .u64) 8) a1.D, tPtr (rI .u64) e1, tD (rI .u64) e1, tD (rI .u64) (IntKind.u64.wrap ((IntKind.u64.wrap (e * 2 ^ (min (Int.toNat (32 : Int)) IntKind.u64.bits))) + e1)), tPtr (rArr (rI .u64) 8) a1.D, tPtr (rI .u64) e2, tD (rI .u64) e2, tD (rI .u64) (IntKind.u64.wrap (e2 * 2 ^ (min (Int.toNat (32 : Int)) IntKind.u64.bits))), tPtr (rArr (rI .u64) 8) a1.D, tPtr (rI .u64) e3, tD (rI .u64) e3, tD (rI .u64) (IntKind.u64.wrap ((IntKind.u64.wrap (e2 * 2 ^ (min (Int.toNat (32 : Int)) IntKind.u64.bits))) + e3)), tD (rI .u64) (IntKind.u64.wrap ((IntKind.u64.wrap (e * 2 ^ (min (Int.toNat (32 : Int)) IntKind.u64.bits))) + e1)), tD (rI .u64) (IntKind.u64.wrap ((IntKind.u64.wrap (e2 * 2 ^ (min (Int.toNat (32 : Int)) IntKind.u64.bits))) + e3))]) mixed rfl rfl
    ⟨⟨[⟨1, _, none⟩], _, rfl, ⟨rfl, trivial⟩, rfl, rfl, OpG.plain rfl (ok_fieldAddr fd136_0 rfl flDBig_0 rfl (ht rfl))⟩,
    ⟨⟨[⟨8, _, some 0⟩], _, rfl, ⟨rfl, trivial⟩, rfl, rfl, OpG.plain rfl (ok_indexAddrP Tryz.underlying134 ti31 rfl (ht rfl) hI q_e)⟩,
    ⟨⟨[⟨9, _, some 1⟩], _, rfl, ⟨rfl, trivial⟩, rfl, rfl, OpG.plain rfl (ok_load ti31 rfl rfl (ht rfl))⟩,
    ⟨⟨[⟨10, _, some 2⟩], _, rfl, ⟨rfl, trivial⟩, rfl, rfl, OpG.plain rfl (ok_shl (ht rfl) hI (by decide))⟩,
    ⟨⟨[⟨1, _, none⟩], _, rfl, ⟨rfl, trivial⟩, rfl, rfl, OpG.plain rfl (ok_fieldAddr fd136_0 rfl flDBig_0 rfl (ht rfl))⟩,
    ⟨⟨[⟨12, _, some 4⟩], _, rfl, ⟨rfl, trivial⟩, rfl, rfl, OpG.plain rfl (ok_indexAddrP Tryz.underlying134 ti31 rfl (ht rfl) hI q_e1)⟩,
    ⟨⟨[⟨13, _, some 5⟩], _, rfl, ⟨rfl, trivial⟩, rfl, rfl, OpG.plain rfl (ok_load ti31 rfl rfl (ht rfl))⟩,
    ⟨⟨[⟨11, _, some 3⟩, ⟨14, _, some 6⟩], _, rfl, ⟨rfl, rfl, trivial⟩, rfl, rfl, OpG.plain rfl (ok_add (ht rfl) (ht rfl))⟩,
    ⟨⟨[⟨1, _, none⟩], _, rfl, ⟨rfl, trivial⟩, rfl, rfl, OpG.plain rfl (ok_fieldAddr fd136_0 rfl flDBig_0 rfl (ht rfl))⟩,
    ⟨⟨[⟨16, _, some 8⟩], _, rfl, ⟨rfl, trivial⟩, rfl, rfl, OpG.plain rfl (ok_indexAddrP Tryz.underlying134 ti31 rfl (ht rfl) hI q_e2)⟩,
    ⟨⟨[⟨17, _, some 9⟩], _, rfl, ⟨rfl, trivial⟩, rfl, rfl, OpG.plain rfl (ok_load ti31 rfl rfl (ht rfl))⟩,
    ⟨⟨[⟨18, _, some 10⟩], _, rfl, ⟨rfl, trivial⟩, rfl, rfl, OpG.plain rfl (ok_shl (ht rfl) hI (by decide))⟩,
    ⟨⟨[⟨1, _, none⟩], _, rfl, ⟨rfl, trivial⟩, rfl, rfl, OpG.plain rfl (ok_fieldAddr fd136_0 rfl flDBig_0 rfl (ht rfl))⟩,
    ⟨⟨[⟨20, _, some 12⟩], _, rfl, ⟨rfl, trivial⟩, rfl, rfl, OpG.plain rfl (ok_indexAddrP Tryz.underlying134 ti31 rfl (ht rfl) hI q_e3)⟩,
    ⟨⟨[⟨21, _, some 13⟩], _, rfl, ⟨rfl, trivial⟩, rfl, rfl, OpG.plain rfl (ok_load ti31 rfl rfl (ht rfl))⟩,
    ⟨⟨[⟨19, _, some 11⟩, ⟨22, _, some 14⟩], _, rfl, ⟨rfl, rfl, trivial⟩, rfl, rfl, OpG.plain rfl (ok_add (ht rfl) (ht rfl))⟩,
    ⟨⟨[⟨15, _, some 7⟩], _, rfl, ⟨rfl, trivial⟩, rfl, rfl, OpG.plain rfl (ok_assign (ht rfl))⟩,
    ⟨⟨[⟨23, _, some 15⟩], _, rfl, ⟨rfl, trivial⟩, rfl, rfl, OpG.plain rfl (ok_assign (ht rfl))⟩,
    trivial⟩⟩⟩⟩⟩⟩⟩⟩⟩⟩⟩⟩⟩⟩⟩⟩⟩⟩ ?_
  refine AT.next ?_
  refine CG.seq ?_
  refine CG.seq ?_
  refine CG.region ?_
  refine RG.op (ok_assign hI) rfl ?_
  refine RG.nil ?_
  refine AT.next ?_
  refine CG.block ?_
  refine CG.loop ?_
  refine LG.sub (LG.nat1 (Z := fun k i  => (8 - i = k) ∧ ref04_Fits_l1 a1 e e1 e2 e3 k i  = some R) (Of := fun _ i  => []) (Gf := fun _ i  => [(1, tPtr rpDBig a1), (5, tD (rI .u64) (IntKind.u64.wrap ((IntKind.u64.wrap (e * 2 ^ (min (Int.toNat (32 : Int)) IntKind.u64.bits))) + e1))), (6, tD (rI .u64) (IntKind.u64.wrap ((IntKind.u64.wrap (e2 * 2 ^ (min (Int.toNat (32 : Int)) IntKind.u64.bits))) + e3))), (7, tD (rI .i64) (i : Int))]) (fun i  h => ?_) (fun k1 ih i  h => ?_) (8 - 4) 4  ⟨rfl, h⟩) ⟨rfl, rfl, rfl, rfl, trivial⟩
  · obtain ⟨hx, h⟩ := h
    refine LG.unfold ?_
    refine CG.seq ?_
    refine CG.seq ?_
    refine CG.region ?_
    refine RG.op (ok_move (ht rfl)) rfl ?_
    refine RG.op (ok_lss (ht rfl) hI) rfl ?_
    refine RG.nil ?_
    refine AT.next ?_
    refine CG.condF (ht rfl) (natF hx) ?_
    refine CG.exit ?_
    refine AT.then_exit (AT.then_exit (AT.in_exit ?_))
    refine AT.next ?_
    refine CG.sjoin2 (Z := fun high low => ref04_Fits_k1 a1 high low = some R) (Of := fun high low => []) (Gf := fun high low => [(1, tPtr rpDBig a1), (5, tD (rI .u64) high), (6, tD (rI .u64) low)]) (fun high low h => ?_) (fun K => ?_)
    · skip
      refine CG.seq ?_
      refine CG.draw (ts := [tD (rI .u64) high, tD (rI .i64) (IntKind.i64.wrap high), tD (rI .u64) low, tD (rI .u64) high, tD (rI .i64) (IntKind.i64.wrap high), tD rB (decide ((IntKind.i64.wrap high) < (0 : Int))), tPtr rB a1.Below, tD rB a1.Below, tD rB ((decide ((IntKind.i64.wrap high) < (0 : Int))) == a1.Below), tD (rI .i64) (IntKind.i64.wrap high), tD (rI .u64) low, tD rB ((decide ((IntKind.i64.wrap high) < (0 : Int))) == a1.Below)]) mixed rfl rfl
        ⟨⟨[⟨5, _, none⟩], _, rfl, ⟨rfl, trivial⟩, rfl, rfl, OpG.plain rfl (ok_move (ht rfl))⟩,
        ⟨⟨[⟨45, _, some 0⟩], _, rfl, ⟨rfl, trivial⟩, rfl, rfl, OpG.plain rfl (ok_conv Tryz.underlying31 Tryz.underlying2 (ht rfl))⟩,
        ⟨⟨[⟨6, _, none⟩], _, rfl, ⟨rfl, trivial⟩, rfl, rfl, OpG.plain rfl (ok_move (ht rfl))⟩,
        ⟨⟨[⟨5, _, none⟩], _, rfl, ⟨rfl, trivial⟩, rfl, rfl, OpG.plain rfl (ok_move (ht rfl))⟩,
        ⟨⟨[⟨48, _, some 3⟩], _, rfl, ⟨rfl, trivial⟩, rfl, rfl, OpG.plain rfl (ok_conv Tryz.underlying31 Tryz.underlying2 (ht rfl))⟩,
        ⟨⟨[⟨49, _, some 4⟩], _, rfl, ⟨rfl, trivial⟩, rfl, rfl, OpG.plain rfl (ok_lss (ht rfl) hI)⟩,
        ⟨⟨[⟨1, _, none⟩], _, rfl, ⟨rfl, trivial⟩, rfl, rfl, OpG.plain rfl (ok_fieldAddr fd136_1 rfl flDBig_1 rfl (ht rfl))⟩,
        ⟨⟨[⟨51, _, some 6⟩], _, rfl, ⟨rfl, trivial⟩, rfl, rfl, OpG.plain rfl (ok_load ti4 rfl rfl (ht rfl))⟩,
        ⟨⟨[⟨50, _, some 5⟩, ⟨52, _, some 7⟩], _, rfl, ⟨rfl, rfl, trivial⟩, rfl, rfl, OpG.plain rfl (ok_eqlB Tryz.underlying4 (ht rfl) (ht rfl))⟩,
        ⟨⟨[⟨46, _, some 1⟩], _, rfl, ⟨rfl, trivial⟩, rfl, rfl, OpG.plain rfl (ok_assign (ht rfl))⟩,
        ⟨⟨[⟨47, _, some 2⟩], _, rfl, ⟨rfl, trivial⟩, rfl, rfl, OpG.plain rfl (ok_assign (ht rfl))⟩,
        ⟨⟨[⟨53, _, some 8⟩], _, rfl, ⟨rfl, trivial⟩, rfl, rfl, OpG.plain rfl (ok_assign (ht rfl))⟩,
        trivial⟩⟩⟩⟩⟩⟩⟩⟩⟩⟩⟩⟩ ?_
      refine AT.next ?_
      refine CG.ret ?_
      cases so h
      exact AT.ret3 rfl rfl rfl rfl
    · skip
      refine CG.seq ?_
      refine CG.region ?_
      refine RG.op (ok_fieldAddr fd136_1 rfl flDBig_1 rfl (ht rfl)) rfl ?_
      refine RG.op (ok_load ti4 rfl rfl (ht rfl)) rfl ?_
      refine RG.nil ?_
      refine AT.next ?_
      refine CG.cond (ht rfl) (fun hc => ?_) (fun hc => ?_)
      · have h := ct h hc
        refine CG.seq ?_
        refine CG.region ?_
        refine RG.op (ok_move (ht rfl)) rfl ?_
        refine RG.op (ok_cpl (ht rfl)) rfl ?_
        refine RG.op (ok_move (ht rfl)) rfl ?_
        refine RG.op (ok_cpl (ht rfl)) rfl ?_
        refine RG.op (ok_assign (ht rfl)) rfl ?_
        refine RG.op (ok_assign (ht rfl)) rfl ?_
        refine RG.nil ?_
        refine AT.next ?_
        refine CG.seq ?_
        refine CG.region ?_
        refine RG.op (ok_move (ht rfl)) rfl ?_
        refine RG.op (ok_add (ht rfl) hI) rfl ?_
        refine RG.op (ok_assign (ht rfl)) rfl ?_
        refine RG.nil ?_
        refine AT.next ?_
        refine CG.seq ?_
        refine CG.region ?_
        refine RG.op (ok_move (ht rfl)) rfl ?_
        refine RG.op (ok_eqlI (ht rfl) hI) rfl ?_
        refine RG.nil ?_
        refine AT.next ?_
        refine CG.cond (ht rfl) (fun hc => ?_) (fun hc => ?_)
        · have h := ct h hc
          refine CG.region ?_
          refine RG.op (ok_move (ht rfl)) rfl ?_
          refine RG.op (ok_add (ht rfl) hI) rfl ?_
          refine RG.op (ok_assign (ht rfl)) rfl ?_
          refine RG.nil ?_
          exact AT.sub (K (IntKind.u64.wrap ((bitsOp .xor .u64 (if IntKind.u64.signed then -1 else IntKind.u64.max) (IntKind.u64.wrap ((IntKind.u64.wrap (e * 2 ^ (min (Int.toNat (32 : Int)) IntKind.u64.bits))) + e1))) + (1 : Int))) (IntKind.u64.wrap ((bitsOp .xor .u64 (if IntKind.u64.signed then -1 else IntKind.u64.max) (IntKind.u64.wrap ((IntKind.u64.wrap (e2 * 2 ^ (min (Int.toNat (32 : Int)) IntKind.u64.bits))) + e3))) + (1 : Int))) h) ⟨rfl, rfl, rfl, trivial⟩
        · have h := cf h hc
          refine CG.skip ?_
          exact AT.sub (K (bitsOp .xor .u64 (if IntKind.u64.signed then -1 else IntKind.u64.max) (IntKind.u64.wrap ((IntKind.u64.wrap (e * 2 ^ (min (Int.toNat (32 : Int)) IntKind.u64.bits))) + e1))) (IntKind.u64.wrap ((bitsOp .xor .u64 (if IntKind.u64.signed then -1 else IntKind.u64.max) (IntKind.u64.wrap ((IntKind.u64.wrap (e2 * 2 ^ (min (Int.toNat (32 : Int)) IntKind.u64.bits))) + e3))) + (1 : Int))) h) ⟨rfl, rfl, rfl, trivial⟩
      · have h := cf h hc
        refine CG.skip ?_
        exact AT.sub (K (IntKind.u64.wrap ((IntKind.u64.wrap (e * 2 ^ (min (Int.toNat (32 : Int)) IntKind.u64.bits))) + e1)) (IntKind.u64.wrap ((IntKind.u64.wrap (e2 * 2 ^ (min (Int.toNat (32 : Int)) IntKind.u64.bits))) + e3)) h) ⟨rfl, rfl, rfl, trivial⟩
  · obtain ⟨hx, h⟩ := h
    refine LG.unfold ?_
    refine CG.seq ?_
    refine CG.seq ?_
    refine CG.region ?_
    refine RG.op (ok_move (ht rfl)) rfl ?_
    refine RG.op (ok_lss (ht rfl) hI) rfl ?_
    refine RG.nil ?_
    refine AT.next ?_
    refine CG.condT (ht rfl) (natT hx) ?_
    refine CG.skip ?_
    refine AT.next ?_
    refine CG.seq ?_
    refine CG.block ?_
    refine CG.seq ?_
    refine CG.region ?_
    refine RG.op (ok_move (ht rfl)) rfl ?_
    refine RG.op (ok_fieldAddr fd136_0 rfl flDBig_0 rfl (ht rfl)) rfl ?_
    obtain ⟨e5, q_e5, h⟩ := bs h
    refine RG.op (ok_indexAddrP Tryz.underlying134 ti31 rfl (ht rfl) (ht rfl) q_e5) rfl ?_
    refine RG.op (ok_load ti31 rfl rfl (ht rfl)) rfl ?_
    refine RG.op (ok_neqI (ht rfl) hI) rfl ?_
    refine RG.nil ?_
    refine AT.next ?_
    refine CG.cond (ht rfl) (fun hc => ?_) (fun hc => ?_)
    · have h := ct h hc
      refine CG.seq ?_
      refine CG.region ?_
      refine RG.op (ok_assign hI) rfl ?_
      refine RG.op (ok_assign hI) rfl ?_
      refine RG.op (ok_assign hB) rfl ?_
      refine RG.nil ?_
      refine AT.next ?_
      refine CG.ret ?_
      refine AT.in_ret (AT.then_ret (AT.then_ret (AT.in_ret (AT.then_ret ?_))))
      cases so h
      exact AT.ret3 rfl rfl rfl rfl
    · have h := cf h hc
      refine CG.skip ?_
      refine AT.in_normal ?_
      refine AT.next ?_
      refine CG.region ?_
      refine RG.op (ok_move (ht rfl)) rfl ?_
      refine RG.op (ok_incN (natL hx (by decide)) (ht rfl) hI) rfl ?_
      refine RG.op (ok_assign (ht rfl)) rfl ?_
      refine RG.nil ?_
      exact AT.round (LG.sub (ih (i + 1)  ⟨natS hx, h⟩) ⟨rfl, rfl, rfl, rfl, trivial⟩)

end Go.Proofs.YtdhledkpgaeoaaaGreatDoor

