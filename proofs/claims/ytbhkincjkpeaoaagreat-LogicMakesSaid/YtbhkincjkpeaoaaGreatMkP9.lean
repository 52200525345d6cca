/- Facts of this claim: P9. -/
import Derived.Test.YtbhkincjkpeaoaaGreatMkT
import Derived.Test.YtbhkincjkpeaoaaGreatMkP8
namespace Go.Proofs.YtbhkincjkpeaoaaGreat
open Go

set_option maxRecDepth 100000 in
theorem f14_ok (a1 : DLogic) (b : DLogic) {R : Bool} (h : ref13_Same a1 b = some R) : Spec Tryz.prog 14 [tD rpDLogic a1, tD rpDLogic b] (tD rB R) := by
  refine Spec.of Tryz.func14 rfl rfl rfl fun w0 S0 => ?_
  refine CG.seq ?_
  refine CG.region ?_
  refine RG.op (ok_box (ht rfl)) rfl ?_
  refine RG.op (ok_box (ht rfl)) rfl ?_
  refine RG.op (ok_assign hB) rfl ?_
  refine RG.nil ?_
  refine AT.next ?_
  refine CG.seq ?_
  refine CG.seq ?_
  refine CG.region ?_
  refine RG.op (ok_fieldAddr fd33_0 rfl flDLogic_0 rfl (ht rfl)) rfl ?_
  refine RG.op (ok_load ti31 rfl rfl (ht rfl)) rfl ?_
  refine RG.op (ok_lenSl Tryz.underlying31 (ht rfl)) rfl ?_
  refine RG.op (ok_fieldAddr fd33_0 rfl flDLogic_0 rfl (ht rfl)) rfl ?_
  refine RG.op (ok_load ti31 rfl rfl (ht rfl)) rfl ?_
  refine RG.op (ok_lenSl Tryz.underlying31 (ht rfl)) rfl ?_
  refine RG.op (ok_neqI (ht rfl) (ht rfl)) rfl ?_
  refine RG.nil ?_
  refine AT.next ?_
  refine CG.cond (ht rfl) (fun hc => ?_) (fun hc => ?_)
  · have h := ct h hc
    refine CG.seq ?_
    refine CG.region ?_
    refine RG.op (ok_assign hB) rfl ?_
    refine RG.nil ?_
    refine AT.next ?_
    refine CG.ret ?_
    refine AT.then_ret ?_
    cases so h
    exact AT.ret1 rfl rfl
  · have h := cf h hc
    refine CG.skip ?_
    refine AT.next ?_
    refine CG.seq ?_
    refine CG.seq ?_
    refine CG.region ?_
    refine RG.op (ok_assign hI) rfl ?_
    refine RG.nil ?_
    refine AT.next ?_
    refine CG.block ?_
    refine CG.loop ?_
    refine LG.sub (LG.ind1 (Z := fun n i => ref13_Same_l1 a1 b n i = some R) (Of := fun i => []) (Gf := fun i => [(2, tPtr rpDLogic a1), (3, tPtr rpDLogic b), (5, tD (rI .i64) i)]) (fun i h => nn h) (fun n ih i h => ?_) FUEL (0 : Int) h) ⟨rfl, rfl, rfl, trivial⟩
    refine LG.unfold ?_
    refine CG.seq ?_
    refine CG.seq ?_
    refine CG.region ?_
    refine RG.op (ok_move (ht rfl)) rfl ?_
    refine RG.op (ok_fieldAddr fd33_0 rfl flDLogic_0 rfl (ht rfl)) rfl ?_
    refine RG.op (ok_load ti31 rfl rfl (ht rfl)) rfl ?_
    refine RG.op (ok_lenSl Tryz.underlying31 (ht rfl)) rfl ?_
    refine RG.op (ok_lss (ht rfl) (ht rfl)) rfl ?_
    refine RG.nil ?_
    refine AT.next ?_
    refine CG.cond (ht rfl) (fun hc => ?_) (fun hc => ?_)
    · have h := ct h hc
      refine CG.skip ?_
      refine AT.next ?_
      refine CG.seq ?_
      refine CG.block ?_
      refine CG.seq ?_
      obtain ⟨e, q_e, h⟩ := bs h
      obtain ⟨e1, q_e1, h⟩ := bs h
      obtain ⟨r, q_r, h⟩ := bs h
      refine CG.draw (ts := [tPtr (rSl rpDLNode) a1.Nodes, tD (rSl rpDLNode) a1.Nodes, tD (rI .i64) i, tPtr rpDLNode e, tD rpDLNode e, tPtr (rSl rpDLNode) b.Nodes, tD (rSl rpDLNode) b.Nodes, tD (rI .i64) i, tPtr rpDLNode e1, tD rpDLNode e1, tD rB r, tD rB (!r)]) mixed rfl rfl
        ⟨⟨[⟨2, _, none⟩], _, rfl, ⟨rfl, trivial⟩, rfl, rfl, OpG.plain rfl (ok_fieldAddr fd33_0 rfl flDLogic_0 rfl (ht rfl))⟩,
        ⟨⟨[⟨20, _, some 0⟩], _, rfl, ⟨rfl, trivial⟩, rfl, rfl, OpG.plain rfl (ok_load ti31 rfl rfl (ht rfl))⟩,
        ⟨⟨[⟨5, _, none⟩], _, rfl, ⟨rfl, trivial⟩, rfl, rfl, OpG.plain rfl (ok_move (ht rfl))⟩,
        ⟨⟨[⟨21, _, some 1⟩, ⟨22, _, some 2⟩], _, rfl, ⟨rfl, rfl, trivial⟩, rfl, rfl, OpG.plain rfl (ok_indexAddr Tryz.underlying31 ti30 rfl (ht rfl) (ht rfl) q_e)⟩,
        ⟨⟨[⟨23, _, some 3⟩], _, rfl, ⟨rfl, trivial⟩, rfl, rfl, OpG.plain rfl (ok_load ti30 rfl rfl (ht rfl))⟩,
        ⟨⟨[⟨3, _, none⟩], _, rfl, ⟨rfl, trivial⟩, rfl, rfl, OpG.plain rfl (ok_fieldAddr fd33_0 rfl flDLogic_0 rfl (ht rfl))⟩,
        ⟨⟨[⟨25, _, some 5⟩], _, rfl, ⟨rfl, trivial⟩, rfl, rfl, OpG.plain rfl (ok_load ti31 rfl rfl (ht rfl))⟩,
        ⟨⟨[⟨5, _, none⟩], _, rfl, ⟨rfl, trivial⟩, rfl, rfl, OpG.plain rfl (ok_move (ht rfl))⟩,
        ⟨⟨[⟨26, _, some 6⟩, ⟨27, _, some 7⟩], _, rfl, ⟨rfl, rfl, trivial⟩, rfl, rfl, OpG.plain rfl (ok_indexAddr Tryz.underlying31 ti30 rfl (ht rfl) (ht rfl) q_e1)⟩,
        ⟨⟨[⟨28, _, some 8⟩], _, rfl, ⟨rfl, trivial⟩, rfl, rfl, OpG.plain rfl (ok_load ti30 rfl rfl (ht rfl))⟩,
        ⟨⟨[⟨24, _, some 4⟩, ⟨29, _, some 9⟩], _, rfl, ⟨rfl, rfl, trivial⟩, rfl, rfl, OpG.plain rfl (ok_call cb31 (f31_ok _ _ q_r) ⟨(ht rfl), (ht rfl), trivial⟩)⟩,
        ⟨⟨[⟨30, _, some 10⟩], _, rfl, ⟨rfl, trivial⟩, rfl, rfl, OpG.plain rfl (ok_not (ht rfl))⟩,
        trivial⟩⟩⟩⟩⟩⟩⟩⟩⟩⟩⟩⟩ ?_
      refine AT.next ?_
      refine CG.cond (ht rfl) (fun hc => ?_) (fun hc => ?_)
      · have h := ct h hc
        refine CG.seq ?_
        refine CG.region ?_
        refine RG.op (ok_assign hB) rfl ?_
        refine RG.nil ?_
        refine AT.next ?_
        refine CG.ret ?_
        refine AT.in_ret (AT.then_ret (AT.then_ret (AT.in_ret (AT.then_ret ?_))))
        cases so h
        exact AT.ret1 rfl rfl
      · have h := cf h hc
        refine CG.skip ?_
        refine AT.in_normal ?_
        refine AT.next ?_
        refine CG.region ?_
        refine RG.op (ok_move (ht rfl)) rfl ?_
        refine RG.op (ok_add (ht rfl) hI) rfl ?_
        refine RG.op (ok_assign (ht rfl)) rfl ?_
        refine RG.nil ?_
        exact AT.round (LG.sub (ih (IntKind.i64.wrap (i + (1 : Int))) h) ⟨rfl, rfl, rfl, trivial⟩)
    · have h := cf h hc
      refine CG.exit ?_
      refine AT.then_exit (AT.then_exit (AT.in_exit ?_))
      refine AT.next ?_
      refine CG.seq ?_
      refine CG.region ?_
      refine RG.op (ok_assign hB) rfl ?_
      refine RG.nil ?_
      refine AT.next ?_
      refine CG.ret ?_
      cases so h
      exact AT.ret1 rfl rfl

set_option maxRecDepth 100000 in
theorem f12_ok (c : DLNode) (l : DLogic) (no : Int) (parts : (List DLogic)) {R : Bool} (h : law13_LogicMakes_1 c l no parts = some R) : Spec Tryz.prog 12 [tD rpDLogic l, tD (rI .i64) no, tD (rSl rpDLogic) parts, tPtr rpDLNode c] (tD rB R) := by
  refine Spec.of Tryz.func12 rfl rfl rfl fun w0 S0 => ?_
  refine CG.seq ?_
  refine CG.region ?_
  refine RG.op (ok_box (ht rfl)) rfl ?_
  refine RG.op (ok_assign hB) rfl ?_
  refine RG.nil ?_
  refine AT.next ?_
  refine CG.seq ?_
  refine CG.region ?_
  refine RG.op (ok_load ti30 rfl rfl (ht rfl)) rfl ?_
  refine RG.op (ok_move (ht rfl)) rfl ?_
  obtain ⟨r, q_r, h⟩ := bs h
  refine RG.op (ok_call cb13 (f13_ok _ _ q_r) ⟨(ht rfl), (ht rfl), trivial⟩) rfl ?_
  refine RG.op (ok_move (ht rfl)) rfl ?_
  refine RG.op (ok_extract rfl (ht rfl)) rfl ?_
  refine RG.op (ok_extract rfl (ht rfl)) rfl ?_
  refine RG.alloc (r := rpDLogic) (x := (⟨[]⟩ : DLogic)) ti33 (fun _ => zrDLogic _) rfl (fun b => ?_)
  refine RG.storeB ti33 rfl sfld_whole rfl (ht rfl) (ht rfl) ?_
  refine RG.settleB 8 rfl ?_
  refine RG.op (ok_assign (ht rfl)) rfl ?_
  refine RG.nil ?_
  refine AT.next ?_
  refine CG.seq ?_
  refine CG.seq ?_
  refine CG.region ?_
  refine RG.op (ok_move (ht rfl)) rfl ?_
  refine RG.op (ok_not (ht rfl)) rfl ?_
  refine RG.nil ?_
  refine AT.next ?_
  refine CG.cond (ht rfl) (fun hc => ?_) (fun hc => ?_)
  · have h := ct h hc
    refine CG.seq ?_
    refine CG.region ?_
    refine RG.op (ok_move (ht rfl)) rfl ?_
    refine RG.op (ok_eqlI (ht rfl) hI) rfl ?_
    refine RG.op (ok_move (ht rfl)) rfl ?_
    refine RG.opGt rfl rfl rfl rfl (fun hg => ok_fieldAddr fd33_0 rfl flDLogic_0 rfl (ht rfl)) ?_
    refine RG.opGt rfl rfl rfl rfl (fun hg => ok_load ti31 rfl rfl (htO rfl hg)) ?_
    refine RG.opGt rfl rfl rfl rfl (fun hg => ok_lenSl Tryz.underlying31 (htO rfl hg)) ?_
    refine RG.opGt rfl rfl rfl rfl (fun hg => ok_eqlI (htO rfl hg) hI) ?_
    refine RG.op (ok_pickAnd (ht rfl) (fun hb => (htO rfl hb))) rfl ?_
    refine RG.op (ok_assign (ht rfl)) rfl ?_
    refine RG.nil ?_
    refine AT.next ?_
    refine CG.ret ?_
    refine AT.then_ret ?_
    cases so h
    exact AT.ret1 rfl rfl
  · have h := cf h hc
    refine CG.skip ?_
    refine AT.next ?_
    refine CG.seq ?_
    refine CG.region ?_
    refine RG.op (ok_move (ht rfl)) rfl ?_
    refine RG.op (ok_eqlI (ht rfl) hI) rfl ?_
    refine RG.op (ok_move (ht rfl)) rfl ?_
    obtain ⟨t, q_t, h⟩ := bs h
    refine RG.opGt rfl rfl rfl rfl (fun hg => ok_load ti33 rfl rfl (ht rfl)) ?_
    refine RG.opGt rfl rfl rfl rfl (fun hg => ok_load ti33 rfl rfl (ht rfl)) ?_
    obtain ⟨r1, h1t, h0t⟩ := og q_t
    have q_r1g := fun hb => (h1t hb).1
    refine RG.opGt rfl rfl rfl rfl (fun hg => ok_call cb14 (f14_ok _ _ (q_r1g hg)) ⟨(htO rfl hg), (htO rfl hg), trivial⟩) ?_
    refine RG.op (ok_pickAndM (ht rfl) (fun hb => (htO rfl hb)) (fun hb => (h1t hb).2) h0t) rfl ?_
    refine RG.op (ok_assign (ht rfl)) rfl ?_
    refine RG.nil ?_
    refine AT.next ?_
    refine CG.ret ?_
    cases so h
    exact AT.ret1 rfl rfl

set_option maxRecDepth 100000 in
theorem f3_ok (n : DLNode) (a1 : DLogic) (b : DLogic) {R : Bool} (h : law13_LogicMakes n a1 b = some R) : Spec Tryz.prog 3 [tD rpDLNode n, tD rpDLogic a1, tD rpDLogic b] (tD rB R) := by
  refine Spec.of Tryz.func3 rfl rfl rfl fun w0 S0 => ?_
  refine CG.seq ?_
  refine CG.region ?_
  refine RG.op (ok_box (ht rfl)) rfl ?_
  refine RG.op (ok_box (ht rfl)) rfl ?_
  refine RG.op (ok_box (ht rfl)) rfl ?_
  refine RG.op (ok_assign hB) rfl ?_
  refine RG.nil ?_
  refine AT.next ?_
  refine CG.seq ?_
  refine CG.seq ?_
  refine CG.region ?_
  obtain ⟨r, q_r, h⟩ := bs h
  refine RG.op (ok_call cb6 (f6_ok  q_r) trivial) rfl ?_
  refine RG.op (ok_not (ht rfl)) rfl ?_
  refine RG.nil ?_
  refine AT.next ?_
  refine CG.cond (ht rfl) (fun hc => ?_) (fun hc => ?_)
  · have h := ct h hc
    refine CG.seq ?_
    refine CG.region ?_
    refine RG.op (ok_assign hB) rfl ?_
    refine RG.nil ?_
    refine AT.next ?_
    refine CG.ret ?_
    refine AT.then_ret ?_
    cases so h
    exact AT.ret1 rfl rfl
  · have h := cf h hc
    refine CG.skip ?_
    refine AT.next ?_
    refine CG.seq ?_
    refine CG.seq ?_
    refine CG.region ?_
    refine RG.op (ok_load ti30 rfl rfl (ht rfl)) rfl ?_
    obtain ⟨r1, q_r1, h⟩ := bs h
    refine RG.op (ok_call cb7 (f7_ok _ q_r1) ⟨(ht rfl), trivial⟩) rfl ?_
    refine RG.op (ok_move (ht rfl)) rfl ?_
    obtain ⟨t, q_t, h⟩ := bs h
    refine RG.opGf rfl rfl rfl rfl (fun hg => ok_load ti33 rfl rfl (ht rfl)) ?_
    obtain ⟨r2, h1t, h0t⟩ := og q_t
    have q_r2g := fun hb => (h1t hb).1
    refine RG.opGf rfl rfl rfl rfl (fun hg => ok_call cb8 (f8_ok _ (q_r2g hg)) ⟨(htO rfl hg), trivial⟩) ?_
    refine RG.op (ok_pickOrM (ht rfl) (fun hb => (htO rfl (noti hb))) (fun hb => (h1t hb).2) h0t) rfl ?_
    refine RG.op (ok_move (ht rfl)) rfl ?_
    obtain ⟨t1, q_t1, h⟩ := bs h
    refine RG.opGf rfl rfl rfl rfl (fun hg => ok_load ti33 rfl rfl (ht rfl)) ?_
    obtain ⟨r3, h1t1, h0t1⟩ := og q_t1
    have q_r3g := fun hb => (h1t1 hb).1
    refine RG.opGf rfl rfl rfl rfl (fun hg => ok_call cb8 (f8_ok _ (q_r3g hg)) ⟨(htO rfl hg), trivial⟩) ?_
    refine RG.op (ok_pickOrM (ht rfl) (fun hb => (htO rfl (noti hb))) (fun hb => (h1t1 hb).2) h0t1) rfl ?_
    refine RG.nil ?_
    refine AT.next ?_
    refine CG.cond (ht rfl) (fun hc => ?_) (fun hc => ?_)
    · have h := ct h hc
      refine CG.seq ?_
      refine CG.region ?_
      refine RG.op (ok_assign hB) rfl ?_
      refine RG.nil ?_
      refine AT.next ?_
      refine CG.ret ?_
      refine AT.then_ret ?_
      cases so h
      exact AT.ret1 rfl rfl
    · have h := cf h hc
      refine CG.skip ?_
      refine AT.next ?_
      refine CG.seq ?_
      refine CG.region ?_
      refine RG.op (ok_load ti30 rfl rfl (ht rfl)) rfl ?_
      obtain ⟨r4, q_r4, h⟩ := bs h
      refine RG.op (ok_call cb9 (f9_ok _ q_r4) ⟨(ht rfl), trivial⟩) rfl ?_
      refine RG.op (ok_move (ht rfl)) rfl ?_
      refine RG.op (ok_extract rfl (ht rfl)) rfl ?_
      refine RG.op (ok_extract rfl (ht rfl)) rfl ?_
      refine RG.alloc (r := rpDLogic) (x := (⟨[]⟩ : DLogic)) ti33 (fun _ => zrDLogic _) rfl (fun b1 => ?_)
      refine RG.storeB ti33 rfl sfld_whole rfl (ht rfl) (ht rfl) ?_
      refine RG.settleB 7 rfl ?_
      refine RG.op (ok_assign (ht rfl)) rfl ?_
      refine RG.nil ?_
      refine AT.next ?_
      refine CG.seq ?_
      refine CG.region ?_
      refine RG.op (ok_load ti30 rfl rfl (ht rfl)) rfl ?_
      refine RG.op (ok_load ti33 rfl rfl (ht rfl)) rfl ?_
      obtain ⟨r5, q_r5, h⟩ := bs h
      refine RG.op (ok_call cb10 (f10_ok _ _ q_r5) ⟨(ht rfl), (ht rfl), trivial⟩) rfl ?_
      refine RG.op (ok_move (ht rfl)) rfl ?_
      refine RG.op (ok_extract rfl (ht rfl)) rfl ?_
      refine RG.op (ok_extract rfl (ht rfl)) rfl ?_
      refine RG.alloc (r := rpDLogic) (x := (⟨[]⟩ : DLogic)) ti33 (fun _ => zrDLogic _) rfl (fun b2 => ?_)
      refine RG.storeB ti33 rfl sfld_whole rfl (ht rfl) (ht rfl) ?_
      refine RG.settleB 9 rfl ?_
      refine RG.op (ok_assign (ht rfl)) rfl ?_
      refine RG.nil ?_
      refine AT.next ?_
      refine CG.seq ?_
      refine CG.region ?_
      refine RG.op (ok_load ti30 rfl rfl (ht rfl)) rfl ?_
      refine RG.op (ok_load ti33 rfl rfl (ht rfl)) rfl ?_
      refine RG.op (ok_load ti33 rfl rfl (ht rfl)) rfl ?_
      obtain ⟨r6, q_r6, h⟩ := bs h
      refine RG.op (ok_call cb11 (f11_ok _ _ _ q_r6) ⟨(ht rfl), (ht rfl), (ht rfl), trivial⟩) rfl ?_
      refine RG.op (ok_move (ht rfl)) rfl ?_
      refine RG.op (ok_extract rfl (ht rfl)) rfl ?_
      refine RG.op (ok_extract rfl (ht rfl)) rfl ?_
      refine RG.alloc (r := rpDLogic) (x := (⟨[]⟩ : DLogic)) ti33 (fun _ => zrDLogic _) rfl (fun b3 => ?_)
      refine RG.storeB ti33 rfl sfld_whole rfl (ht rfl) (ht rfl) ?_
      refine RG.settleB 11 rfl ?_
      refine RG.op (ok_assign (ht rfl)) rfl ?_
      refine RG.nil ?_
      refine AT.next ?_
      refine CG.seq ?_
      refine CG.region ?_
      refine RG.op ((show OpOK _ _ _ _ ((tFun Tryz.prog (fun (x : DLogic × Int × (List DLogic)) => [tD rpDLogic x.1, tD (rI .i64) x.2.1, tD (rSl rpDLogic) x.2.2]) (fun (x : Bool) => tD rB x) (fun (x : DLogic × Int × (List DLogic)) => (law13_LogicMakes_1 n) x.1 x.2.1 x.2.2))) from ok_makeFunc (cts := [tPtr rpDLNode n]) (caps := [.tmp 3]) cb12 ⟨(ht rfl), trivial⟩ (fun x y h => f12_ok _ _ _ _ h))) rfl ?_
      refine RG.op (ok_assign (ht rfl)) rfl ?_
      refine RG.nil ?_
      refine AT.next ?_
      refine CG.seq ?_
      refine CG.region ?_
      refine RG.op (ok_move (ht rfl)) rfl ?_
      refine RG.op (ok_load ti33 rfl rfl (ht rfl)) rfl ?_
      refine RG.op (ok_move (ht rfl)) rfl ?_
      obtain ⟨r7, q_r7, h⟩ := bs h
      refine RG.op (ok_callV (args := (fun (x : DLogic × Int × (List DLogic)) => [tD rpDLogic x.1, tD (rI .i64) x.2.1, tD (rSl rpDLogic) x.2.2])) (res := (fun (x : Bool) => tD rB x)) (f := (fun (x : DLogic × Int × (List DLogic)) => (law13_LogicMakes_1 n) x.1 x.2.1 x.2.2)) (x := ((r4.1, r4.2, []) : DLogic × Int × (List DLogic))) (ht rfl) q_r7 ⟨(ht rfl), (ht rfl), hNil, trivial⟩) rfl ?_
      refine RG.op (ok_move (ht rfl)) rfl ?_
      obtain ⟨t2, q_t2, h⟩ := bs h
      refine RG.opGt rfl rfl rfl rfl (fun hg => ok_move (ht rfl)) ?_
      refine RG.opGt rfl rfl rfl rfl (fun hg => ok_load ti33 rfl rfl (ht rfl)) ?_
      refine RG.opGt rfl rfl rfl rfl (fun hg => ok_move (ht rfl)) ?_
      refine RG.opGt rfl rfl rfl rfl (fun hg => ok_load ti33 rfl rfl (ht rfl)) ?_
      refine RG.opGt rfl rfl rfl rfl (fun hg => ok_buildSlice (r := rpDLogic) (ys := [a1]) (xs := [.tmp 53]) Tryz.underlying42 ti33 rfl rfl rfl rfl rfl ⟨(htO rfl hg), trivial⟩) ?_
      obtain ⟨r8, h1t2, h0t2⟩ := og q_t2
      have q_r8g := fun hb => (h1t2 hb).1
      refine RG.opGt rfl rfl rfl rfl (fun hg => ok_callV (args := (fun (x : DLogic × Int × (List DLogic)) => [tD rpDLogic x.1, tD (rI .i64) x.2.1, tD (rSl rpDLogic) x.2.2])) (res := (fun (x : Bool) => tD rB x)) (f := (fun (x : DLogic × Int × (List DLogic)) => (law13_LogicMakes_1 n) x.1 x.2.1 x.2.2)) (x := ((r5.1, r5.2, [a1]) : DLogic × Int × (List DLogic))) (htO rfl hg) (q_r8g hg) ⟨(htO rfl hg), (htO rfl hg), (htO rfl hg), trivial⟩) ?_
      refine RG.op (ok_pickAndM (ht rfl) (fun hb => (htO rfl hb)) (fun hb => (h1t2 hb).2) h0t2) rfl ?_
      refine RG.op (ok_move (ht rfl)) rfl ?_
      obtain ⟨t3, q_t3, h⟩ := bs h
      refine RG.opGt rfl rfl rfl rfl (fun hg => ok_move (ht rfl)) ?_
      refine RG.opGt rfl rfl rfl rfl (fun hg => ok_load ti33 rfl rfl (ht rfl)) ?_
      refine RG.opGt rfl rfl rfl rfl (fun hg => ok_move (ht rfl)) ?_
      refine RG.opGt rfl rfl rfl rfl (fun hg => ok_load ti33 rfl rfl (ht rfl)) ?_
      refine RG.opGt rfl rfl rfl rfl (fun hg => ok_load ti33 rfl rfl (ht rfl)) ?_
      refine RG.opGt rfl rfl rfl rfl (fun hg => ok_buildSlice (r := rpDLogic) (ys := [a1, b]) (xs := [.tmp 61, .tmp 62]) Tryz.underlying42 ti33 rfl rfl rfl rfl rfl ⟨(htO rfl hg), (htO rfl hg), trivial⟩) ?_
      obtain ⟨r9, h1t3, h0t3⟩ := og q_t3
      have q_r9g := fun hb => (h1t3 hb).1
      refine RG.opGt rfl rfl rfl rfl (fun hg => ok_callV (args := (fun (x : DLogic × Int × (List DLogic)) => [tD rpDLogic x.1, tD (rI .i64) x.2.1, tD (rSl rpDLogic) x.2.2])) (res := (fun (x : Bool) => tD rB x)) (f := (fun (x : DLogic × Int × (List DLogic)) => (law13_LogicMakes_1 n) x.1 x.2.1 x.2.2)) (x := ((r6.1, r6.2, [a1, b]) : DLogic × Int × (List DLogic))) (htO rfl hg) (q_r9g hg) ⟨(htO rfl hg), (htO rfl hg), (htO rfl hg), trivial⟩) ?_
      refine RG.op (ok_pickAndM (ht rfl) (fun hb => (htO rfl hb)) (fun hb => (h1t3 hb).2) h0t3) rfl ?_
      refine RG.op (ok_assign (ht rfl)) rfl ?_
      refine RG.nil ?_
      refine AT.next ?_
      refine CG.ret ?_
      cases so h
      exact AT.ret1 rfl rfl

end Go.Proofs.YtbhkincjkpeaoaaGreat

