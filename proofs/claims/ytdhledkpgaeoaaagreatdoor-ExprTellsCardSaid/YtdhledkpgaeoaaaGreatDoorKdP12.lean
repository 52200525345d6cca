/- Facts of this claim: P12. -/
import Derived.Test.YtdhledkpgaeoaaaGreatDoorKdT
import Derived.Test.YtdhledkpgaeoaaaGreatDoorKdP11
namespace Go.Proofs.YtdhledkpgaeoaaaGreatDoor
open Go

set_option maxRecDepth 100000 in
theorem f8_ok (l : (List DExpr)) (kinds : (List Int)) (lefts : (List Int)) {R : Bool} (h : law10_ExprTells l kinds lefts = some R) : Spec Tryz.prog 8 [tD (rSl rpDExpr) l, tD (rSl (rI .i64)) kinds, tD (rSl (rI .i64)) lefts] (tD rB R) := by
  refine Spec.of Tryz.func8 rfl rfl rfl fun w0 S0 => ?_
  refine CG.seq ?_
  refine CG.region ?_
  refine RG.op (ok_assign hB) rfl ?_
  refine RG.nil ?_
  refine AT.next ?_
  refine CG.seq ?_
  refine CG.seq ?_
  refine CG.region ?_
  obtain ⟨r, q_r, h⟩ := bs h
  refine RG.op (ok_call cb9 (f9_ok  q_r) trivial) rfl ?_
  refine RG.op (ok_not (ht rfl)) rfl ?_
  refine RG.nil ?_
  refine AT.next ?_
  refine CG.cond (ht rfl) (fun hc => ?_) (fun hc => ?_)
  · have h := ct h hc
    refine CG.seq ?_
    refine CG.region ?_
    refine RG.op (ok_assign hB) rfl ?_
    refine RG.nil ?_
    refine AT.next ?_
    refine CG.ret ?_
    refine AT.then_ret ?_
    cases so h
    exact AT.ret1 rfl rfl
  · have h := cf h hc
    refine CG.skip ?_
    refine AT.next ?_
    refine CG.seq ?_
    refine CG.region ?_
    refine RG.op (ok_move (ht rfl)) rfl ?_
    obtain ⟨r1, q_r1, h⟩ := bs h
    refine RG.callO cb22 (f22_own _ _ q_r1) ⟨(ht rfl), hI, trivial⟩ rfl (fun l1 c => ?_)
    refine RG.op (ok_assign (ht rfl)) rfl ?_
    refine RG.nil ?_
    refine AT.next ?_
    refine CG.seq ?_
    refine CG.seq ?_
    refine CG.region ?_
    refine RG.op (ok_move (ht rfl)) rfl ?_
    refine RG.op (ok_lenSl Tryz.underlying51 (ht rfl)) rfl ?_
    refine RG.op (ok_move hI) rfl ?_
    refine RG.nil ?_
    refine AT.next ?_
    refine CG.bjoin0 (Z := law10_ExprTells_k1 = some R) (Of := []) (Gf := []) (fun h => ?_) (fun K => ?_)
    · skip
      refine AT.next ?_
      refine CG.seq ?_
      refine CG.region ?_
      refine RG.op (ok_assign hB) rfl ?_
      refine RG.nil ?_
      refine AT.next ?_
      refine CG.ret ?_
      cases so h
      exact AT.ret1 rfl rfl
    · skip
      refine CG.have_len (k := 33) rfl (fun hN => ?_)
      refine CG.loop ?_
      refine LG.freeze ?_
      refine LG.tipAt 1 rfl ?_
      refine LG.tipAt 32 rfl ?_
      refine LG.sub (LG.list1 (Z := fun ls i  => (l.drop i = ls) ∧ law10_ExprTells_l1 l lefts r1 ls i  = some R) (Of := fun _ i  => [tip (rI .i64) 3 l1 c r1]) (Gf := fun _ i  => [(0, tD (rSl rpDExpr) l), (1, tO (rI .i64) l1 c r1), (2, tD (rSl (rI .i64)) lefts), (33, tD (rSl rpDExpr) l), (34, tD (rI .i64) (l.length : Int)), (35, tD (rI .i64) (i : Int))]) (fun i  h => ?_) (fun e tl ih i  h => ?_) l 0  ⟨rfl, h⟩) ⟨rfl, rfl, rfl, rfl, rfl, rfl, trivial⟩
      · obtain ⟨hx, h⟩ := h
        refine LG.unfold ?_
        refine CG.seq ?_
        refine CG.region ?_
        refine RG.op (ok_lss (ht rfl) (ht rfl)) rfl ?_
        refine RG.nil ?_
        refine AT.next ?_
        refine CG.seq ?_
        refine CG.condF (ht rfl) (dropF hx) ?_
        refine CG.exit ?_
        refine AT.then_exit (AT.then_exit (AT.in_exit ?_))
        refine AT.drop ?_
        exact AT.sub (K h) trivial
      · obtain ⟨hx, h⟩ := h
        refine LG.unfold ?_
        refine CG.seq ?_
        refine CG.region ?_
        refine RG.op (ok_lss (ht rfl) (ht rfl)) rfl ?_
        refine RG.nil ?_
        refine AT.next ?_
        refine CG.seq ?_
        refine CG.condT (ht rfl) (dropT hx) ?_
        refine CG.skip ?_
        refine AT.next ?_
        refine CG.seq ?_
        refine CG.bjoin0 (Z := law10_ExprTells_k2 (law10_ExprTells_l1 l lefts r1 tl) i = some R) (Of := [tip (rI .i64) 3 l1 c r1]) (Gf := [(0, tD (rSl rpDExpr) l), (1, tO (rI .i64) l1 c r1), (2, tD (rSl (rI .i64)) lefts), (33, tD (rSl rpDExpr) l), (34, tD (rI .i64) (l.length : Int)), (35, tD (rI .i64) (i : Int))]) (fun h => ?_) (fun K1 => ?_)
        · skip
          refine AT.next ?_
          refine CG.region ?_
          refine RG.op (ok_incN (dropL hx hN) (ht rfl) hI) rfl ?_
          refine RG.op (ok_move (ht rfl)) rfl ?_
          refine RG.nil ?_
          exact AT.round (LG.sub (ih (i + 1)  ⟨dropS hx, h⟩) ⟨rfl, rfl, rfl, rfl, rfl, rfl, trivial⟩)
        · skip
          refine CG.seq ?_
          refine CG.region ?_
          refine RG.op (ok_move (ht rfl)) rfl ?_
          refine RG.op (ok_indexAddr Tryz.underlying51 ti24 rfl (ht rfl) (ht rfl) (dropI hx)) rfl ?_
          refine RG.op (ok_load ti24 rfl rfl (ht rfl)) rfl ?_
          refine RG.alloc (r := rpDExpr) (x := (⟨[]⟩ : DExpr)) ti24 (fun _ => zrDExpr _) rfl (fun b => ?_)
          refine RG.op (ok_assign (ht rfl)) rfl ?_
          refine RG.storeB ti24 rfl sfld_whole rfl (ht rfl) (ht rfl) ?_
          refine RG.settleB 8 rfl ?_
          refine RG.nil ?_
          refine AT.next ?_
          refine CG.seq ?_
          refine CG.seq ?_
          refine CG.region ?_
          refine RG.op (ok_move (ht rfl)) rfl ?_
          refine RG.op (ok_eqlI (ht rfl) hI) rfl ?_
          refine RG.nil ?_
          refine AT.next ?_
          refine CG.cond (ht rfl) (fun hc => ?_) (fun hc => ?_)
          · have h := ct h hc
            refine CG.exit ?_
            refine AT.then_exit (AT.in_exit_ne rfl (AT.then_exit (AT.then_exit (AT.in_exit ?_))))
            refine AT.drop ?_
            exact AT.sub (K h) trivial
          · have h := cf h hc
            refine CG.skip ?_
            refine AT.next ?_
            refine CG.seq ?_
            obtain ⟨r2, q_r2, h⟩ := bs h
            obtain ⟨e1, q_e1, h⟩ := bs h
            obtain ⟨r3, q_r3, h⟩ := bs h
            refine CG.drawU 8 [tc (tD rpDExpr e), tc (tD rpDExpr r2), tc (tD (rSl rpDExpr) l), tc (tPtr rpDExpr e1), tc (tD rpDExpr e1), tc (tD rpDExpr r3), ([6], fun s => tV (bptr ((s.getD 0 zoi).h 0).2 0)), ([7], fun s => tV (bptr ((s.getD 0 zoi).h 0).2 0))] [false, false, false, false, false, false, true, true] [([], fun _ => [tip (rI .i64) 3 l1 c r1]), ([6], fun sg => [bx rpDExpr 24 ((sg 6).h 0).2 (⟨[]⟩ : DExpr), tip (rI .i64) 3 l1 c r1]), ([7], fun sg => [bx rpDExpr 24 ((sg 7).h 0).2 (⟨[]⟩ : DExpr), tip (rI .i64) 3 l1 c r1]), ([6, 7], fun sg => [bx rpDExpr 24 ((sg 7).h 0).2 (⟨[]⟩ : DExpr), bx rpDExpr 24 ((sg 6).h 0).2 (⟨[]⟩ : DExpr), tip (rI .i64) 3 l1 c r1])] (fun _ => rfl) mixed rfl rfl rfl rfl
              ⟨⟨[⟨8, fun _ => tPtr rpDExpr e, none⟩], _, [[], [6], [7], [6, 7]], rfl, ⟨(fun _ => rfl), trivial⟩, rfl, rfl, rfl, rfl, rfl, ⟨fun sg => OpG.plain rfl (ok_load ti24 rfl rfl (ht rfl)), fun sg => OpG.plain rfl (ok_load ti24 rfl rfl (ht rfl)), fun sg => OpG.plain rfl (ok_load ti24 rfl rfl (ht rfl)), fun sg => OpG.plain rfl (ok_load ti24 rfl rfl (ht rfl)), trivial⟩⟩,
              ⟨⟨[⟨42, fun _ => tD rpDExpr e, some 0⟩], _, [[], [6], [7], [6, 7]], rfl, ⟨(fun _ => rfl), trivial⟩, rfl, rfl, rfl, rfl, rfl, ⟨fun sg => OpG.plain rfl (ok_call cb10 (f10_ok _ _ q_r2) ⟨(ht rfl), hI, trivial⟩), fun sg => OpG.plain rfl (ok_call cb10 (f10_ok _ _ q_r2) ⟨(ht rfl), hI, trivial⟩), fun sg => OpG.plain rfl (ok_call cb10 (f10_ok _ _ q_r2) ⟨(ht rfl), hI, trivial⟩), fun sg => OpG.plain rfl (ok_call cb10 (f10_ok _ _ q_r2) ⟨(ht rfl), hI, trivial⟩), trivial⟩⟩,
              ⟨⟨[⟨0, fun _ => tD (rSl rpDExpr) l, none⟩], _, [[], [6], [7], [6, 7]], rfl, ⟨(fun _ => rfl), trivial⟩, rfl, rfl, rfl, rfl, rfl, ⟨fun sg => OpG.plain rfl (ok_move (ht rfl)), fun sg => OpG.plain rfl (ok_move (ht rfl)), fun sg => OpG.plain rfl (ok_move (ht rfl)), fun sg => OpG.plain rfl (ok_move (ht rfl)), trivial⟩⟩,
              ⟨⟨[⟨44, fun _ => tD (rSl rpDExpr) l, some 2⟩], _, [[], [6], [7], [6, 7]], rfl, ⟨(fun _ => rfl), trivial⟩, rfl, rfl, rfl, rfl, rfl, ⟨fun sg => OpG.plain rfl (ok_indexAddr Tryz.underlying51 ti24 rfl (ht rfl) hI q_e1), fun sg => OpG.plain rfl (ok_indexAddr Tryz.underlying51 ti24 rfl (ht rfl) hI q_e1), fun sg => OpG.plain rfl (ok_indexAddr Tryz.underlying51 ti24 rfl (ht rfl) hI q_e1), fun sg => OpG.plain rfl (ok_indexAddr Tryz.underlying51 ti24 rfl (ht rfl) hI q_e1), trivial⟩⟩,
              ⟨⟨[⟨45, fun _ => tPtr rpDExpr e1, some 3⟩], _, [[], [6], [7], [6, 7]], rfl, ⟨(fun _ => rfl), trivial⟩, rfl, rfl, rfl, rfl, rfl, ⟨fun sg => OpG.plain rfl (ok_load ti24 rfl rfl (ht rfl)), fun sg => OpG.plain rfl (ok_load ti24 rfl rfl (ht rfl)), fun sg => OpG.plain rfl (ok_load ti24 rfl rfl (ht rfl)), fun sg => OpG.plain rfl (ok_load ti24 rfl rfl (ht rfl)), trivial⟩⟩,
              ⟨⟨[⟨46, fun _ => tD rpDExpr e1, some 4⟩], _, [[], [6], [7], [6, 7]], rfl, ⟨(fun _ => rfl), trivial⟩, rfl, rfl, rfl, rfl, rfl, ⟨fun sg => OpG.plain rfl (ok_call cb10 (f10_ok _ _ q_r3) ⟨(ht rfl), hI, trivial⟩), fun sg => OpG.plain rfl (ok_call cb10 (f10_ok _ _ q_r3) ⟨(ht rfl), hI, trivial⟩), fun sg => OpG.plain rfl (ok_call cb10 (f10_ok _ _ q_r3) ⟨(ht rfl), hI, trivial⟩), fun sg => OpG.plain rfl (ok_call cb10 (f10_ok _ _ q_r3) ⟨(ht rfl), hI, trivial⟩), trivial⟩⟩,
              ⟨⟨[], _, [([], [6]), ([7], [6, 7])], rfl, trivial, rfl, rfl, rfl, rfl, rfl, ⟨fun sg => EffG.plain rfl (eff_alloc (r := rpDExpr) (x := (⟨[]⟩ : DExpr)) ti24 (fun _ => zrDExpr _)), fun sg => EffG.plain rfl (EffOK.post_imp (post := fun x__ => (fun (sg : Nat → OI) => [bx rpDExpr 24 ((sg 6).h 0).2 (⟨[]⟩ : DExpr), bx rpDExpr 24 ((sg 7).h 0).2 (⟨[]⟩ : DExpr), tip (rI .i64) 3 l1 c r1]) (upd sg 6 x__)) (eff_alloc (r := rpDExpr) (x := (⟨[]⟩ : DExpr)) ti24 (fun _ => zrDExpr _)) (fun h => Own.pick [1, 0, 2] rfl h)), trivial⟩⟩,
              ⟨⟨[], _, [([], [7]), ([6], [6, 7])], rfl, trivial, rfl, rfl, rfl, rfl, rfl, ⟨fun sg => EffG.plain rfl (eff_alloc (r := rpDExpr) (x := (⟨[]⟩ : DExpr)) ti24 (fun _ => zrDExpr _)), fun sg => EffG.plain rfl (eff_alloc (r := rpDExpr) (x := (⟨[]⟩ : DExpr)) ti24 (fun _ => zrDExpr _)), trivial⟩⟩,
              trivial⟩⟩⟩⟩⟩⟩⟩⟩ (fun sg => ?_)
            refine (show RG _ _ _ _ [bx rpDExpr 24 ((sg 7).h 0).2 (⟨[]⟩ : DExpr), bx rpDExpr 24 ((sg 6).h 0).2 (⟨[]⟩ : DExpr), tip (rI .i64) 3 l1 c r1] _ from ?_)
            refine RG.front1 ?_
            refine RG.storeB ti24 rfl sfld_whole rfl (ht rfl) (ht rfl) ?_
            refine RG.settleB 9 rfl ?_
            refine RG.storeB ti24 rfl sfld_whole rfl (ht rfl) (ht rfl) ?_
            refine RG.settleB 10 rfl ?_
            refine RG.nil ?_
            refine AT.next ?_
            refine CG.seq ?_
            refine CG.region ?_
            refine RG.op (ok_load ti24 rfl rfl (ht rfl)) rfl ?_
            obtain ⟨r4, q_r4, h⟩ := bs h
            refine RG.op (ok_call cb13 (f13_ok _ q_r4) ⟨(ht rfl), trivial⟩) rfl ?_
            refine RG.op (ok_assign (ht rfl)) rfl ?_
            refine RG.nil ?_
            refine AT.next ?_
            refine CG.seq ?_
            refine CG.seq ?_
            refine CG.region ?_
            refine RG.op (ok_load ti24 rfl rfl (ht rfl)) rfl ?_
            obtain ⟨r5, q_r5, h⟩ := bs h
            refine RG.op (ok_call cb27 (f27_ok _ q_r5) ⟨(ht rfl), trivial⟩) rfl ?_
            refine RG.op (ok_assign (ht rfl)) rfl ?_
            refine RG.nil ?_
            refine AT.next ?_
            refine CG.seq ?_
            obtain ⟨t, q_t, h⟩ := bs h
            obtain ⟨r6, h1t, h0t⟩ := og q_t
            have q_r6g := fun hb => (h1t hb).1
            obtain ⟨r7, h1t⟩ := og2 (fun hb => (h1t hb).2)
            have q_r7g := fun hb => (h1t hb).1
            obtain ⟨t1, q_t1, h⟩ := bs h
            obtain ⟨r8, h1t1, h0t1⟩ := og q_t1
            have q_r8g := fun hb => (h1t1 hb).1
            obtain ⟨r9, h1t1⟩ := og2 (fun hb => (h1t1 hb).2)
            have q_r9g := fun hb => (h1t1 hb).1
            refine CG.draw (ts := [tD (rI .i64) r5, tD rB (r5 == (0 : Int)), tD rB r4, tD rB ((r5 == (0 : Int)) != r4), tD rB ((r5 == (0 : Int)) != r4), tOpt (!((r5 == (0 : Int)) != r4)) (tD rB r4), tOpt (!((r5 == (0 : Int)) != r4)) (tD rB (!r4)), tOpt (!((r5 == (0 : Int)) != r4)) (tD rB (!r4)), tOpt ((!((r5 == (0 : Int)) != r4)) && (!r4)) (tD (rI .i64) r5), tOpt ((!((r5 == (0 : Int)) != r4)) && (!r4)) (tD rB (r5 != (200 : Int))), tOpt (!((r5 == (0 : Int)) != r4)) (tD rB ((!r4) && (r5 != (200 : Int)))), tD rB (((r5 == (0 : Int)) != r4) || ((!r4) && (r5 != (200 : Int)))), tD rB (((r5 == (0 : Int)) != r4) || ((!r4) && (r5 != (200 : Int)))), tOpt (!(((r5 == (0 : Int)) != r4) || ((!r4) && (r5 != (200 : Int))))) (tD rpDExpr r2), tOpt (!(((r5 == (0 : Int)) != r4) || ((!r4) && (r5 != (200 : Int))))) (tD rpDExpr r3), tOpt (!(((r5 == (0 : Int)) != r4) || ((!r4) && (r5 != (200 : Int))))) (tD rB r6), tOpt (!(((r5 == (0 : Int)) != r4) || ((!r4) && (r5 != (200 : Int))))) (tD rpDExpr r2), tOpt (!(((r5 == (0 : Int)) != r4) || ((!r4) && (r5 != (200 : Int))))) (tD rpDExpr r3), tOpt (!(((r5 == (0 : Int)) != r4) || ((!r4) && (r5 != (200 : Int))))) (tD rB r7), tOpt (!(((r5 == (0 : Int)) != r4) || ((!r4) && (r5 != (200 : Int))))) (tD rB (r6 != r7)), tD rB t, tD rB t, tOpt (!t) (tD rpDExpr r2), tOpt (!t) (tD rpDExpr e), tOpt (!t) (tD rpDExpr r8), tOpt (!t) (tD rB r9), tOpt (!t) (tD rB (!r9)), tD rB t1]) mixed rfl rfl
              ⟨⟨[⟨12, _, none⟩], _, rfl, ⟨rfl, trivial⟩, rfl, rfl, OpG.plain rfl (ok_move (ht rfl))⟩,
              ⟨⟨[⟨52, _, some 0⟩], _, rfl, ⟨rfl, trivial⟩, rfl, rfl, OpG.plain rfl (ok_eqlI (ht rfl) hI)⟩,
              ⟨⟨[⟨11, _, none⟩], _, rfl, ⟨rfl, trivial⟩, rfl, rfl, OpG.plain rfl (ok_move (ht rfl))⟩,
              ⟨⟨[⟨53, _, some 1⟩, ⟨54, _, some 2⟩], _, rfl, ⟨rfl, rfl, trivial⟩, rfl, rfl, OpG.plain rfl (ok_neqB Tryz.underlying4 (ht rfl) (ht rfl))⟩,
              ⟨⟨[⟨55, _, some 3⟩], _, rfl, ⟨rfl, trivial⟩, rfl, rfl, OpG.plain rfl (ok_move (ht rfl))⟩,
              ⟨⟨[⟨11, _, none⟩, ⟨56, _, some 4⟩], _, rfl, ⟨rfl, rfl, trivial⟩, rfl, rfl, OpG.gf rfl rfl rfl rfl (fun hg => ok_move (ht rfl))⟩,
              ⟨⟨[⟨57, _, some 5⟩, ⟨56, _, some 4⟩], _, rfl, ⟨rfl, rfl, trivial⟩, rfl, rfl, OpG.gf rfl rfl rfl rfl (fun hg => ok_not (htO rfl hg))⟩,
              ⟨⟨[⟨58, _, some 6⟩, ⟨56, _, some 4⟩], _, rfl, ⟨rfl, rfl, trivial⟩, rfl, rfl, OpG.gf rfl rfl rfl rfl (fun hg => ok_move (htO rfl hg))⟩,
              ⟨⟨[⟨12, _, none⟩, ⟨59, _, some 7⟩], _, rfl, ⟨rfl, rfl, trivial⟩, rfl, rfl, OpG.got rfl rfl rfl rfl (fun hg => ok_move (ht rfl))⟩,
              ⟨⟨[⟨60, _, some 8⟩, ⟨59, _, some 7⟩], _, rfl, ⟨rfl, rfl, trivial⟩, rfl, rfl, OpG.got rfl rfl rfl rfl (fun hg => ok_neqI (htO rfl hg) hI)⟩,
              ⟨⟨[⟨59, _, some 7⟩, ⟨61, _, some 9⟩, ⟨56, _, some 4⟩], _, rfl, ⟨rfl, rfl, rfl, trivial⟩, rfl, rfl, OpG.gf rfl rfl rfl rfl (fun hg => ok_pickAnd (htO rfl hg) (fun hb => (htO rfl (andi hg hb))))⟩,
              ⟨⟨[⟨56, _, some 4⟩, ⟨62, _, some 10⟩], _, rfl, ⟨rfl, rfl, trivial⟩, rfl, rfl, OpG.plain rfl (ok_pickOr (ht rfl) (fun hb => (htO rfl (noti hb))))⟩,
              ⟨⟨[⟨63, _, some 11⟩], _, rfl, ⟨rfl, trivial⟩, rfl, rfl, OpG.plain rfl (ok_move (ht rfl))⟩,
              ⟨⟨[⟨9, _, none⟩, ⟨64, _, some 12⟩], _, rfl, ⟨rfl, rfl, trivial⟩, rfl, rfl, OpG.gf rfl rfl rfl rfl (fun hg => ok_load ti24 rfl rfl (ht rfl))⟩,
              ⟨⟨[⟨10, _, none⟩, ⟨64, _, some 12⟩], _, rfl, ⟨rfl, rfl, trivial⟩, rfl, rfl, OpG.gf rfl rfl rfl rfl (fun hg => ok_load ti24 rfl rfl (ht rfl))⟩,
              ⟨⟨[⟨65, _, some 13⟩, ⟨66, _, some 14⟩, ⟨64, _, some 12⟩], _, rfl, ⟨rfl, rfl, rfl, trivial⟩, rfl, rfl, OpG.gf rfl rfl rfl rfl (fun hg => ok_call cb32 (f32_ok _ _ (q_r6g hg)) ⟨(htO rfl hg), (htO rfl hg), trivial⟩)⟩,
              ⟨⟨[⟨9, _, none⟩, ⟨64, _, some 12⟩], _, rfl, ⟨rfl, rfl, trivial⟩, rfl, rfl, OpG.gf rfl rfl rfl rfl (fun hg => ok_load ti24 rfl rfl (ht rfl))⟩,
              ⟨⟨[⟨10, _, none⟩, ⟨64, _, some 12⟩], _, rfl, ⟨rfl, rfl, trivial⟩, rfl, rfl, OpG.gf rfl rfl rfl rfl (fun hg => ok_load ti24 rfl rfl (ht rfl))⟩,
              ⟨⟨[⟨68, _, some 16⟩, ⟨69, _, some 17⟩, ⟨64, _, some 12⟩], _, rfl, ⟨rfl, rfl, rfl, trivial⟩, rfl, rfl, OpG.gf rfl rfl rfl rfl (fun hg => ok_call cb15 (f15_ok _ _ (q_r7g hg)) ⟨(htO rfl hg), (htO rfl hg), trivial⟩)⟩,
              ⟨⟨[⟨67, _, some 15⟩, ⟨70, _, some 18⟩, ⟨64, _, some 12⟩], _, rfl, ⟨rfl, rfl, rfl, trivial⟩, rfl, rfl, OpG.gf rfl rfl rfl rfl (fun hg => ok_neqB Tryz.underlying4 (htO rfl hg) (htO rfl hg))⟩,
              ⟨⟨[⟨64, _, some 12⟩, ⟨71, _, some 19⟩], _, rfl, ⟨rfl, rfl, trivial⟩, rfl, rfl, OpG.plain rfl (ok_pickOrM (ht rfl) (fun hb => (htO rfl (noti hb))) (fun hb => (h1t hb).2) h0t)⟩,
              ⟨⟨[⟨72, _, some 20⟩], _, rfl, ⟨rfl, trivial⟩, rfl, rfl, OpG.plain rfl (ok_move (ht rfl))⟩,
              ⟨⟨[⟨9, _, none⟩, ⟨73, _, some 21⟩], _, rfl, ⟨rfl, rfl, trivial⟩, rfl, rfl, OpG.gf rfl rfl rfl rfl (fun hg => ok_load ti24 rfl rfl (ht rfl))⟩,
              ⟨⟨[⟨8, _, none⟩, ⟨73, _, some 21⟩], _, rfl, ⟨rfl, rfl, trivial⟩, rfl, rfl, OpG.gf rfl rfl rfl rfl (fun hg => ok_load ti24 rfl rfl (ht rfl))⟩,
              ⟨⟨[⟨75, _, some 23⟩, ⟨73, _, some 21⟩], _, rfl, ⟨rfl, rfl, trivial⟩, rfl, rfl, OpG.gf rfl rfl rfl rfl (fun hg => ok_call cb10 (f10_ok _ _ (q_r8g hg)) ⟨(htO rfl hg), hI, trivial⟩)⟩,
              ⟨⟨[⟨74, _, some 22⟩, ⟨76, _, some 24⟩, ⟨73, _, some 21⟩], _, rfl, ⟨rfl, rfl, rfl, trivial⟩, rfl, rfl, OpG.gf rfl rfl rfl rfl (fun hg => ok_call cb32 (f32_ok _ _ (q_r9g hg)) ⟨(htO rfl hg), (htO rfl hg), trivial⟩)⟩,
              ⟨⟨[⟨77, _, some 25⟩, ⟨73, _, some 21⟩], _, rfl, ⟨rfl, rfl, trivial⟩, rfl, rfl, OpG.gf rfl rfl rfl rfl (fun hg => ok_not (htO rfl hg))⟩,
              ⟨⟨[⟨73, _, some 21⟩, ⟨78, _, some 26⟩], _, rfl, ⟨rfl, rfl, trivial⟩, rfl, rfl, OpG.plain rfl (ok_pickOrM (ht rfl) (fun hb => (htO rfl (noti hb))) (fun hb => (h1t1 hb).2) h0t1)⟩,
              trivial⟩⟩⟩⟩⟩⟩⟩⟩⟩⟩⟩⟩⟩⟩⟩⟩⟩⟩⟩⟩⟩⟩⟩⟩⟩⟩⟩⟩ ?_
            refine AT.next ?_
            refine CG.cond (ht rfl) (fun hc => ?_) (fun hc => ?_)
            · have h := ct h hc
              refine CG.seq ?_
              refine CG.region ?_
              refine RG.op (ok_assign hB) rfl ?_
              refine RG.nil ?_
              refine AT.next ?_
              refine CG.ret ?_
              refine AT.then_ret (AT.in_ret (AT.then_ret (AT.then_ret (AT.in_ret (AT.then_ret ?_)))))
              refine AT.drop ?_
              cases so h
              exact AT.ret1 rfl rfl
            · have h := cf h hc
              refine CG.skip ?_
              refine AT.next ?_
              refine CG.seq ?_
              refine CG.region ?_
              refine RG.op (ok_load ti24 rfl rfl (ht rfl)) rfl ?_
              refine RG.op (ok_move (ht rfl)) rfl ?_
              obtain ⟨r10, q_r10, h⟩ := bs h
              refine RG.op (ok_call cb23 (f23_ok _ _ q_r10) ⟨(ht rfl), (tO_d (ht rfl)), trivial⟩) rfl ?_
              refine RG.op (ok_move (ht rfl)) rfl ?_
              refine RG.op (ok_extract rfl (ht rfl)) rfl ?_
              refine RG.op (ok_extract rfl (ht rfl)) rfl ?_
              refine RG.op (ok_assign (ht rfl)) rfl ?_
              refine RG.op (ok_assign (ht rfl)) rfl ?_
              refine RG.nil ?_
              refine AT.next ?_
              refine CG.seq ?_
              obtain ⟨r11, q_r11, h⟩ := bs h
              obtain ⟨r12, q_r12, h⟩ := bs h
              refine CG.draw (ts := [tD rpDExpr r2, tD (rSl (rI .i64)) r11, tD rpDExpr r2, tD (rSl rpDExpr) r12, tD (rSl (rI .i64)) r11, tD (rSl rpDExpr) r12]) mixed rfl rfl
                ⟨⟨[⟨9, _, none⟩], _, rfl, ⟨rfl, trivial⟩, rfl, rfl, OpG.plain rfl (ok_load ti24 rfl rfl (ht rfl))⟩,
                ⟨⟨[⟨86, _, some 0⟩], _, rfl, ⟨rfl, trivial⟩, rfl, rfl, OpG.plain rfl (ok_call cb33 (f33_ok _ q_r11) ⟨(ht rfl), trivial⟩)⟩,
                ⟨⟨[⟨9, _, none⟩], _, rfl, ⟨rfl, trivial⟩, rfl, rfl, OpG.plain rfl (ok_load ti24 rfl rfl (ht rfl))⟩,
                ⟨⟨[⟨88, _, some 2⟩], _, rfl, ⟨rfl, trivial⟩, rfl, rfl, OpG.plain rfl (ok_call cb28 (f28_ok _ q_r12) ⟨(ht rfl), trivial⟩)⟩,
                ⟨⟨[⟨87, _, some 1⟩], _, rfl, ⟨rfl, trivial⟩, rfl, rfl, OpG.plain rfl (ok_assign (ht rfl))⟩,
                ⟨⟨[⟨89, _, some 3⟩], _, rfl, ⟨rfl, trivial⟩, rfl, rfl, OpG.plain rfl (ok_assign (ht rfl))⟩,
                trivial⟩⟩⟩⟩⟩⟩ ?_
              refine AT.next ?_
              refine CG.seq ?_
              refine CG.seq ?_
              refine CG.region ?_
              refine RG.op (ok_move (ht rfl)) rfl ?_
              refine RG.op (ok_not (ht rfl)) rfl ?_
              refine RG.nil ?_
              refine AT.next ?_
              refine CG.cond (ht rfl) (fun hc => ?_) (fun hc => ?_)
              · have h := ct h hc
                refine CG.seq ?_
                refine CG.seq ?_
                refine CG.region ?_
                refine RG.op (ok_move (ht rfl)) rfl ?_
                refine RG.op (ok_neqI (ht rfl) hI) rfl ?_
                refine RG.op (ok_move (ht rfl)) rfl ?_
                refine RG.opGf rfl rfl rfl rfl (fun hg => ok_move (ht rfl)) ?_
                refine RG.opGf rfl rfl rfl rfl (fun hg => ok_neqI (htO rfl hg) hI) ?_
                refine RG.op (ok_pickOr (ht rfl) (fun hb => (htO rfl (noti hb)))) rfl ?_
                refine RG.op (ok_move (ht rfl)) rfl ?_
                refine RG.opGf rfl rfl rfl rfl (fun hg => ok_move (ht rfl)) ?_
                refine RG.opGf rfl rfl rfl rfl (fun hg => ok_lenSl Tryz.underlying40 (htO rfl hg)) ?_
                refine RG.opGf rfl rfl rfl rfl (fun hg => ok_neqI (htO rfl hg) hI) ?_
                refine RG.op (ok_pickOr (ht rfl) (fun hb => (htO rfl (noti hb)))) rfl ?_
                refine RG.op (ok_move (ht rfl)) rfl ?_
                refine RG.opGf rfl rfl rfl rfl (fun hg => ok_move (ht rfl)) ?_
                refine RG.opGf rfl rfl rfl rfl (fun hg => ok_lenSl Tryz.underlying51 (htO rfl hg)) ?_
                refine RG.opGf rfl rfl rfl rfl (fun hg => ok_neqI (htO rfl hg) hI) ?_
                refine RG.op (ok_pickOr (ht rfl) (fun hb => (htO rfl (noti hb)))) rfl ?_
                refine RG.op (ok_move (ht rfl)) rfl ?_
                obtain ⟨t2, q_t2, h⟩ := bs h
                refine RG.opGf rfl rfl rfl rfl (fun hg => ok_load ti24 rfl rfl (ht rfl)) ?_
                obtain ⟨r13, h1t2, h0t2⟩ := og q_t2
                have q_r13g := fun hb => (h1t2 hb).1
                refine RG.opGf rfl rfl rfl rfl (fun hg => ok_call cb26 (f26_ok _ (q_r13g hg)) ⟨(htO rfl hg), trivial⟩) ?_
                refine RG.op (ok_pickOrM (ht rfl) (fun hb => (htO rfl (noti hb))) (fun hb => (h1t2 hb).2) h0t2) rfl ?_
                refine RG.nil ?_
                refine AT.next ?_
                refine CG.cond (ht rfl) (fun hc => ?_) (fun hc => ?_)
                · have h := ct h hc
                  refine CG.seq ?_
                  refine CG.region ?_
                  refine RG.op (ok_assign hB) rfl ?_
                  refine RG.nil ?_
                  refine AT.next ?_
                  refine CG.ret ?_
                  refine AT.then_ret (AT.then_ret (AT.in_ret (AT.then_ret (AT.then_ret (AT.in_ret (AT.then_ret ?_))))))
                  refine AT.drop ?_
                  cases so h
                  exact AT.ret1 rfl rfl
                · have h := cf h hc
                  refine CG.skip ?_
                  refine AT.next ?_
                  refine CG.exit ?_
                  refine AT.then_exit (AT.in_exit ?_)
                  exact AT.sub (K1 h) ⟨rfl, rfl, rfl, rfl, rfl, rfl, trivial⟩
              · have h := cf h hc
                refine CG.skip ?_
                refine AT.next ?_
                refine CG.seq ?_
                refine CG.region ?_
                refine RG.op (ok_load ti24 rfl rfl (ht rfl)) rfl ?_
                refine RG.op (ok_move (ht rfl)) rfl ?_
                obtain ⟨r14, q_r14, h⟩ := bs h
                refine RG.op (ok_call cb34 (f34_ok _ _ q_r14) ⟨(ht rfl), (tO_d (ht rfl)), trivial⟩) rfl ?_
                refine RG.op (ok_move (ht rfl)) rfl ?_
                refine RG.op (ok_extract rfl (ht rfl)) rfl ?_
                refine RG.op (ok_extract rfl (ht rfl)) rfl ?_
                refine RG.op (ok_assign (ht rfl)) rfl ?_
                refine RG.op (ok_assign (ht rfl)) rfl ?_
                refine RG.nil ?_
                refine AT.next ?_
                refine CG.seq ?_
                refine CG.region ?_
                refine RG.op (ok_load ti24 rfl rfl (ht rfl)) rfl ?_
                obtain ⟨r15, q_r15, h⟩ := bs h
                refine RG.callO cb35 (f35_own _ q_r15) ⟨(ht rfl), trivial⟩ rfl (fun l2 c1 => ?_)
                refine RG.op (ok_assign (ht rfl)) rfl ?_
                refine RG.nil ?_
                refine AT.next ?_
                refine CG.seq ?_
                refine CG.seq ?_
                obtain ⟨t3, q_t3, h⟩ := bs h
                obtain ⟨r16, h1t3, h0t3⟩ := og q_t3
                have q_r16g := fun hb => (h1t3 hb).1
                obtain ⟨r17, h1t3⟩ := og2 (fun hb => (h1t3 hb).2)
                have q_r17g := fun hb => (h1t3 hb).1
                obtain ⟨t4, q_t4, h⟩ := bs h
                obtain ⟨r18, h1t4, h0t4⟩ := og q_t4
                have q_r18g := fun hb => (h1t4 hb).1
                obtain ⟨r19, h1t4⟩ := og2 (fun hb => (h1t4 hb).2)
                have q_r19g := fun hb => (h1t4 hb).1
                refine CG.draw (ts := [tD (rI .i64) r10.1, tD (rI .i64) r14.1, tD rB (r10.1 != r14.1), tD rB (r10.1 != r14.1), tOpt (!(r10.1 != r14.1)) (tD (rI .i64) r10.2), tOpt (!(r10.1 != r14.1)) (tD (rI .i64) r14.2), tOpt (!(r10.1 != r14.1)) (tD rB (r10.2 != r14.2)), tD rB ((r10.1 != r14.1) || (r10.2 != r14.2)), tD rB ((r10.1 != r14.1) || (r10.2 != r14.2)), tOpt (!((r10.1 != r14.1) || (r10.2 != r14.2))) (tD rpDExpr r2), tOpt (!((r10.1 != r14.1) || (r10.2 != r14.2))) (tD rB r16), tOpt (!((r10.1 != r14.1) || (r10.2 != r14.2))) (tD rpDExpr r2), tOpt (!((r10.1 != r14.1) || (r10.2 != r14.2))) (tD rB r17), tOpt (!((r10.1 != r14.1) || (r10.2 != r14.2))) (tD rB (r16 != r17)), tD rB t3, tD rB t3, tOpt (!t3) (tD (rSl rpDExpr) r12), tOpt (!t3) (tD rpDExpr r2), tOpt (!t3) (tD (rSl rpDExpr) r18), tOpt (!t3) (tD rB r19), tOpt (!t3) (tD rB (!r19)), tD rB t4, tD rB t4, tOpt (!t4) (tD (rSl (rI .i64)) r11), tOpt (!t4) (tD (rI .i64) (r11.length : Int)), tOpt (!t4) (tV (oslV l2 c1 r15.length)), tOpt (!t4) (tD (rI .i64) (r15.length : Int)), tOpt (!t4) (tD rB ((r11.length : Int) != (r15.length : Int))), tD rB (t4 || ((r11.length : Int) != (r15.length : Int)))]) mixed rfl rfl
                  ⟨⟨[⟨13, _, none⟩], _, rfl, ⟨rfl, trivial⟩, rfl, rfl, OpG.plain rfl (ok_move (ht rfl))⟩,
                  ⟨⟨[⟨17, _, none⟩], _, rfl, ⟨rfl, trivial⟩, rfl, rfl, OpG.plain rfl (ok_move (ht rfl))⟩,
                  ⟨⟨[⟨120, _, some 0⟩, ⟨121, _, some 1⟩], _, rfl, ⟨rfl, rfl, trivial⟩, rfl, rfl, OpG.plain rfl (ok_neqI (ht rfl) (ht rfl))⟩,
                  ⟨⟨[⟨122, _, some 2⟩], _, rfl, ⟨rfl, trivial⟩, rfl, rfl, OpG.plain rfl (ok_move (ht rfl))⟩,
                  ⟨⟨[⟨14, _, none⟩, ⟨123, _, some 3⟩], _, rfl, ⟨rfl, rfl, trivial⟩, rfl, rfl, OpG.gf rfl rfl rfl rfl (fun hg => ok_move (ht rfl))⟩,
                  ⟨⟨[⟨18, _, none⟩, ⟨123, _, some 3⟩], _, rfl, ⟨rfl, rfl, trivial⟩, rfl, rfl, OpG.gf rfl rfl rfl rfl (fun hg => ok_move (ht rfl))⟩,
                  ⟨⟨[⟨124, _, some 4⟩, ⟨125, _, some 5⟩, ⟨123, _, some 3⟩], _, rfl, ⟨rfl, rfl, rfl, trivial⟩, rfl, rfl, OpG.gf rfl rfl rfl rfl (fun hg => ok_neqI (htO rfl hg) (htO rfl hg))⟩,
                  ⟨⟨[⟨123, _, some 3⟩, ⟨126, _, some 6⟩], _, rfl, ⟨rfl, rfl, trivial⟩, rfl, rfl, OpG.plain rfl (ok_pickOr (ht rfl) (fun hb => (htO rfl (noti hb))))⟩,
                  ⟨⟨[⟨127, _, some 7⟩], _, rfl, ⟨rfl, trivial⟩, rfl, rfl, OpG.plain rfl (ok_move (ht rfl))⟩,
                  ⟨⟨[⟨9, _, none⟩, ⟨128, _, some 8⟩], _, rfl, ⟨rfl, rfl, trivial⟩, rfl, rfl, OpG.gf rfl rfl rfl rfl (fun hg => ok_load ti24 rfl rfl (ht rfl))⟩,
                  ⟨⟨[⟨129, _, some 9⟩, ⟨128, _, some 8⟩], _, rfl, ⟨rfl, rfl, trivial⟩, rfl, rfl, OpG.gf rfl rfl rfl rfl (fun hg => ok_call cb26 (f26_ok _ (q_r16g hg)) ⟨(htO rfl hg), trivial⟩)⟩,
                  ⟨⟨[⟨9, _, none⟩, ⟨128, _, some 8⟩], _, rfl, ⟨rfl, rfl, trivial⟩, rfl, rfl, OpG.gf rfl rfl rfl rfl (fun hg => ok_load ti24 rfl rfl (ht rfl))⟩,
                  ⟨⟨[⟨131, _, some 11⟩, ⟨128, _, some 8⟩], _, rfl, ⟨rfl, rfl, trivial⟩, rfl, rfl, OpG.gf rfl rfl rfl rfl (fun hg => ok_call cb36 (f36_ok _ (q_r17g hg)) ⟨(htO rfl hg), trivial⟩)⟩,
                  ⟨⟨[⟨130, _, some 10⟩, ⟨132, _, some 12⟩, ⟨128, _, some 8⟩], _, rfl, ⟨rfl, rfl, rfl, trivial⟩, rfl, rfl, OpG.gf rfl rfl rfl rfl (fun hg => ok_neqB Tryz.underlying4 (htO rfl hg) (htO rfl hg))⟩,
                  ⟨⟨[⟨128, _, some 8⟩, ⟨133, _, some 13⟩], _, rfl, ⟨rfl, rfl, trivial⟩, rfl, rfl, OpG.plain rfl (ok_pickOrM (ht rfl) (fun hb => (htO rfl (noti hb))) (fun hb => (h1t3 hb).2) h0t3)⟩,
                  ⟨⟨[⟨134, _, some 14⟩], _, rfl, ⟨rfl, trivial⟩, rfl, rfl, OpG.plain rfl (ok_move (ht rfl))⟩,
                  ⟨⟨[⟨16, _, none⟩, ⟨135, _, some 15⟩], _, rfl, ⟨rfl, rfl, trivial⟩, rfl, rfl, OpG.gf rfl rfl rfl rfl (fun hg => ok_move (ht rfl))⟩,
                  ⟨⟨[⟨9, _, none⟩, ⟨135, _, some 15⟩], _, rfl, ⟨rfl, rfl, trivial⟩, rfl, rfl, OpG.gf rfl rfl rfl rfl (fun hg => ok_load ti24 rfl rfl (ht rfl))⟩,
                  ⟨⟨[⟨137, _, some 17⟩, ⟨135, _, some 15⟩], _, rfl, ⟨rfl, rfl, trivial⟩, rfl, rfl, OpG.gf rfl rfl rfl rfl (fun hg => ok_call cb38 (f38_ok _ (q_r18g hg)) ⟨(htO rfl hg), trivial⟩)⟩,
                  ⟨⟨[⟨136, _, some 16⟩, ⟨138, _, some 18⟩, ⟨135, _, some 15⟩], _, rfl, ⟨rfl, rfl, rfl, trivial⟩, rfl, rfl, OpG.gf rfl rfl rfl rfl (fun hg => ok_call cb37 (f37_ok _ _ (q_r19g hg)) ⟨(htO rfl hg), (htO rfl hg), trivial⟩)⟩,
                  ⟨⟨[⟨139, _, some 19⟩, ⟨135, _, some 15⟩], _, rfl, ⟨rfl, rfl, trivial⟩, rfl, rfl, OpG.gf rfl rfl rfl rfl (fun hg => ok_not (htO rfl hg))⟩,
                  ⟨⟨[⟨135, _, some 15⟩, ⟨140, _, some 20⟩], _, rfl, ⟨rfl, rfl, trivial⟩, rfl, rfl, OpG.plain rfl (ok_pickOrM (ht rfl) (fun hb => (htO rfl (noti hb))) (fun hb => (h1t4 hb).2) h0t4)⟩,
                  ⟨⟨[⟨141, _, some 21⟩], _, rfl, ⟨rfl, trivial⟩, rfl, rfl, OpG.plain rfl (ok_move (ht rfl))⟩,
                  ⟨⟨[⟨15, _, none⟩, ⟨142, _, some 22⟩], _, rfl, ⟨rfl, rfl, trivial⟩, rfl, rfl, OpG.gf rfl rfl rfl rfl (fun hg => ok_move (ht rfl))⟩,
                  ⟨⟨[⟨143, _, some 23⟩, ⟨142, _, some 22⟩], _, rfl, ⟨rfl, rfl, trivial⟩, rfl, rfl, OpG.gf rfl rfl rfl rfl (fun hg => ok_lenSl Tryz.underlying40 (htO rfl hg))⟩,
                  ⟨⟨[⟨19, _, none⟩, ⟨142, _, some 22⟩], _, rfl, ⟨rfl, rfl, trivial⟩, rfl, rfl, OpG.gf rfl rfl rfl rfl (fun hg => ok_move (ht rfl))⟩,
                  ⟨⟨[⟨145, _, some 25⟩, ⟨142, _, some 22⟩], _, rfl, ⟨rfl, rfl, trivial⟩, rfl, rfl, OpG.gf rfl rfl rfl rfl (fun hg => ok_lenO Tryz.underlying40 (.head _) (htO rfl hg))⟩,
                  ⟨⟨[⟨144, _, some 24⟩, ⟨146, _, some 26⟩, ⟨142, _, some 22⟩], _, rfl, ⟨rfl, rfl, rfl, trivial⟩, rfl, rfl, OpG.gf rfl rfl rfl rfl (fun hg => ok_neqI (htO rfl hg) (htO rfl hg))⟩,
                  ⟨⟨[⟨142, _, some 22⟩, ⟨147, _, some 27⟩], _, rfl, ⟨rfl, rfl, trivial⟩, rfl, rfl, OpG.plain rfl (ok_pickOr (ht rfl) (fun hb => (htO rfl (noti hb))))⟩,
                  trivial⟩⟩⟩⟩⟩⟩⟩⟩⟩⟩⟩⟩⟩⟩⟩⟩⟩⟩⟩⟩⟩⟩⟩⟩⟩⟩⟩⟩⟩ ?_
                refine AT.next ?_
                refine CG.cond (ht rfl) (fun hc => ?_) (fun hc => ?_)
                · have h := ct h hc
                  refine CG.seq ?_
                  refine CG.region ?_
                  refine RG.op (ok_assign hB) rfl ?_
                  refine RG.nil ?_
                  refine AT.next ?_
                  refine CG.ret ?_
                  refine AT.then_ret (AT.in_ret (AT.then_ret (AT.then_ret (AT.in_ret (AT.then_ret ?_)))))
                  refine AT.drop ?_
                  refine AT.drop ?_
                  cases so h
                  exact AT.ret1 rfl rfl
                · have h := cf h hc
                  refine CG.skip ?_
                  refine AT.next ?_
                  refine CG.seq ?_
                  refine CG.seq ?_
                  refine CG.region ?_
                  refine RG.op (ok_move (ht rfl)) rfl ?_
                  refine RG.op (ok_lenSl Tryz.underlying40 (ht rfl)) rfl ?_
                  refine RG.op (ok_move hI) rfl ?_
                  refine RG.nil ?_
                  refine AT.next ?_
                  refine CG.block ?_
                  refine CG.have_len (k := 149) rfl (fun hN1 => ?_)
                  refine CG.loop ?_
                  refine LG.front1 ?_
                  refine LG.sub (LG.list1 (Z := fun ls1 i1  => (r11.drop i1 = ls1) ∧ law10_ExprTells_l2 lefts (law10_ExprTells_l1 l lefts r1 tl) i r2 r15 ls1 i1  = some R) (Of := fun _ i1  => [tip (rI .i64) 3 l1 c r1, arr (rI .i64) 3 l2 c1 r15]) (Gf := fun _ i1  => [(0, tD (rSl rpDExpr) l), (1, tO (rI .i64) l1 c r1), (2, tD (rSl (rI .i64)) lefts), (9, tPtr rpDExpr r2), (15, tD (rSl (rI .i64)) r11), (19, tV (oslV l2 c1 r15.length)), (33, tD (rSl rpDExpr) l), (34, tD (rI .i64) (l.length : Int)), (35, tD (rI .i64) (i : Int)), (150, tD (rI .i64) (r11.length : Int)), (151, tD (rI .i64) (i1 : Int))]) (fun i1  h => ?_) (fun e2 tl1 ih1 i1  h => ?_) r11 0  ⟨rfl, h⟩) ⟨rfl, rfl, rfl, rfl, rfl, rfl, rfl, rfl, rfl, rfl, rfl, trivial⟩
                  · obtain ⟨hx1, h⟩ := h
                    refine LG.unfold ?_
                    refine CG.seq ?_
                    refine CG.region ?_
                    refine RG.op (ok_lss (ht rfl) (ht rfl)) rfl ?_
                    refine RG.nil ?_
                    refine AT.next ?_
                    refine CG.seq ?_
                    refine CG.condF (ht rfl) (dropF hx1) ?_
                    refine CG.exit ?_
                    refine AT.then_exit (AT.then_exit (AT.in_exit ?_))
                    refine AT.next ?_
                    refine CG.seq ?_
                    refine CG.region ?_
                    refine RG.op (ok_move (ht rfl)) rfl ?_
                    refine RG.op (ok_lenSl Tryz.underlying40 (ht rfl)) rfl ?_
                    refine RG.op (ok_move hI) rfl ?_
                    refine RG.nil ?_
                    refine AT.next ?_
                    refine CG.block ?_
                    refine CG.have_len (k := 164) rfl (fun hN2 => ?_)
                    refine CG.loop ?_
                    refine LG.front1 ?_
                    refine LG.drop ?_
                    refine LG.sub (LG.list1 (Z := fun ls2 i2  => (lefts.drop i2 = ls2) ∧ law10_ExprTells_l3 (law10_ExprTells_l1 l lefts r1 tl) i r2 ls2 i2  = some R) (Of := fun _ i2  => [tip (rI .i64) 3 l1 c r1]) (Gf := fun _ i2  => [(0, tD (rSl rpDExpr) l), (1, tO (rI .i64) l1 c r1), (2, tD (rSl (rI .i64)) lefts), (9, tPtr rpDExpr r2), (33, tD (rSl rpDExpr) l), (34, tD (rI .i64) (l.length : Int)), (35, tD (rI .i64) (i : Int)), (164, tD (rSl (rI .i64)) lefts), (165, tD (rI .i64) (lefts.length : Int)), (166, tD (rI .i64) (i2 : Int))]) (fun i2  h => ?_) (fun e3 tl2 ih2 i2  h => ?_) lefts 0  ⟨rfl, h⟩) ⟨rfl, rfl, rfl, rfl, rfl, rfl, rfl, rfl, rfl, rfl, trivial⟩
                    · obtain ⟨hx2, h⟩ := h
                      refine LG.unfold ?_
                      refine CG.seq ?_
                      refine CG.region ?_
                      refine RG.op (ok_lss (ht rfl) (ht rfl)) rfl ?_
                      refine RG.nil ?_
                      refine AT.next ?_
                      refine CG.seq ?_
                      refine CG.condF (ht rfl) (dropF hx2) ?_
                      refine CG.exit ?_
                      refine AT.then_exit (AT.then_exit (AT.in_exit ?_))
                      refine AT.in_normal ?_
                      exact AT.sub (K1 h) ⟨rfl, rfl, rfl, rfl, rfl, rfl, trivial⟩
                    · obtain ⟨hx2, h⟩ := h
                      refine LG.unfold ?_
                      refine CG.seq ?_
                      refine CG.region ?_
                      refine RG.op (ok_lss (ht rfl) (ht rfl)) rfl ?_
                      refine RG.nil ?_
                      refine AT.next ?_
                      refine CG.seq ?_
                      refine CG.condT (ht rfl) (dropT hx2) ?_
                      refine CG.skip ?_
                      refine AT.next ?_
                      refine CG.seq ?_
                      refine CG.block ?_
                      refine CG.seq ?_
                      refine CG.region ?_
                      refine RG.op (ok_move (ht rfl)) rfl ?_
                      refine RG.op (ok_indexAddr Tryz.underlying40 ti3 rfl (ht rfl) (ht rfl) (dropI hx2)) rfl ?_
                      refine RG.op (ok_load ti3 rfl rfl (ht rfl)) rfl ?_
                      refine RG.op (ok_assign (ht rfl)) rfl ?_
                      refine RG.op (ok_assign (ht rfl)) rfl ?_
                      refine RG.nil ?_
                      refine AT.next ?_
                      refine CG.seq ?_
                      refine CG.region ?_
                      refine RG.op (ok_load ti24 rfl rfl (ht rfl)) rfl ?_
                      refine RG.op (ok_move (ht rfl)) rfl ?_
                      obtain ⟨r20, q_r20, h⟩ := bs h
                      refine RG.op (ok_call cb39 (f39_ok _ _ q_r20) ⟨(ht rfl), (ht rfl), trivial⟩) rfl ?_
                      refine RG.op (ok_move (ht rfl)) rfl ?_
                      refine RG.op (ok_extract rfl (ht rfl)) rfl ?_
                      refine RG.op (ok_extract rfl (ht rfl)) rfl ?_
                      refine RG.op (ok_extract rfl (ht rfl)) rfl ?_
                      refine RG.op (ok_assign (ht rfl)) rfl ?_
                      refine RG.op (ok_assign (ht rfl)) rfl ?_
                      refine RG.op (ok_assign (ht rfl)) rfl ?_
                      refine RG.nil ?_
                      refine AT.next ?_
                      refine CG.seq ?_
                      refine CG.region ?_
                      refine RG.op (ok_load ti24 rfl rfl (ht rfl)) rfl ?_
                      refine RG.op (ok_move (ht rfl)) rfl ?_
                      obtain ⟨r21, q_r21, h⟩ := bs h
                      refine RG.op (ok_call cb40 (f40_ok _ _ q_r21) ⟨(ht rfl), (ht rfl), trivial⟩) rfl ?_
                      refine RG.op (ok_move (ht rfl)) rfl ?_
                      refine RG.op (ok_extract rfl (ht rfl)) rfl ?_
                      refine RG.op (ok_extract rfl (ht rfl)) rfl ?_
                      refine RG.op (ok_extract rfl (ht rfl)) rfl ?_
                      refine RG.op (ok_assign (ht rfl)) rfl ?_
                      refine RG.op (ok_assign (ht rfl)) rfl ?_
                      refine RG.op (ok_assign (ht rfl)) rfl ?_
                      refine RG.nil ?_
                      refine AT.next ?_
                      refine CG.seq ?_
                      refine CG.region ?_
                      refine RG.op (ok_move (ht rfl)) rfl ?_
                      refine RG.op (ok_lss (ht rfl) hI) rfl ?_
                      refine RG.op (ok_move (ht rfl)) rfl ?_
                      refine RG.opGt rfl rfl rfl rfl (fun hg => ok_move (ht rfl)) ?_
                      refine RG.opGt rfl rfl rfl rfl (fun hg => ok_move (ht rfl)) ?_
                      refine RG.opGt rfl rfl rfl rfl (fun hg => ok_neqI (htO rfl hg) (htO rfl hg)) ?_
                      refine RG.opGt rfl rfl rfl rfl (fun hg => ok_move (htO rfl hg)) ?_
                      refine RG.opGof rfl rfl rfl rfl (fun hg => ok_move (ht rfl)) ?_
                      refine RG.opGof rfl rfl rfl rfl (fun hg => ok_move (ht rfl)) ?_
                      refine RG.opGof rfl rfl rfl rfl (fun hg => ok_neqI (htO rfl hg) (htO rfl hg)) ?_
                      refine RG.opGt rfl rfl rfl rfl (fun hg => ok_pickOr (htO rfl hg) (fun hb => (htO rfl (andi hg (noti hb))))) ?_
                      refine RG.opGt rfl rfl rfl rfl (fun hg => ok_move (htO rfl hg)) ?_
                      refine RG.opGof rfl rfl rfl rfl (fun hg => ok_move (ht rfl)) ?_
                      refine RG.opGof rfl rfl rfl rfl (fun hg => ok_move (ht rfl)) ?_
                      refine RG.opGof rfl rfl rfl rfl (fun hg => ok_neqB Tryz.underlying4 (htO rfl hg) (htO rfl hg)) ?_
                      refine RG.opGt rfl rfl rfl rfl (fun hg => ok_pickOr (htO rfl hg) (fun hb => (htO rfl (andi hg (noti hb))))) ?_
                      refine RG.op (ok_pickAnd (ht rfl) (fun hb => (htO rfl hb))) rfl ?_
                      refine RG.nil ?_
                      refine AT.next ?_
                      refine CG.cond (ht rfl) (fun hc => ?_) (fun hc => ?_)
                      · have h := ct h hc
                        refine CG.seq ?_
                        refine CG.region ?_
                        refine RG.op (ok_assign hB) rfl ?_
                        refine RG.nil ?_
                        refine AT.next ?_
                        refine CG.ret ?_
                        refine AT.in_ret (AT.then_ret (AT.then_ret (AT.in_ret (AT.in_ret (AT.then_ret (AT.then_ret (AT.in_ret (AT.then_ret ?_))))))))
                        refine AT.drop ?_
                        cases so h
                        exact AT.ret1 rfl rfl
                      · have h := cf h hc
                        refine CG.skip ?_
                        refine AT.in_normal ?_
                        refine AT.next ?_
                        refine CG.region ?_
                        refine RG.op (ok_incN (dropL hx2 hN2) (ht rfl) hI) rfl ?_
                        refine RG.op (ok_move (ht rfl)) rfl ?_
                        refine RG.nil ?_
                        exact AT.round (LG.sub (ih2 (i2 + 1)  ⟨dropS hx2, h⟩) ⟨rfl, rfl, rfl, rfl, rfl, rfl, rfl, rfl, rfl, rfl, trivial⟩)
                  · obtain ⟨hx1, h⟩ := h
                    refine LG.unfold ?_
                    refine CG.seq ?_
                    refine CG.region ?_
                    refine RG.op (ok_lss (ht rfl) (ht rfl)) rfl ?_
                    refine RG.nil ?_
                    refine AT.next ?_
                    refine CG.seq ?_
                    refine CG.condT (ht rfl) (dropT hx1) ?_
                    refine CG.skip ?_
                    refine AT.next ?_
                    refine CG.seq ?_
                    refine CG.block ?_
                    refine CG.seq ?_
                    refine CG.region ?_
                    refine RG.op (ok_move (ht rfl)) rfl ?_
                    refine RG.op (ok_assign (ht rfl)) rfl ?_
                    refine RG.nil ?_
                    refine AT.next ?_
                    refine CG.seq ?_
                    obtain ⟨e4, q_e4, h⟩ := bs h
                    refine CG.draw (ts := [tD (rSl (rI .i64)) r11, tD (rI .i64) (i1 : Int), tPtr (rI .i64) e2, tD (rI .i64) e2, tV (oslV l2 c1 r15.length), tD (rI .i64) (i1 : Int), tV (eptr l2 ((i1 : Int).toNat * 1 + 0)), tD (rI .i64) e4, tD rB (e2 != e4)]) mixed rfl rfl
                      ⟨⟨[⟨15, _, none⟩], _, rfl, ⟨rfl, trivial⟩, rfl, rfl, OpG.plain rfl (ok_move (ht rfl))⟩,
                      ⟨⟨[⟨20, _, none⟩], _, rfl, ⟨rfl, trivial⟩, rfl, rfl, OpG.plain rfl (ok_move (ht rfl))⟩,
                      ⟨⟨[⟨154, _, some 0⟩, ⟨155, _, some 1⟩], _, rfl, ⟨rfl, rfl, trivial⟩, rfl, rfl, OpG.plain rfl (ok_indexAddr Tryz.underlying40 ti3 rfl (ht rfl) (ht rfl) (dropI hx1))⟩,
                      ⟨⟨[⟨156, _, some 2⟩], _, rfl, ⟨rfl, trivial⟩, rfl, rfl, OpG.plain rfl (ok_load ti3 rfl rfl (ht rfl))⟩,
                      ⟨⟨[⟨19, _, none⟩], _, rfl, ⟨rfl, trivial⟩, rfl, rfl, OpG.plain rfl (ok_move (ht rfl))⟩,
                      ⟨⟨[⟨20, _, none⟩], _, rfl, ⟨rfl, trivial⟩, rfl, rfl, OpG.plain rfl (ok_move (ht rfl))⟩,
                      ⟨⟨[⟨158, _, some 4⟩, ⟨159, _, some 5⟩], _, rfl, ⟨rfl, rfl, trivial⟩, rfl, rfl, OpG.plain rfl (ok_indexAddrO Tryz.underlying40 ti3 (.tail _ (.head _)) (ht rfl) (ht rfl) q_e4)⟩,
                      ⟨⟨[⟨160, _, some 6⟩], _, rfl, ⟨rfl, trivial⟩, rfl, rfl, OpG.plain rfl (ok_loadE (r := (rI .i64)) (i := (i1 : Int)) (foff := 0) ti3 rfl rfl fld_whole rfl (.tail _ (.head _)) q_e4 (ht rfl))⟩,
                      ⟨⟨[⟨157, _, some 3⟩, ⟨161, _, some 7⟩], _, rfl, ⟨rfl, rfl, trivial⟩, rfl, rfl, OpG.plain rfl (ok_neqI (ht rfl) (ht rfl))⟩,
                      trivial⟩⟩⟩⟩⟩⟩⟩⟩⟩ ?_
                    refine AT.next ?_
                    refine CG.cond (ht rfl) (fun hc => ?_) (fun hc => ?_)
                    · have h := ct h hc
                      refine CG.seq ?_
                      refine CG.region ?_
                      refine RG.op (ok_assign hB) rfl ?_
                      refine RG.nil ?_
                      refine AT.next ?_
                      refine CG.ret ?_
                      refine AT.in_ret (AT.then_ret (AT.then_ret (AT.in_ret (AT.then_ret (AT.in_ret (AT.then_ret (AT.then_ret (AT.in_ret (AT.then_ret ?_)))))))))
                      refine AT.drop ?_
                      refine AT.drop ?_
                      cases so h
                      exact AT.ret1 rfl rfl
                    · have h := cf h hc
                      refine CG.skip ?_
                      refine AT.in_normal ?_
                      refine AT.next ?_
                      refine CG.region ?_
                      refine RG.op (ok_incN (dropL hx1 hN1) (ht rfl) hI) rfl ?_
                      refine RG.op (ok_move (ht rfl)) rfl ?_
                      refine RG.nil ?_
                      exact AT.round (LG.sub (ih1 (i1 + 1)  ⟨dropS hx1, h⟩) ⟨rfl, rfl, rfl, rfl, rfl, rfl, rfl, rfl, rfl, rfl, rfl, trivial⟩)

end Go.Proofs.YtdhledkpgaeoaaaGreatDoor

