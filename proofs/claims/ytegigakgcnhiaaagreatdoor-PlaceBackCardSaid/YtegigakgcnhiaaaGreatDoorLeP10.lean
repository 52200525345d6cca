/- Facts of this claim: P10. -/
import Derived.Test.YtegigakgcnhiaaaGreatDoorLeT
import Derived.Test.YtegigakgcnhiaaaGreatDoorLeP9
namespace Go.Proofs.YtegigakgcnhiaaaGreatDoor
open Go

set_option maxRecDepth 100000 in
theorem f86_ok (s1 : (List DValue)) (s2 : (List DValue)) {R : Bool} (h : slices_Equal_api_Row_api_Value s1 s2 = some R) : Spec Tryz.prog 86 [tD (rSl rpDValue) s1, tD (rSl rpDValue) s2] (tD rB R) := by
  refine Spec.of Tryz.func86 rfl rfl rfl fun w0 S0 => ?_
  refine CG.seq ?_
  refine CG.region ?_
  refine RG.op (ok_assign hB) rfl ?_
  refine RG.nil ?_
  refine AT.next ?_
  refine CG.seq ?_
  refine CG.seq ?_
  refine CG.region ?_
  refine RG.op (ok_move (ht rfl)) rfl ?_
  refine RG.op (ok_lenSl Tryz.underlying45 (ht rfl)) rfl ?_
  refine RG.op (ok_move (ht rfl)) rfl ?_
  refine RG.op (ok_lenSl Tryz.underlying45 (ht rfl)) rfl ?_
  refine RG.op (ok_neqI (ht rfl) (ht rfl)) rfl ?_
  refine RG.nil ?_
  refine AT.next ?_
  refine CG.cond (ht rfl) (fun hc => ?_) (fun hc => ?_)
  · have h := ct h hc
    refine CG.seq ?_
    refine CG.region ?_
    refine RG.op (ok_assign hB) rfl ?_
    refine RG.nil ?_
    refine AT.next ?_
    refine CG.ret ?_
    refine AT.then_ret ?_
    cases so h
    exact AT.ret1 rfl rfl
  · have h := cf h hc
    refine CG.skip ?_
    refine AT.next ?_
    refine CG.seq ?_
    refine CG.seq ?_
    refine CG.region ?_
    refine RG.op (ok_move (ht rfl)) rfl ?_
    refine RG.op (ok_lenSl Tryz.underlying45 (ht rfl)) rfl ?_
    refine RG.op (ok_move hI) rfl ?_
    refine RG.nil ?_
    refine AT.next ?_
    refine CG.block ?_
    refine CG.have_len (k := 11) rfl (fun hN => ?_)
    refine CG.loop ?_
    refine LG.sub (LG.list1 (Z := fun ls i  => (s1.drop i = ls) ∧ slices_Equal_api_Row_api_Value_l1 s2 ls i  = some R) (Of := fun _ i  => []) (Gf := fun _ i  => [(0, tD (rSl rpDValue) s1), (1, tD (rSl rpDValue) s2), (12, tD (rI .i64) (s1.length : Int)), (13, tD (rI .i64) (i : Int))]) (fun i  h => ?_) (fun e tl ih i  h => ?_) s1 0  ⟨rfl, h⟩) ⟨rfl, rfl, rfl, rfl, trivial⟩
    · obtain ⟨hx, h⟩ := h
      refine LG.unfold ?_
      refine CG.seq ?_
      refine CG.region ?_
      refine RG.op (ok_lss (ht rfl) (ht rfl)) rfl ?_
      refine RG.nil ?_
      refine AT.next ?_
      refine CG.seq ?_
      refine CG.condF (ht rfl) (dropF hx) ?_
      refine CG.exit ?_
      refine AT.then_exit (AT.then_exit (AT.in_exit ?_))
      refine AT.next ?_
      refine CG.seq ?_
      refine CG.region ?_
      refine RG.op (ok_assign hB) rfl ?_
      refine RG.nil ?_
      refine AT.next ?_
      refine CG.ret ?_
      cases so h
      exact AT.ret1 rfl rfl
    · obtain ⟨hx, h⟩ := h
      refine LG.unfold ?_
      refine CG.seq ?_
      refine CG.region ?_
      refine RG.op (ok_lss (ht rfl) (ht rfl)) rfl ?_
      refine RG.nil ?_
      refine AT.next ?_
      refine CG.seq ?_
      refine CG.condT (ht rfl) (dropT hx) ?_
      refine CG.skip ?_
      refine AT.next ?_
      refine CG.seq ?_
      refine CG.block ?_
      refine CG.seq ?_
      refine CG.region ?_
      refine RG.op (ok_move (ht rfl)) rfl ?_
      refine RG.op (ok_assign (ht rfl)) rfl ?_
      refine RG.nil ?_
      refine AT.next ?_
      refine CG.seq ?_
      obtain ⟨e1, q_e1, h⟩ := bs h
      refine CG.draw (ts := [tD (rSl rpDValue) s1, tD (rI .i64) (i : Int), tPtr rpDValue e, tD rpDValue e, tD (rSl rpDValue) s2, tD (rI .i64) (i : Int), tPtr rpDValue e1, tD rpDValue e1, tD rB (!decide (e = e1))]) mixed rfl rfl
        ⟨⟨[⟨0, _, none⟩], _, rfl, ⟨rfl, trivial⟩, rfl, rfl, OpG.plain rfl (ok_move (ht rfl))⟩,
        ⟨⟨[⟨5, _, none⟩], _, rfl, ⟨rfl, trivial⟩, rfl, rfl, OpG.plain rfl (ok_move (ht rfl))⟩,
        ⟨⟨[⟨16, _, some 0⟩, ⟨17, _, some 1⟩], _, rfl, ⟨rfl, rfl, trivial⟩, rfl, rfl, OpG.plain rfl (ok_indexAddr Tryz.underlying45 ti89 rfl (ht rfl) (ht rfl) (dropI hx))⟩,
        ⟨⟨[⟨18, _, some 2⟩], _, rfl, ⟨rfl, trivial⟩, rfl, rfl, OpG.plain rfl (ok_load ti89 rfl rfl (ht rfl))⟩,
        ⟨⟨[⟨1, _, none⟩], _, rfl, ⟨rfl, trivial⟩, rfl, rfl, OpG.plain rfl (ok_move (ht rfl))⟩,
        ⟨⟨[⟨5, _, none⟩], _, rfl, ⟨rfl, trivial⟩, rfl, rfl, OpG.plain rfl (ok_move (ht rfl))⟩,
        ⟨⟨[⟨20, _, some 4⟩, ⟨21, _, some 5⟩], _, rfl, ⟨rfl, rfl, trivial⟩, rfl, rfl, OpG.plain rfl (ok_indexAddr Tryz.underlying45 ti89 rfl (ht rfl) (ht rfl) q_e1)⟩,
        ⟨⟨[⟨22, _, some 6⟩], _, rfl, ⟨rfl, trivial⟩, rfl, rfl, OpG.plain rfl (ok_load ti89 rfl rfl (ht rfl))⟩,
        ⟨⟨[⟨19, _, some 3⟩, ⟨23, _, some 7⟩], _, rfl, ⟨rfl, rfl, trivial⟩, rfl, rfl, OpG.plain rfl (ok_neqD eq89 (ht rfl) (ht rfl))⟩,
        trivial⟩⟩⟩⟩⟩⟩⟩⟩⟩ ?_
      refine AT.next ?_
      refine CG.cond (ht rfl) (fun hc => ?_) (fun hc => ?_)
      · have h := ct h hc
        refine CG.seq ?_
        refine CG.region ?_
        refine RG.op (ok_assign hB) rfl ?_
        refine RG.nil ?_
        refine AT.next ?_
        refine CG.ret ?_
        refine AT.in_ret (AT.then_ret (AT.then_ret (AT.in_ret (AT.then_ret ?_))))
        cases so h
        exact AT.ret1 rfl rfl
      · have h := cf h hc
        refine CG.skip ?_
        refine AT.in_normal ?_
        refine AT.next ?_
        refine CG.region ?_
        refine RG.op (ok_incN (dropL hx hN) (ht rfl) hI) rfl ?_
        refine RG.op (ok_move (ht rfl)) rfl ?_
        refine RG.nil ?_
        exact AT.round (LG.sub (ih (i + 1)  ⟨dropS hx, h⟩) ⟨rfl, rfl, rfl, rfl, trivial⟩)

set_option maxRecDepth 100000 in
theorem f59_ok (a1 : (List DValue)) (b : (List DValue)) {R : Bool} (h : row_equal a1 b = some R) : Spec Tryz.prog 59 [tD (rSl rpDValue) a1, tD (rSl rpDValue) b] (tD rB R) := by
  refine Spec.of Tryz.func59 rfl rfl rfl fun w0 S0 => ?_
  refine CG.seq ?_
  refine CG.region ?_
  refine RG.op (ok_assign hB) rfl ?_
  refine RG.nil ?_
  refine AT.next ?_
  refine CG.seq ?_
  refine CG.region ?_
  refine RG.op (ok_move (ht rfl)) rfl ?_
  refine RG.op (ok_move (ht rfl)) rfl ?_
  obtain ⟨r, q_r, h⟩ := bs h
  refine RG.op (ok_call cb86 (f86_ok _ _ q_r) ⟨(ht rfl), (ht rfl), trivial⟩) rfl ?_
  refine RG.op (ok_assign (ht rfl)) rfl ?_
  refine RG.nil ?_
  refine AT.next ?_
  refine CG.ret ?_
  cases so h
  exact AT.ret1 rfl rfl

set_option maxRecDepth 100000 in
theorem f30_ok (a1 : (List (List DValue))) (b : (List (List DValue))) {R : Bool} (h : row_Same a1 b = some R) : Spec Tryz.prog 30 [tD (rSl (rSl rpDValue)) a1, tD (rSl (rSl rpDValue)) b] (tD rB R) := by
  refine Spec.of Tryz.func30 rfl rfl rfl fun w0 S0 => ?_
  refine CG.seq ?_
  refine CG.region ?_
  refine RG.op (ok_assign hB) rfl ?_
  refine RG.nil ?_
  refine AT.next ?_
  refine CG.seq ?_
  refine CG.region ?_
  refine RG.op (ok_move (ht rfl)) rfl ?_
  refine RG.op (ok_move (ht rfl)) rfl ?_
  obtain ⟨r, q_r, h⟩ := bs h
  refine RG.op (ok_call cb58 (f58_ok _ _ _ q_r) ⟨(ht rfl), (ht rfl), (hFn cb59 fun x y h => f59_ok _ _ h), trivial⟩) rfl ?_
  refine RG.op (ok_assign (ht rfl)) rfl ?_
  refine RG.nil ?_
  refine AT.next ?_
  refine CG.ret ?_
  cases so h
  exact AT.ret1 rfl rfl

set_option maxRecDepth 100000 in
theorem f6_ok (c : DCatalog) (b : DBase) (s : DSpread) {R : Bool} (h : law17_PlaceBack c b s = some R) : Spec Tryz.prog 6 [tD rpDCatalog c, tD rpDBase b, tD rpDSpread s] (tD rB R) := by
  refine Spec.of Tryz.func6 rfl rfl rfl fun w0 S0 => ?_
  refine CG.seq ?_
  refine CG.region ?_
  refine RG.op (ok_box (ht rfl)) rfl ?_
  refine RG.op (ok_box (ht rfl)) rfl ?_
  refine RG.op (ok_box (ht rfl)) rfl ?_
  refine RG.op (ok_assign hB) rfl ?_
  refine RG.nil ?_
  refine AT.next ?_
  refine CG.seq ?_
  refine CG.seq ?_
  refine CG.region ?_
  obtain ⟨r, q_r, h⟩ := bs h
  refine RG.op (ok_call cb9 (f9_ok  q_r) trivial) rfl ?_
  refine RG.op (ok_not (ht rfl)) rfl ?_
  refine RG.nil ?_
  refine AT.next ?_
  refine CG.cond (ht rfl) (fun hc => ?_) (fun hc => ?_)
  · have h := ct h hc
    refine CG.seq ?_
    refine CG.region ?_
    refine RG.op (ok_assign hB) rfl ?_
    refine RG.nil ?_
    refine AT.next ?_
    refine CG.ret ?_
    refine AT.then_ret ?_
    cases so h
    exact AT.ret1 rfl rfl
  · have h := cf h hc
    refine CG.skip ?_
    refine AT.next ?_
    refine CG.seq ?_
    refine CG.seq ?_
    refine CG.region ?_
    refine RG.op (ok_load ti24 rfl rfl (ht rfl)) rfl ?_
    obtain ⟨r1, q_r1, h⟩ := bs h
    refine RG.op (ok_call cb10 (f10_ok _ q_r1) ⟨(ht rfl), trivial⟩) rfl ?_
    refine RG.op (ok_move (ht rfl)) rfl ?_
    obtain ⟨t, q_t, h⟩ := bs h
    refine RG.opGf rfl rfl rfl rfl (fun hg => ok_load ti27 rfl rfl (ht rfl)) ?_
    obtain ⟨r2, h1t, h0t⟩ := og q_t
    have q_r2g := fun hb => (h1t hb).1
    refine RG.opGf rfl rfl rfl rfl (fun hg => ok_call cb11 (f11_ok _ (q_r2g hg)) ⟨(htO rfl hg), trivial⟩) ?_
    refine RG.op (ok_pickOrM (ht rfl) (fun hb => (htO rfl (noti hb))) (fun hb => (h1t hb).2) h0t) rfl ?_
    refine RG.op (ok_move (ht rfl)) rfl ?_
    refine RG.opGf rfl rfl rfl rfl (fun hg => ok_fieldAddr fd30_1 rfl flDSpread_1 rfl (ht rfl)) ?_
    refine RG.opGf rfl rfl rfl rfl (fun hg => ok_load ti28 rfl rfl (htO rfl hg)) ?_
    refine RG.opGf rfl rfl rfl rfl (fun hg => ok_lenSl Tryz.underlying28 (htO rfl hg)) ?_
    refine RG.opGf rfl rfl rfl rfl (fun hg => ok_gtr (htO rfl hg) hI) ?_
    refine RG.op (ok_pickOr (ht rfl) (fun hb => (htO rfl (noti hb)))) rfl ?_
    refine RG.nil ?_
    refine AT.next ?_
    refine CG.cond (ht rfl) (fun hc => ?_) (fun hc => ?_)
    · have h := ct h hc
      refine CG.seq ?_
      refine CG.region ?_
      refine RG.op (ok_assign hB) rfl ?_
      refine RG.nil ?_
      refine AT.next ?_
      refine CG.ret ?_
      refine AT.then_ret ?_
      cases so h
      exact AT.ret1 rfl rfl
    · have h := cf h hc
      refine CG.skip ?_
      refine AT.next ?_
      refine CG.seq ?_
      refine CG.region ?_
      refine RG.op (ok_load ti24 rfl rfl (ht rfl)) rfl ?_
      refine RG.op (ok_load ti27 rfl rfl (ht rfl)) rfl ?_
      refine RG.op (ok_fieldAddr fd30_0 rfl flDSpread_0 rfl (ht rfl)) rfl ?_
      refine RG.op (ok_load ti3 rfl rfl (ht rfl)) rfl ?_
      refine RG.op (ok_fieldAddr fd30_1 rfl flDSpread_1 rfl (ht rfl)) rfl ?_
      refine RG.op (ok_load ti28 rfl rfl (ht rfl)) rfl ?_
      obtain ⟨r3, q_r3, h⟩ := bs h
      refine RG.op (ok_call cb12 (f12_ok _ _ _ _ q_r3) ⟨(ht rfl), (ht rfl), (ht rfl), (ht rfl), trivial⟩) rfl ?_
      refine RG.op (ok_move (ht rfl)) rfl ?_
      refine RG.op (ok_extract rfl (ht rfl)) rfl ?_
      refine RG.op (ok_extract rfl (ht rfl)) rfl ?_
      refine RG.alloc (r := rpDLayout) (x := (⟨[]⟩ : DLayout)) ti36 (fun _ => zrDLayout _) rfl (fun b1 => ?_)
      refine RG.storeB ti36 rfl sfld_whole rfl (ht rfl) (ht rfl) ?_
      refine RG.settleB 7 rfl ?_
      refine RG.op (ok_assign (ht rfl)) rfl ?_
      refine RG.nil ?_
      refine AT.next ?_
      refine CG.seq ?_
      refine CG.seq ?_
      refine CG.region ?_
      refine RG.op (ok_move (ht rfl)) rfl ?_
      refine RG.op (ok_neqI (ht rfl) hI) rfl ?_
      refine RG.nil ?_
      refine AT.next ?_
      refine CG.cond (ht rfl) (fun hc => ?_) (fun hc => ?_)
      · have h := ct h hc
        refine CG.seq ?_
        refine CG.region ?_
        refine RG.op (ok_fieldAddr fd36_0 rfl flDLayout_0 rfl (ht rfl)) rfl ?_
        refine RG.op (ok_load ti34 rfl rfl (ht rfl)) rfl ?_
        refine RG.op (ok_lenSl Tryz.underlying34 (ht rfl)) rfl ?_
        refine RG.op (ok_eqlI (ht rfl) hI) rfl ?_
        refine RG.op (ok_assign (ht rfl)) rfl ?_
        refine RG.nil ?_
        refine AT.next ?_
        refine CG.ret ?_
        refine AT.then_ret ?_
        cases so h
        exact AT.ret1 rfl rfl
      · have h := cf h hc
        refine CG.skip ?_
        refine AT.next ?_
        refine CG.seq ?_
        refine CG.region ?_
        refine RG.op (ok_load ti24 rfl rfl (ht rfl)) rfl ?_
        refine RG.op (ok_load ti36 rfl rfl (ht rfl)) rfl ?_
        obtain ⟨r4, q_r4, h⟩ := bs h
        refine RG.op (ok_call cb27 (f27_ok _ _ q_r4) ⟨(ht rfl), (ht rfl), trivial⟩) rfl ?_
        refine RG.op (ok_move (ht rfl)) rfl ?_
        refine RG.op (ok_extract rfl (ht rfl)) rfl ?_
        refine RG.op (ok_extract rfl (ht rfl)) rfl ?_
        refine RG.alloc (r := rpDBase) (x := (⟨[]⟩ : DBase)) ti27 (fun _ => zrDBase _) rfl (fun b2 => ?_)
        refine RG.storeB ti27 rfl sfld_whole rfl (ht rfl) (ht rfl) ?_
        refine RG.settleB 9 rfl ?_
        refine RG.op (ok_assign (ht rfl)) rfl ?_
        refine RG.nil ?_
        refine AT.next ?_
        refine CG.seq ?_
        refine CG.seq ?_
        refine CG.region ?_
        refine RG.op (ok_load ti24 rfl rfl (ht rfl)) rfl ?_
        refine RG.op (ok_load ti36 rfl rfl (ht rfl)) rfl ?_
        obtain ⟨r5, q_r5, h⟩ := bs h
        refine RG.op (ok_call cb28 (f28_ok _ _ q_r5) ⟨(ht rfl), (ht rfl), trivial⟩) rfl ?_
        refine RG.op (ok_neqI (ht rfl) hI) rfl ?_
        refine RG.op (ok_move (ht rfl)) rfl ?_
        refine RG.opGf rfl rfl rfl rfl (fun hg => ok_move (ht rfl)) ?_
        refine RG.opGf rfl rfl rfl rfl (fun hg => ok_neqI (htO rfl hg) hI) ?_
        refine RG.op (ok_pickOr (ht rfl) (fun hb => (htO rfl (noti hb)))) rfl ?_
        refine RG.op (ok_move (ht rfl)) rfl ?_
        refine RG.opGf rfl rfl rfl rfl (fun hg => ok_fieldAddr fd27_0 rfl flDBase_0 rfl (ht rfl)) ?_
        refine RG.opGf rfl rfl rfl rfl (fun hg => ok_load ti25 rfl rfl (htO rfl hg)) ?_
        refine RG.opGf rfl rfl rfl rfl (fun hg => ok_lenSl Tryz.underlying25 (htO rfl hg)) ?_
        refine RG.opGf rfl rfl rfl rfl (fun hg => ok_fieldAddr fd24_0 rfl flDCatalog_0 rfl (ht rfl)) ?_
        refine RG.opGf rfl rfl rfl rfl (fun hg => ok_load ti22 rfl rfl (htO rfl hg)) ?_
        refine RG.opGf rfl rfl rfl rfl (fun hg => ok_lenSl Tryz.underlying22 (htO rfl hg)) ?_
        refine RG.opGf rfl rfl rfl rfl (fun hg => ok_neqI (htO rfl hg) (htO rfl hg)) ?_
        refine RG.op (ok_pickOr (ht rfl) (fun hb => (htO rfl (noti hb)))) rfl ?_
        refine RG.nil ?_
        refine AT.next ?_
        refine CG.cond (ht rfl) (fun hc => ?_) (fun hc => ?_)
        · have h := ct h hc
          refine CG.seq ?_
          refine CG.region ?_
          refine RG.op (ok_assign hB) rfl ?_
          refine RG.nil ?_
          refine AT.next ?_
          refine CG.ret ?_
          refine AT.then_ret ?_
          cases so h
          exact AT.ret1 rfl rfl
        · have h := cf h hc
          refine CG.skip ?_
          refine AT.next ?_
          refine CG.seq ?_
          refine CG.seq ?_
          refine CG.region ?_
          refine RG.op (ok_fieldAddr fd27_0 rfl flDBase_0 rfl (ht rfl)) rfl ?_
          refine RG.op (ok_load ti25 rfl rfl (ht rfl)) rfl ?_
          refine RG.op (ok_lenSl Tryz.underlying25 (ht rfl)) rfl ?_
          refine RG.op (ok_move hI) rfl ?_
          refine RG.nil ?_
          refine AT.next ?_
          refine CG.block ?_
          refine CG.have_len (k := 68) rfl (fun hN => ?_)
          refine CG.loop ?_
          refine LG.sub (LG.list1 (Z := fun ls i  => (r4.1.Tables.drop i = ls) ∧ law17_PlaceBack_l1 c b ls i  = some R) (Of := fun _ i  => []) (Gf := fun _ i  => [(3, tPtr rpDCatalog c), (4, tPtr rpDBase b), (9, tPtr rpDBase r4.1), (69, tD (rI .i64) (r4.1.Tables.length : Int)), (70, tD (rI .i64) (i : Int))]) (fun i  h => ?_) (fun e tl ih i  h => ?_) r4.1.Tables 0  ⟨rfl, h⟩) ⟨rfl, rfl, rfl, rfl, rfl, trivial⟩
          · obtain ⟨hx, h⟩ := h
            refine LG.unfold ?_
            refine CG.seq ?_
            refine CG.region ?_
            refine RG.op (ok_lss (ht rfl) (ht rfl)) rfl ?_
            refine RG.nil ?_
            refine AT.next ?_
            refine CG.seq ?_
            refine CG.condF (ht rfl) (dropF hx) ?_
            refine CG.exit ?_
            refine AT.then_exit (AT.then_exit (AT.in_exit ?_))
            refine AT.next ?_
            refine CG.seq ?_
            refine CG.region ?_
            refine RG.op (ok_load ti24 rfl rfl (ht rfl)) rfl ?_
            refine RG.op (ok_load ti27 rfl rfl (ht rfl)) rfl ?_
            refine RG.op (ok_buildSlice (r := rpDBase) (ys := [b]) (xs := [.tmp 96]) Tryz.underlying34 ti27 rfl rfl rfl rfl rfl ⟨(ht rfl), trivial⟩) rfl ?_
            refine RG.op (ok_build (y := (⟨[b]⟩ : DLayout)) ti36 fs36 zrDLayout (⟨_, _, _, _, _, rfl, sfDLayout_0, rfl, (ht rfl), rfl⟩)) rfl ?_
            obtain ⟨r6, q_r6, h⟩ := bs h
            refine RG.op (ok_call cb28 (f28_ok _ _ q_r6) ⟨(ht rfl), (ht rfl), trivial⟩) rfl ?_
            refine RG.op (ok_eqlI (ht rfl) hI) rfl ?_
            refine RG.op (ok_assign (ht rfl)) rfl ?_
            refine RG.nil ?_
            refine AT.next ?_
            refine CG.ret ?_
            cases so h
            exact AT.ret1 rfl rfl
          · obtain ⟨hx, h⟩ := h
            refine LG.unfold ?_
            refine CG.seq ?_
            refine CG.region ?_
            refine RG.op (ok_lss (ht rfl) (ht rfl)) rfl ?_
            refine RG.nil ?_
            refine AT.next ?_
            refine CG.seq ?_
            refine CG.condT (ht rfl) (dropT hx) ?_
            refine CG.skip ?_
            refine AT.next ?_
            refine CG.seq ?_
            refine CG.block ?_
            refine CG.seq ?_
            refine CG.region ?_
            refine RG.op (ok_move (ht rfl)) rfl ?_
            refine RG.op (ok_assign (ht rfl)) rfl ?_
            refine RG.nil ?_
            refine AT.next ?_
            refine CG.seq ?_
            refine CG.region ?_
            refine RG.op (ok_fieldAddr fd27_0 rfl flDBase_0 rfl (ht rfl)) rfl ?_
            refine RG.op (ok_load ti25 rfl rfl (ht rfl)) rfl ?_
            refine RG.op (ok_move (ht rfl)) rfl ?_
            obtain ⟨e1, q_e1, h⟩ := bs h
            refine RG.op (ok_indexAddr Tryz.underlying25 ti54 rfl (ht rfl) (ht rfl) q_e1) rfl ?_
            refine RG.op (ok_load ti54 rfl rfl (ht rfl)) rfl ?_
            obtain ⟨r7, q_r7, h⟩ := bs h
            refine RG.op (ok_call cb29 (f29_ok _ q_r7) ⟨(ht rfl), trivial⟩) rfl ?_
            refine RG.op (ok_move (ht rfl)) rfl ?_
            refine RG.op (ok_extract rfl (ht rfl)) rfl ?_
            refine RG.op (ok_extract rfl (ht rfl)) rfl ?_
            refine RG.op (ok_assign (ht rfl)) rfl ?_
            refine RG.op (ok_assign (ht rfl)) rfl ?_
            refine RG.nil ?_
            refine AT.next ?_
            refine CG.seq ?_
            refine CG.region ?_
            refine RG.op (ok_move (ht rfl)) rfl ?_
            refine RG.op (ok_neqI (ht rfl) hI) rfl ?_
            refine RG.op (ok_move (ht rfl)) rfl ?_
            obtain ⟨t1, q_t1, h⟩ := bs h
            refine RG.opGf rfl rfl rfl rfl (fun hg => ok_move (ht rfl)) ?_
            refine RG.opGf rfl rfl rfl rfl (fun hg => ok_fieldAddr fd27_0 rfl flDBase_0 rfl (ht rfl)) ?_
            refine RG.opGf rfl rfl rfl rfl (fun hg => ok_load ti25 rfl rfl (htO rfl hg)) ?_
            refine RG.opGf rfl rfl rfl rfl (fun hg => ok_move (ht rfl)) ?_
            refine RG.opGf rfl rfl rfl rfl (fun hg => ok_indexAddr Tryz.underlying25 ti54 rfl (htO rfl hg) (htO rfl hg) (dropI hx)) ?_
            refine RG.opGf rfl rfl rfl rfl (fun hg => ok_load ti54 rfl rfl (htO rfl hg)) ?_
            obtain ⟨r8, h1t1, h0t1⟩ := og q_t1
            have q_r8g := fun hb => (h1t1 hb).1
            refine RG.opGf rfl rfl rfl rfl (fun hg => ok_call cb30 (f30_ok _ _ (q_r8g hg)) ⟨(htO rfl hg), (htO rfl hg), trivial⟩) ?_
            refine RG.opGf rfl rfl rfl rfl (fun hg => ok_not (htO rfl hg)) ?_
            refine RG.op (ok_pickOrM (ht rfl) (fun hb => (htO rfl (noti hb))) (fun hb => (h1t1 hb).2) h0t1) rfl ?_
            refine RG.nil ?_
            refine AT.next ?_
            refine CG.cond (ht rfl) (fun hc => ?_) (fun hc => ?_)
            · have h := ct h hc
              refine CG.seq ?_
              refine CG.region ?_
              refine RG.op (ok_assign hB) rfl ?_
              refine RG.nil ?_
              refine AT.next ?_
              refine CG.ret ?_
              refine AT.in_ret (AT.then_ret (AT.then_ret (AT.in_ret (AT.then_ret ?_))))
              cases so h
              exact AT.ret1 rfl rfl
            · have h := cf h hc
              refine CG.skip ?_
              refine AT.in_normal ?_
              refine AT.next ?_
              refine CG.region ?_
              refine RG.op (ok_incN (dropL hx hN) (ht rfl) hI) rfl ?_
              refine RG.op (ok_move (ht rfl)) rfl ?_
              refine RG.nil ?_
              exact AT.round (LG.sub (ih (i + 1)  ⟨dropS hx, h⟩) ⟨rfl, rfl, rfl, rfl, rfl, trivial⟩)

end Go.Proofs.YtegigakgcnhiaaaGreatDoor

