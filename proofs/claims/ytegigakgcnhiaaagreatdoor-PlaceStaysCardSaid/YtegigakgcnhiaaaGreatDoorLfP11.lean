/- Facts of this claim: P11. -/
import Derived.Test.YtegigakgcnhiaaaGreatDoorLfT
import Derived.Test.YtegigakgcnhiaaaGreatDoorLfP10
namespace Go.Proofs.YtegigakgcnhiaaaGreatDoor
open Go

set_option maxRecDepth 100000 in
theorem f8_ok (c : DCatalog) (b : DBase) (l : (List DStep)) {R : Bool} (h : law17_PlaceStays c b l = some R) : Spec Tryz.prog 8 [tD rpDCatalog c, tD rpDBase b, tD (rSl rpDStep) l] (tD rB R) := by
  refine Spec.of Tryz.func8 rfl rfl rfl fun w0 S0 => ?_
  refine CG.seq ?_
  refine CG.region ?_
  refine RG.op (ok_box (ht rfl)) rfl ?_
  refine RG.op (ok_box (ht rfl)) rfl ?_
  refine RG.op (ok_assign hB) rfl ?_
  refine RG.nil ?_
  refine AT.next ?_
  refine CG.seq ?_
  refine CG.seq ?_
  refine CG.region ?_
  obtain ⟨r, q_r, h⟩ := bs h
  refine RG.op (ok_call cb9 (f9_ok  q_r) trivial) rfl ?_
  refine RG.op (ok_not (ht rfl)) rfl ?_
  refine RG.nil ?_
  refine AT.next ?_
  refine CG.cond (ht rfl) (fun hc => ?_) (fun hc => ?_)
  · have h := ct h hc
    refine CG.seq ?_
    refine CG.region ?_
    refine RG.op (ok_assign hB) rfl ?_
    refine RG.nil ?_
    refine AT.next ?_
    refine CG.ret ?_
    refine AT.then_ret ?_
    cases so h
    exact AT.ret1 rfl rfl
  · have h := cf h hc
    refine CG.skip ?_
    refine AT.next ?_
    refine CG.seq ?_
    refine CG.seq ?_
    refine CG.region ?_
    refine RG.op (ok_load ti24 rfl rfl (ht rfl)) rfl ?_
    obtain ⟨r1, q_r1, h⟩ := bs h
    refine RG.op (ok_call cb10 (f10_ok _ q_r1) ⟨(ht rfl), trivial⟩) rfl ?_
    refine RG.op (ok_move (ht rfl)) rfl ?_
    obtain ⟨t, q_t, h⟩ := bs h
    refine RG.opGf rfl rfl rfl rfl (fun hg => ok_load ti27 rfl rfl (ht rfl)) ?_
    obtain ⟨r2, h1t, h0t⟩ := og q_t
    have q_r2g := fun hb => (h1t hb).1
    refine RG.opGf rfl rfl rfl rfl (fun hg => ok_call cb11 (f11_ok _ (q_r2g hg)) ⟨(htO rfl hg), trivial⟩) ?_
    refine RG.op (ok_pickOrM (ht rfl) (fun hb => (htO rfl (noti hb))) (fun hb => (h1t hb).2) h0t) rfl ?_
    refine RG.nil ?_
    refine AT.next ?_
    refine CG.cond (ht rfl) (fun hc => ?_) (fun hc => ?_)
    · have h := ct h hc
      refine CG.seq ?_
      refine CG.region ?_
      refine RG.op (ok_assign hB) rfl ?_
      refine RG.nil ?_
      refine AT.next ?_
      refine CG.ret ?_
      refine AT.then_ret ?_
      cases so h
      exact AT.ret1 rfl rfl
    · have h := cf h hc
      refine CG.skip ?_
      refine AT.next ?_
      refine CG.seq ?_
      refine CG.region ?_
      refine RG.op (ok_load ti24 rfl rfl (ht rfl)) rfl ?_
      refine RG.op (ok_load ti27 rfl rfl (ht rfl)) rfl ?_
      obtain ⟨r3, q_r3, h⟩ := bs h
      refine RG.op (ok_call cb12 (f12_ok _ _ _ _ q_r3) ⟨(ht rfl), (ht rfl), hI, hNil, trivial⟩) rfl ?_
      refine RG.op (ok_move (ht rfl)) rfl ?_
      refine RG.op (ok_extract rfl (ht rfl)) rfl ?_
      refine RG.op (ok_extract rfl (ht rfl)) rfl ?_
      refine RG.alloc (r := rpDLayout) (x := (⟨[]⟩ : DLayout)) ti36 (fun _ => zrDLayout _) rfl (fun b1 => ?_)
      refine RG.storeB ti36 rfl sfld_whole rfl (ht rfl) (ht rfl) ?_
      refine RG.op (ok_assign (ht rfl)) rfl ?_
      refine RG.nil ?_
      refine AT.next ?_
      refine CG.seq ?_
      refine CG.seq ?_
      refine CG.region ?_
      refine RG.op (ok_move (ht rfl)) rfl ?_
      refine RG.op (ok_neqI (ht rfl) hI) rfl ?_
      refine RG.nil ?_
      refine AT.next ?_
      refine CG.cond (ht rfl) (fun hc => ?_) (fun hc => ?_)
      · have h := ct h hc
        refine CG.seq ?_
        refine CG.region ?_
        refine RG.op (ok_fieldAddrC (n := 0) fd36_0 rfl (ht rfl) rfl) rfl ?_
        refine RG.op (ok_loadB ti34 rfl rfl flDLayout_0 (.head _) (ht rfl)) rfl ?_
        refine RG.op (ok_lenSl Tryz.underlying34 (ht rfl)) rfl ?_
        refine RG.op (ok_eqlI (ht rfl) hI) rfl ?_
        refine RG.op (ok_assign (ht rfl)) rfl ?_
        refine RG.nil ?_
        refine AT.next ?_
        refine CG.ret ?_
        refine AT.then_ret ?_
        refine AT.drop ?_
        cases so h
        exact AT.ret1 rfl rfl
      · have h := cf h hc
        refine CG.skip ?_
        refine AT.next ?_
        refine CG.seq ?_
        refine CG.region ?_
        refine RG.op (ok_load ti24 rfl rfl (ht rfl)) rfl ?_
        refine RG.op (ok_loadB ti36 rfl rfl fld_whole (.head _) (ht rfl)) rfl ?_
        obtain ⟨r4, q_r4, h⟩ := bs h
        refine RG.op (ok_call cb27 (f27_ok _ _ q_r4) ⟨(ht rfl), (ht rfl), trivial⟩) rfl ?_
        refine RG.op (ok_move (ht rfl)) rfl ?_
        refine RG.op (ok_extract rfl (ht rfl)) rfl ?_
        refine RG.op (ok_extract rfl (ht rfl)) rfl ?_
        refine RG.alloc (r := rpDBase) (x := (⟨[]⟩ : DBase)) ti27 (fun _ => zrDBase _) rfl (fun b2 => ?_)
        refine RG.storeB ti27 rfl sfld_whole rfl (ht rfl) (ht rfl) ?_
        refine RG.settleB 9 rfl ?_
        refine RG.op (ok_assign (ht rfl)) rfl ?_
        refine RG.nil ?_
        refine AT.next ?_
        refine CG.seq ?_
        refine CG.seq ?_
        refine CG.region ?_
        refine RG.op (ok_move (ht rfl)) rfl ?_
        refine RG.op (ok_neqI (ht rfl) hI) rfl ?_
        refine RG.nil ?_
        refine AT.next ?_
        refine CG.cond (ht rfl) (fun hc => ?_) (fun hc => ?_)
        · have h := ct h hc
          refine CG.seq ?_
          refine CG.region ?_
          refine RG.op (ok_assign hB) rfl ?_
          refine RG.nil ?_
          refine AT.next ?_
          refine CG.ret ?_
          refine AT.then_ret ?_
          refine AT.drop ?_
          cases so h
          exact AT.ret1 rfl rfl
        · have h := cf h hc
          refine CG.skip ?_
          refine AT.next ?_
          refine CG.seq ?_
          refine CG.seq ?_
          refine CG.region ?_
          refine RG.op (ok_move (ht rfl)) rfl ?_
          refine RG.op (ok_lenSl Tryz.underlying74 (ht rfl)) rfl ?_
          refine RG.op (ok_move hI) rfl ?_
          refine RG.nil ?_
          refine AT.next ?_
          refine CG.bjoin1 (Z := fun x => law17_PlaceStays_k1 c r4 x = some R) (Of := fun x => [bx rpDLayout 36 b1 x]) (Gf := fun x => [(3, tPtr rpDCatalog c), (7, tV (bptr b1 0)), (9, tPtr rpDBase r4.1)]) (fun x h => ?_) (fun K => ?_)
          · skip
            refine AT.next ?_
            refine CG.seq ?_
            refine CG.region ?_
            refine RG.op (ok_load ti24 rfl rfl (ht rfl)) rfl ?_
            refine RG.op (ok_loadB ti36 rfl rfl fld_whole (.head _) (ht rfl)) rfl ?_
            obtain ⟨r5, q_r5, h⟩ := bs h
            refine RG.op (ok_call cb27 (f27_ok _ _ q_r5) ⟨(ht rfl), (ht rfl), trivial⟩) rfl ?_
            refine RG.op (ok_move (ht rfl)) rfl ?_
            refine RG.op (ok_extract rfl (ht rfl)) rfl ?_
            refine RG.op (ok_extract rfl (ht rfl)) rfl ?_
            refine RG.alloc (r := rpDBase) (x := (⟨[]⟩ : DBase)) ti27 (fun _ => zrDBase _) rfl (fun b3 => ?_)
            refine RG.storeB ti27 rfl sfld_whole rfl (ht rfl) (ht rfl) ?_
            refine RG.settleB 14 rfl ?_
            refine RG.op (ok_assign (ht rfl)) rfl ?_
            refine RG.nil ?_
            refine AT.next ?_
            refine CG.seq ?_
            refine CG.seq ?_
            refine CG.region ?_
            refine RG.op (ok_move (ht rfl)) rfl ?_
            refine RG.op (ok_neqI (ht rfl) hI) rfl ?_
            refine RG.op (ok_move (ht rfl)) rfl ?_
            obtain ⟨t1, q_t1, h⟩ := bs h
            refine RG.opGf rfl rfl rfl rfl (fun hg => ok_load ti27 rfl rfl (ht rfl)) ?_
            refine RG.opGf rfl rfl rfl rfl (fun hg => ok_buildSlice (r := rpDBase) (ys := [r4.1]) (xs := [.tmp 85]) Tryz.underlying34 ti27 rfl rfl rfl rfl rfl ⟨(htO rfl hg), trivial⟩) ?_
            refine RG.opGf rfl rfl rfl rfl (fun hg => ok_build (y := (⟨[r4.1]⟩ : DLayout)) ti36 fs36 zrDLayout (⟨_, _, _, _, _, rfl, sfDLayout_0, rfl, (htO rfl hg), rfl⟩)) ?_
            refine RG.opGf rfl rfl rfl rfl (fun hg => ok_load ti27 rfl rfl (ht rfl)) ?_
            refine RG.opGf rfl rfl rfl rfl (fun hg => ok_buildSlice (r := rpDBase) (ys := [r5.1]) (xs := [.tmp 88]) Tryz.underlying34 ti27 rfl rfl rfl rfl rfl ⟨(htO rfl hg), trivial⟩) ?_
            refine RG.opGf rfl rfl rfl rfl (fun hg => ok_build (y := (⟨[r5.1]⟩ : DLayout)) ti36 fs36 zrDLayout (⟨_, _, _, _, _, rfl, sfDLayout_0, rfl, (htO rfl hg), rfl⟩)) ?_
            obtain ⟨r6, h1t1, h0t1⟩ := og q_t1
            have q_r6g := fun hb => (h1t1 hb).1
            refine RG.opGf rfl rfl rfl rfl (fun hg => ok_call cb32 (f32_ok _ _ (q_r6g hg)) ⟨(htO rfl hg), (htO rfl hg), trivial⟩) ?_
            refine RG.opGf rfl rfl rfl rfl (fun hg => ok_not (htO rfl hg)) ?_
            refine RG.op (ok_pickOrM (ht rfl) (fun hb => (htO rfl (noti hb))) (fun hb => (h1t1 hb).2) h0t1) rfl ?_
            refine RG.nil ?_
            refine AT.next ?_
            refine CG.cond (ht rfl) (fun hc => ?_) (fun hc => ?_)
            · have h := ct h hc
              refine CG.seq ?_
              refine CG.region ?_
              refine RG.op (ok_assign hB) rfl ?_
              refine RG.nil ?_
              refine AT.next ?_
              refine CG.ret ?_
              refine AT.then_ret ?_
              refine AT.drop ?_
              cases so h
              exact AT.ret1 rfl rfl
            · have h := cf h hc
              refine CG.skip ?_
              refine AT.next ?_
              refine CG.seq ?_
              refine CG.seq ?_
              refine CG.region ?_
              refine RG.op (ok_fieldAddr fd24_0 rfl flDCatalog_0 rfl (ht rfl)) rfl ?_
              refine RG.op (ok_load ti22 rfl rfl (ht rfl)) rfl ?_
              refine RG.op (ok_lenSl Tryz.underlying22 (ht rfl)) rfl ?_
              refine RG.op (ok_move hI) rfl ?_
              refine RG.nil ?_
              refine AT.next ?_
              refine CG.block ?_
              refine CG.have_len (k := 95) rfl (fun hN => ?_)
              refine CG.loop ?_
              refine LG.sub (LG.list1 (Z := fun ls i  => (c.Tables.drop i = ls) ∧ law17_PlaceStays_l1 c x ls i  = some R) (Of := fun _ i  => [bx rpDLayout 36 b1 x]) (Gf := fun _ i  => [(3, tPtr rpDCatalog c), (7, tV (bptr b1 0)), (96, tD (rI .i64) (c.Tables.length : Int)), (97, tD (rI .i64) (i : Int))]) (fun i  h => ?_) (fun e tl ih i  h => ?_) c.Tables 0  ⟨rfl, h⟩) ⟨rfl, rfl, rfl, rfl, trivial⟩
              · obtain ⟨hx, h⟩ := h
                refine LG.unfold ?_
                refine CG.seq ?_
                refine CG.region ?_
                refine RG.op (ok_lss (ht rfl) (ht rfl)) rfl ?_
                refine RG.nil ?_
                refine AT.next ?_
                refine CG.seq ?_
                refine CG.condF (ht rfl) (dropF hx) ?_
                refine CG.exit ?_
                refine AT.then_exit (AT.then_exit (AT.in_exit ?_))
                refine AT.next ?_
                refine CG.seq ?_
                refine CG.region ?_
                refine RG.op (ok_assign hB) rfl ?_
                refine RG.nil ?_
                refine AT.next ?_
                refine CG.ret ?_
                refine AT.drop ?_
                cases so h
                exact AT.ret1 rfl rfl
              · obtain ⟨hx, h⟩ := h
                refine LG.unfold ?_
                refine CG.seq ?_
                refine CG.region ?_
                refine RG.op (ok_lss (ht rfl) (ht rfl)) rfl ?_
                refine RG.nil ?_
                refine AT.next ?_
                refine CG.seq ?_
                refine CG.condT (ht rfl) (dropT hx) ?_
                refine CG.skip ?_
                refine AT.next ?_
                refine CG.seq ?_
                refine CG.block ?_
                refine CG.seq ?_
                refine CG.region ?_
                refine RG.op (ok_move (ht rfl)) rfl ?_
                refine RG.op (ok_assign (ht rfl)) rfl ?_
                refine RG.nil ?_
                refine AT.next ?_
                refine CG.seq ?_
                refine CG.region ?_
                refine RG.op (ok_assign hI) rfl ?_
                refine RG.nil ?_
                refine AT.next ?_
                refine CG.block ?_
                refine CG.loop ?_
                refine LG.sub (LG.ind1 (Z := fun n1 n => law17_PlaceStays_l2 c x (law17_PlaceStays_l1 c x tl) i n1 n = some R) (Of := fun n => [bx rpDLayout 36 b1 x]) (Gf := fun n => [(3, tPtr rpDCatalog c), (7, tV (bptr b1 0)), (15, tD (rI .i64) (i : Int)), (16, tD (rI .i64) n), (96, tD (rI .i64) (c.Tables.length : Int)), (97, tD (rI .i64) (i : Int))]) (fun n h => nn h) (fun n1 ih1 n h => ?_) FUEL (1 : Int) h) ⟨rfl, rfl, rfl, rfl, rfl, rfl, trivial⟩
                refine LG.unfold ?_
                refine CG.seq ?_
                refine CG.seq ?_
                refine CG.region ?_
                refine RG.op (ok_move (ht rfl)) rfl ?_
                refine RG.op (ok_leq (ht rfl) hI) rfl ?_
                refine RG.nil ?_
                refine AT.next ?_
                refine CG.cond (ht rfl) (fun hc => ?_) (fun hc => ?_)
                · have h := ct h hc
                  refine CG.skip ?_
                  refine AT.next ?_
                  refine CG.seq ?_
                  refine CG.block ?_
                  refine CG.seq ?_
                  refine CG.region ?_
                  refine RG.op (ok_loadB ti36 rfl rfl fld_whole (.head _) (ht rfl)) rfl ?_
                  refine RG.op (ok_move (ht rfl)) rfl ?_
                  refine RG.op (ok_move (ht rfl)) rfl ?_
                  obtain ⟨r7, q_r7, h⟩ := bs h
                  refine RG.op (ok_call cb21 (f21_ok _ _ _ q_r7) ⟨(ht rfl), (ht rfl), (ht rfl), trivial⟩) rfl ?_
                  refine RG.op (ok_lenSl Tryz.underlying54 (ht rfl)) rfl ?_
                  refine RG.op (ok_move hI) rfl ?_
                  refine RG.nil ?_
                  refine AT.next ?_
                  refine CG.block ?_
                  refine CG.have_len (k := 107) rfl (fun hN1 => ?_)
                  refine CG.loop ?_
                  refine LG.sub (LG.list1 (Z := fun ls1 i1  => (r7.drop i1 = ls1) ∧ law17_PlaceStays_l3 c i (law17_PlaceStays_l2 c x (law17_PlaceStays_l1 c x tl) i n1) n ls1  = some R) (Of := fun _ i1  => [bx rpDLayout 36 b1 x]) (Gf := fun _ i1  => [(3, tPtr rpDCatalog c), (7, tV (bptr b1 0)), (15, tD (rI .i64) (i : Int)), (16, tD (rI .i64) n), (96, tD (rI .i64) (c.Tables.length : Int)), (97, tD (rI .i64) (i : Int)), (107, tD (rSl (rSl rpDValue)) r7), (108, tD (rI .i64) (r7.length : Int)), (109, tD (rI .i64) (i1 : Int))]) (fun i1  h => ?_) (fun e1 tl1 ih2 i1  h => ?_) r7 0  ⟨rfl, h⟩) ⟨rfl, rfl, rfl, rfl, rfl, rfl, rfl, rfl, rfl, trivial⟩
                  · obtain ⟨hx1, h⟩ := h
                    refine LG.unfold ?_
                    refine CG.seq ?_
                    refine CG.region ?_
                    refine RG.op (ok_lss (ht rfl) (ht rfl)) rfl ?_
                    refine RG.nil ?_
                    refine AT.next ?_
                    refine CG.seq ?_
                    refine CG.condF (ht rfl) (dropF hx1) ?_
                    refine CG.exit ?_
                    refine AT.then_exit (AT.then_exit (AT.in_exit ?_))
                    refine AT.in_normal ?_
                    refine AT.next ?_
                    refine CG.region ?_
                    refine RG.op (ok_move (ht rfl)) rfl ?_
                    refine RG.op (ok_add (ht rfl) hI) rfl ?_
                    refine RG.op (ok_assign (ht rfl)) rfl ?_
                    refine RG.nil ?_
                    exact AT.round (LG.sub (ih1 (IntKind.i64.wrap (n + (1 : Int))) h) ⟨rfl, rfl, rfl, rfl, rfl, rfl, trivial⟩)
                  · obtain ⟨hx1, h⟩ := h
                    refine LG.unfold ?_
                    refine CG.seq ?_
                    refine CG.region ?_
                    refine RG.op (ok_lss (ht rfl) (ht rfl)) rfl ?_
                    refine RG.nil ?_
                    refine AT.next ?_
                    refine CG.seq ?_
                    refine CG.condT (ht rfl) (dropT hx1) ?_
                    refine CG.skip ?_
                    refine AT.next ?_
                    refine CG.seq ?_
                    refine CG.block ?_
                    refine CG.seq ?_
                    refine CG.region ?_
                    refine RG.op (ok_indexAddr Tryz.underlying54 ti45 rfl (ht rfl) (ht rfl) (dropI hx1)) rfl ?_
                    refine RG.op (ok_load ti45 rfl rfl (ht rfl)) rfl ?_
                    refine RG.op (ok_assign (ht rfl)) rfl ?_
                    refine RG.nil ?_
                    refine AT.next ?_
                    refine CG.seq ?_
                    refine CG.region ?_
                    refine RG.op (ok_load ti24 rfl rfl (ht rfl)) rfl ?_
                    refine RG.op (ok_move (ht rfl)) rfl ?_
                    refine RG.op (ok_move (ht rfl)) rfl ?_
                    obtain ⟨r8, q_r8, h⟩ := bs h
                    refine RG.op (ok_call cb18 (f18_ok _ _ _ _ q_r8) ⟨(ht rfl), (ht rfl), (ht rfl), hI, trivial⟩) rfl ?_
                    refine RG.op (ok_move (ht rfl)) rfl ?_
                    refine RG.op (ok_extract rfl (ht rfl)) rfl ?_
                    refine RG.op (ok_extract rfl (ht rfl)) rfl ?_
                    refine RG.op (ok_assign (ht rfl)) rfl ?_
                    refine RG.op (ok_assign (ht rfl)) rfl ?_
                    refine RG.nil ?_
                    refine AT.next ?_
                    refine CG.seq ?_
                    refine CG.region ?_
                    refine RG.op (ok_move (ht rfl)) rfl ?_
                    refine RG.op (ok_neqI (ht rfl) hI) rfl ?_
                    refine RG.op (ok_move (ht rfl)) rfl ?_
                    refine RG.opGf rfl rfl rfl rfl (fun hg => ok_move (ht rfl)) ?_
                    refine RG.opGf rfl rfl rfl rfl (fun hg => ok_neqI (htO rfl hg) hI) ?_
                    refine RG.opGf rfl rfl rfl rfl (fun hg => ok_move (htO rfl hg)) ?_
                    refine RG.opGot rfl rfl rfl rfl (fun hg => ok_move (ht rfl)) ?_
                    refine RG.opGot rfl rfl rfl rfl (fun hg => ok_move (ht rfl)) ?_
                    refine RG.opGot rfl rfl rfl rfl (fun hg => ok_neqI (htO rfl hg) (htO rfl hg)) ?_
                    refine RG.opGf rfl rfl rfl rfl (fun hg => ok_pickAnd (htO rfl hg) (fun hb => (htO rfl (andi hg hb)))) ?_
                    refine RG.op (ok_pickOr (ht rfl) (fun hb => (htO rfl (noti hb)))) rfl ?_
                    refine RG.nil ?_
                    refine AT.next ?_
                    refine CG.cond (ht rfl) (fun hc => ?_) (fun hc => ?_)
                    · have h := ct h hc
                      refine CG.seq ?_
                      refine CG.region ?_
                      refine RG.op (ok_assign hB) rfl ?_
                      refine RG.nil ?_
                      refine AT.next ?_
                      refine CG.ret ?_
                      refine AT.in_ret (AT.then_ret (AT.then_ret (AT.in_ret (AT.in_ret (AT.then_ret (AT.then_ret (AT.in_ret (AT.in_ret (AT.then_ret (AT.then_ret (AT.in_ret (AT.then_ret ?_))))))))))))
                      refine AT.drop ?_
                      cases so h
                      exact AT.ret1 rfl rfl
                    · have h := cf h hc
                      refine CG.skip ?_
                      refine AT.in_normal ?_
                      refine AT.next ?_
                      refine CG.region ?_
                      refine RG.op (ok_incN (dropL hx1 hN1) (ht rfl) hI) rfl ?_
                      refine RG.op (ok_move (ht rfl)) rfl ?_
                      refine RG.nil ?_
                      exact AT.round (LG.sub (ih2 (i1 + 1)  ⟨dropS hx1, h⟩) ⟨rfl, rfl, rfl, rfl, rfl, rfl, rfl, rfl, rfl, trivial⟩)
                · have h := cf h hc
                  refine CG.exit ?_
                  refine AT.then_exit (AT.then_exit (AT.in_exit ?_))
                  refine AT.in_normal ?_
                  refine AT.next ?_
                  refine CG.region ?_
                  refine RG.op (ok_incN (dropL hx hN) (ht rfl) hI) rfl ?_
                  refine RG.op (ok_move (ht rfl)) rfl ?_
                  refine RG.nil ?_
                  exact AT.round (LG.sub (ih (i + 1)  ⟨dropS hx, h⟩) ⟨rfl, rfl, rfl, rfl, trivial⟩)
          · skip
            refine CG.have_len (k := 49) rfl (fun hN2 => ?_)
            refine CG.loop ?_
            refine LG.sub (LG.list2 (Z := fun ls2 i2 x1 => (l.drop i2 = ls2) ∧ law17_PlaceStays_l4 c r4 ls2 i2 x1 = some R) (Of := fun _ i2 x1 => [bx rpDLayout 36 b1 x1]) (Gf := fun _ i2 x1 => [(3, tPtr rpDCatalog c), (7, tV (bptr b1 0)), (9, tPtr rpDBase r4.1), (49, tD (rSl rpDStep) l), (50, tD (rI .i64) (l.length : Int)), (51, tD (rI .i64) (i2 : Int))]) (fun i2 x1 h => ?_) (fun e2 tl2 ih3 i2 x1 h => ?_) l 0 r3.1 ⟨rfl, h⟩) ⟨rfl, rfl, rfl, rfl, rfl, rfl, trivial⟩
            · obtain ⟨hx2, h⟩ := h
              refine LG.unfold ?_
              refine CG.seq ?_
              refine CG.region ?_
              refine RG.op (ok_lss (ht rfl) (ht rfl)) rfl ?_
              refine RG.nil ?_
              refine AT.next ?_
              refine CG.seq ?_
              refine CG.condF (ht rfl) (dropF hx2) ?_
              refine CG.exit ?_
              refine AT.then_exit (AT.then_exit (AT.in_exit ?_))
              exact AT.sub (K x1 h) ⟨rfl, rfl, rfl, trivial⟩
            · obtain ⟨hx2, h⟩ := h
              refine LG.unfold ?_
              refine CG.seq ?_
              refine CG.region ?_
              refine RG.op (ok_lss (ht rfl) (ht rfl)) rfl ?_
              refine RG.nil ?_
              refine AT.next ?_
              refine CG.seq ?_
              refine CG.condT (ht rfl) (dropT hx2) ?_
              refine CG.skip ?_
              refine AT.next ?_
              refine CG.seq ?_
              refine CG.block ?_
              refine CG.seq ?_
              refine CG.region ?_
              refine RG.op (ok_move (ht rfl)) rfl ?_
              refine RG.op (ok_indexAddr Tryz.underlying74 ti47 rfl (ht rfl) (ht rfl) (dropI hx2)) rfl ?_
              refine RG.op (ok_load ti47 rfl rfl (ht rfl)) rfl ?_
              refine RG.alloc (r := rpDStep) (x := (⟨(0 : Int), (0 : Int), (0 : Int), (0 : Int)⟩ : DStep)) ti47 (fun _ => zrDStep _) rfl (fun b4 => ?_)
              refine RG.op (ok_assign (ht rfl)) rfl ?_
              refine RG.storeB ti47 rfl sfld_whole rfl (ht rfl) (ht rfl) ?_
              refine RG.settleB 11 rfl ?_
              refine RG.nil ?_
              refine AT.next ?_
              refine CG.seq ?_
              refine CG.seq ?_
              refine CG.region ?_
              refine RG.op (ok_move (ht rfl)) rfl ?_
              refine RG.op (ok_eqlI (ht rfl) hI) rfl ?_
              refine RG.nil ?_
              refine AT.next ?_
              refine CG.cond (ht rfl) (fun hc => ?_) (fun hc => ?_)
              · have h := ct h hc
                refine CG.exit ?_
                refine AT.then_exit (AT.in_exit_ne rfl (AT.then_exit (AT.then_exit (AT.in_exit ?_))))
                exact AT.sub (K x1 h) ⟨rfl, rfl, rfl, trivial⟩
              · have h := cf h hc
                refine CG.skip ?_
                refine AT.next ?_
                refine CG.seq ?_
                refine CG.region ?_
                refine RG.op (ok_load ti24 rfl rfl (ht rfl)) rfl ?_
                refine RG.op (ok_loadB ti36 rfl rfl fld_whole (.head _) (ht rfl)) rfl ?_
                refine RG.op (ok_fieldAddr fd47_0 rfl flDStep_0 rfl (ht rfl)) rfl ?_
                refine RG.op (ok_load ti3 rfl rfl (ht rfl)) rfl ?_
                refine RG.op (ok_fieldAddr fd47_1 rfl flDStep_1 rfl (ht rfl)) rfl ?_
                refine RG.op (ok_load ti3 rfl rfl (ht rfl)) rfl ?_
                refine RG.op (ok_fieldAddr fd47_2 rfl flDStep_2 rfl (ht rfl)) rfl ?_
                refine RG.op (ok_load ti3 rfl rfl (ht rfl)) rfl ?_
                refine RG.op (ok_fieldAddr fd47_3 rfl flDStep_3 rfl (ht rfl)) rfl ?_
                refine RG.op (ok_load ti3 rfl rfl (ht rfl)) rfl ?_
                obtain ⟨r9, q_r9, h⟩ := bs h
                refine RG.op (ok_call cb23 (f23_ok _ _ _ _ _ _ q_r9) ⟨(ht rfl), (ht rfl), (ht rfl), (ht rfl), (ht rfl), (ht rfl), trivial⟩) rfl ?_
                refine RG.op (ok_move (ht rfl)) rfl ?_
                refine RG.op (ok_extract rfl (ht rfl)) rfl ?_
                refine RG.op (ok_extract rfl (ht rfl)) rfl ?_
                refine RG.alloc (r := rpDLayout) (x := (⟨[]⟩ : DLayout)) ti36 (fun _ => zrDLayout _) rfl (fun b5 => ?_)
                refine RG.storeB ti36 rfl sfld_whole rfl (ht rfl) (ht rfl) ?_
                refine RG.settleB 12 rfl ?_
                refine RG.op (ok_assign (ht rfl)) rfl ?_
                refine RG.nil ?_
                refine AT.next ?_
                refine CG.seq ?_
                refine CG.region ?_
                refine RG.op (ok_move (ht rfl)) rfl ?_
                refine RG.op (ok_eqlI (ht rfl) hI) rfl ?_
                refine RG.nil ?_
                refine AT.next ?_
                refine CG.cond (ht rfl) (fun hc => ?_) (fun hc => ?_)
                · have h := ct h hc
                  refine CG.region ?_
                  refine RG.op (ok_load ti36 rfl rfl (ht rfl)) rfl ?_
                  refine RG.storeB ti36 rfl sfld_whole rfl (ht rfl) (ht rfl) ?_
                  refine RG.nil ?_
                  refine AT.in_normal ?_
                  refine AT.next ?_
                  refine CG.region ?_
                  refine RG.op (ok_incN (dropL hx2 hN2) (ht rfl) hI) rfl ?_
                  refine RG.op (ok_move (ht rfl)) rfl ?_
                  refine RG.nil ?_
                  exact AT.round (LG.sub (ih3 (i2 + 1) r9.1 ⟨dropS hx2, h⟩) ⟨rfl, rfl, rfl, rfl, rfl, rfl, trivial⟩)
                · have h := cf h hc
                  refine CG.skip ?_
                  refine AT.in_normal ?_
                  refine AT.next ?_
                  refine CG.region ?_
                  refine RG.op (ok_incN (dropL hx2 hN2) (ht rfl) hI) rfl ?_
                  refine RG.op (ok_move (ht rfl)) rfl ?_
                  refine RG.nil ?_
                  exact AT.round (LG.sub (ih3 (i2 + 1) x1 ⟨dropS hx2, h⟩) ⟨rfl, rfl, rfl, rfl, rfl, rfl, trivial⟩)

end Go.Proofs.YtegigakgcnhiaaaGreatDoor

