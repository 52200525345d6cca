/- Facts of this claim: P3. -/
import Derived.Test.YtegigakgcnhiaaaGreatDoorLfT
import Derived.Test.YtegigakgcnhiaaaGreatDoorLfP2
namespace Go.Proofs.YtegigakgcnhiaaaGreatDoor
open Go

set_option maxRecDepth 100000 in
theorem f78_it (l : DLayout) : ItSpec Tryz.prog 78 (fun (x : Dcell × (List DValue)) => [tD rpDcell x.1, tD (rSl rpDValue) x.2]) (fun _ => place_all_1 l) [] [tPtr rpDLayout l] := by
  refine ItSpec.of Tryz.func78 rfl rfl rfl fun Sg yld s R h I yv hy e he w0 S0 B hB => ?_
  replace h : place_all_1 l yld s = some R := h
  refine CG.seq ?_
  refine CG.region ?_
  refine RG.op (ok_fieldAddr fd36_0 rfl flDLayout_0 rfl (ht rfl)) rfl ?_
  refine RG.op (ok_load ti34 rfl rfl (ht rfl)) rfl ?_
  refine RG.op (ok_lenSl Tryz.underlying34 (ht rfl)) rfl ?_
  refine RG.op (ok_move hI) rfl ?_
  refine RG.nil ?_
  refine AT.next ?_
  refine CG.block ?_
  refine CG.have_len (k := 10) rfl (fun hN => ?_)
  refine CG.loop ?_
  refine LG.sub (LG.list3 (Z := fun ls i e1 s1 => (l.Parts.drop i = ls) ∧ I s1 e1 ∧ place_all_1_l1 yld ls i s1 = some R) (Of := fun _ i e1 s1 => [e1]) (Gf := fun _ i e1 s1 => [(0, tV yv), (10, tD (rSl rpDBase) l.Parts), (11, tD (rI .i64) (l.Parts.length : Int)), (12, tD (rI .i64) (i : Int))]) (fun i e1 s1 h => ?_) (fun e2 tl ih i e1 s1 h => ?_) l.Parts 0 e s ⟨rfl, ⟨he, h⟩⟩) ⟨rfl, rfl, rfl, rfl, trivial⟩
  · obtain ⟨hx, h⟩ := h
    obtain ⟨he1, h⟩ := h
    refine LG.unfold ?_
    refine CG.seq ?_
    refine CG.region ?_
    refine RG.op (ok_lss (ht rfl) (ht rfl)) rfl ?_
    refine RG.nil ?_
    refine AT.next ?_
    refine CG.seq ?_
    refine CG.condF (ht rfl) (dropF hx) ?_
    refine CG.exit ?_
    refine AT.then_exit (AT.then_exit (AT.in_exit ?_))
    cases so h
    exact AT.normI rfl he1 hB trivial
  · obtain ⟨hx, h⟩ := h
    obtain ⟨he1, h⟩ := h
    refine LG.unfold ?_
    refine CG.seq ?_
    refine CG.region ?_
    refine RG.op (ok_lss (ht rfl) (ht rfl)) rfl ?_
    refine RG.nil ?_
    refine AT.next ?_
    refine CG.seq ?_
    refine CG.condT (ht rfl) (dropT hx) ?_
    refine CG.skip ?_
    refine AT.next ?_
    refine CG.seq ?_
    refine CG.block ?_
    refine CG.seq ?_
    refine CG.region ?_
    refine RG.op (ok_move (ht rfl)) rfl ?_
    refine RG.op (ok_indexAddr Tryz.underlying34 ti27 rfl (ht rfl) (ht rfl) (dropI hx)) rfl ?_
    refine RG.op (ok_load ti27 rfl rfl (ht rfl)) rfl ?_
    refine RG.alloc (r := rpDBase) (x := (⟨[]⟩ : DBase)) ti27 (fun _ => zrDBase _) rfl (fun b => ?_)
    refine RG.op (ok_assign (ht rfl)) rfl ?_
    refine RG.storeB ti27 rfl sfld_whole rfl (ht rfl) (ht rfl) ?_
    refine RG.settleB 4 rfl ?_
    refine RG.nil ?_
    refine AT.next ?_
    refine CG.seq ?_
    refine CG.region ?_
    refine RG.op (ok_fieldAddr fd27_0 rfl flDBase_0 rfl (ht rfl)) rfl ?_
    refine RG.op (ok_load ti25 rfl rfl (ht rfl)) rfl ?_
    refine RG.op (ok_lenSl Tryz.underlying25 (ht rfl)) rfl ?_
    refine RG.op (ok_move hI) rfl ?_
    refine RG.nil ?_
    refine AT.next ?_
    refine CG.block ?_
    refine CG.have_len (k := 18) rfl (fun hN1 => ?_)
    refine CG.loop ?_
    refine LG.sub (LG.list3 (Z := fun ls1 i1 e3 s2 => (e2.Tables.drop i1 = ls1) ∧ I s2 e3 ∧ place_all_1_l2 yld (place_all_1_l1 yld tl) i ls1 i1 s2 = some R) (Of := fun _ i1 e3 s2 => [e3]) (Gf := fun _ i1 e3 s2 => [(0, tV yv), (3, tD (rI .i64) (i : Int)), (10, tD (rSl rpDBase) l.Parts), (11, tD (rI .i64) (l.Parts.length : Int)), (12, tD (rI .i64) (i : Int)), (18, tD (rSl (rSl (rSl rpDValue))) e2.Tables), (19, tD (rI .i64) (e2.Tables.length : Int)), (20, tD (rI .i64) (i1 : Int))]) (fun i1 e3 s2 h => ?_) (fun e4 tl1 ih1 i1 e3 s2 h => ?_) e2.Tables 0 e1 s1 ⟨rfl, ⟨he1, h⟩⟩) ⟨rfl, rfl, rfl, rfl, rfl, rfl, rfl, rfl, trivial⟩
    · obtain ⟨hx1, h⟩ := h
      obtain ⟨he2, h⟩ := h
      refine LG.unfold ?_
      refine CG.seq ?_
      refine CG.region ?_
      refine RG.op (ok_lss (ht rfl) (ht rfl)) rfl ?_
      refine RG.nil ?_
      refine AT.next ?_
      refine CG.seq ?_
      refine CG.condF (ht rfl) (dropF hx1) ?_
      refine CG.exit ?_
      refine AT.then_exit (AT.then_exit (AT.in_exit ?_))
      refine AT.in_normal ?_
      refine AT.next ?_
      refine CG.region ?_
      refine RG.op (ok_incN (dropL hx hN) (ht rfl) hI) rfl ?_
      refine RG.op (ok_move (ht rfl)) rfl ?_
      refine RG.nil ?_
      exact AT.round (LG.sub (ih (i + 1) e3 s2 ⟨dropS hx, ⟨he2, h⟩⟩) ⟨rfl, rfl, rfl, rfl, trivial⟩)
    · obtain ⟨hx1, h⟩ := h
      obtain ⟨he2, h⟩ := h
      refine LG.unfold ?_
      refine CG.seq ?_
      refine CG.region ?_
      refine RG.op (ok_lss (ht rfl) (ht rfl)) rfl ?_
      refine RG.nil ?_
      refine AT.next ?_
      refine CG.seq ?_
      refine CG.condT (ht rfl) (dropT hx1) ?_
      refine CG.skip ?_
      refine AT.next ?_
      refine CG.seq ?_
      refine CG.block ?_
      refine CG.seq ?_
      refine CG.region ?_
      refine RG.op (ok_move (ht rfl)) rfl ?_
      refine RG.op (ok_indexAddr Tryz.underlying25 ti54 rfl (ht rfl) (ht rfl) (dropI hx1)) rfl ?_
      refine RG.op (ok_load ti54 rfl rfl (ht rfl)) rfl ?_
      refine RG.op (ok_assign (ht rfl)) rfl ?_
      refine RG.op (ok_assign (ht rfl)) rfl ?_
      refine RG.nil ?_
      refine AT.next ?_
      refine CG.seq ?_
      refine CG.region ?_
      refine RG.op (ok_move (ht rfl)) rfl ?_
      refine RG.op (ok_lenSl Tryz.underlying54 (ht rfl)) rfl ?_
      refine RG.op (ok_move hI) rfl ?_
      refine RG.nil ?_
      refine AT.next ?_
      refine CG.block ?_
      refine CG.have_len (k := 25) rfl (fun hN2 => ?_)
      refine CG.loop ?_
      refine LG.sub (LG.list3 (Z := fun ls2 i2 e5 s3 => (e4.drop i2 = ls2) ∧ I s3 e5 ∧ place_all_1_l3 yld i (place_all_1_l2 yld (place_all_1_l1 yld tl) i tl1) i1 ls2 i2 s3 = some R) (Of := fun _ i2 e5 s3 => [e5]) (Gf := fun _ i2 e5 s3 => [(0, tV yv), (3, tD (rI .i64) (i : Int)), (5, tD (rI .i64) (i1 : Int)), (10, tD (rSl rpDBase) l.Parts), (11, tD (rI .i64) (l.Parts.length : Int)), (12, tD (rI .i64) (i : Int)), (18, tD (rSl (rSl (rSl rpDValue))) e2.Tables), (19, tD (rI .i64) (e2.Tables.length : Int)), (20, tD (rI .i64) (i1 : Int)), (25, tD (rSl (rSl rpDValue)) e4), (26, tD (rI .i64) (e4.length : Int)), (27, tD (rI .i64) (i2 : Int))]) (fun i2 e5 s3 h => ?_) (fun e6 tl2 ih2 i2 e5 s3 h => ?_) e4 0 e3 s2 ⟨rfl, ⟨he2, h⟩⟩) ⟨rfl, rfl, rfl, rfl, rfl, rfl, rfl, rfl, rfl, rfl, rfl, rfl, trivial⟩
      · obtain ⟨hx2, h⟩ := h
        obtain ⟨he3, h⟩ := h
        refine LG.unfold ?_
        refine CG.seq ?_
        refine CG.region ?_
        refine RG.op (ok_lss (ht rfl) (ht rfl)) rfl ?_
        refine RG.nil ?_
        refine AT.next ?_
        refine CG.seq ?_
        refine CG.condF (ht rfl) (dropF hx2) ?_
        refine CG.exit ?_
        refine AT.then_exit (AT.then_exit (AT.in_exit ?_))
        refine AT.in_normal ?_
        refine AT.next ?_
        refine CG.region ?_
        refine RG.op (ok_incN (dropL hx1 hN1) (ht rfl) hI) rfl ?_
        refine RG.op (ok_move (ht rfl)) rfl ?_
        refine RG.nil ?_
        exact AT.round (LG.sub (ih1 (i1 + 1) e5 s3 ⟨dropS hx1, ⟨he3, h⟩⟩) ⟨rfl, rfl, rfl, rfl, rfl, rfl, rfl, rfl, trivial⟩)
      · obtain ⟨hx2, h⟩ := h
        obtain ⟨he3, h⟩ := h
        refine LG.unfold ?_
        refine CG.seq ?_
        refine CG.region ?_
        refine RG.op (ok_lss (ht rfl) (ht rfl)) rfl ?_
        refine RG.nil ?_
        refine AT.next ?_
        refine CG.seq ?_
        refine CG.condT (ht rfl) (dropT hx2) ?_
        refine CG.skip ?_
        refine AT.next ?_
        refine CG.seq ?_
        refine CG.block ?_
        refine CG.seq ?_
        refine CG.region ?_
        refine RG.op (ok_move (ht rfl)) rfl ?_
        refine RG.op (ok_indexAddr Tryz.underlying54 ti45 rfl (ht rfl) (ht rfl) (dropI hx2)) rfl ?_
        refine RG.op (ok_load ti45 rfl rfl (ht rfl)) rfl ?_
        refine RG.op (ok_assign (ht rfl)) rfl ?_
        refine RG.op (ok_assign (ht rfl)) rfl ?_
        refine RG.nil ?_
        refine AT.next ?_
        refine CG.seq ?_
        refine CG.region ?_
        refine RG.op (ok_move (ht rfl)) rfl ?_
        refine RG.op (ok_move (ht rfl)) rfl ?_
        refine RG.op (ok_incN (dropL hx hN) (ht rfl) hI) rfl ?_
        refine RG.op (ok_move (ht rfl)) rfl ?_
        refine RG.op (ok_move (ht rfl)) rfl ?_
        refine RG.op (ok_build (y := (⟨((i + 1 : Nat) : Int), (i1 : Int), (i2 : Int)⟩ : Dcell)) ti97 fs97 zrDcell (⟨_, _, _, _, _, rfl, sfDcell_0, rfl, (ht rfl), ⟨_, _, _, _, _, rfl, sfDcell_1, rfl, (ht rfl), ⟨_, _, _, _, _, rfl, sfDcell_2, rfl, (ht rfl), rfl⟩⟩⟩)) rfl ?_
        refine RG.op (ok_move (ht rfl)) rfl ?_
        obtain ⟨r, q_r, h⟩ := bs h
        refine RG.yield hy he3 q_r (ht rfl) ⟨(ht rfl), (ht rfl), trivial⟩ rfl (fun e7 he4 => ?_)
        refine RG.op (ok_not (ht rfl)) rfl ?_
        refine RG.nil ?_
        refine AT.next ?_
        refine CG.cond (ht rfl) (fun hc => ?_) (fun hc => ?_)
        · have h := ct h hc
          refine CG.ret ?_
          refine AT.in_ret (AT.then_ret (AT.then_ret (AT.in_ret (AT.in_ret (AT.then_ret (AT.then_ret (AT.in_ret (AT.in_ret (AT.then_ret (AT.then_ret (AT.in_ret ?_)))))))))))
          cases so h
          exact AT.retI rfl he4 hB trivial
        · have h := cf h hc
          refine CG.skip ?_
          refine AT.in_normal ?_
          refine AT.next ?_
          refine CG.region ?_
          refine RG.op (ok_incN (dropL hx2 hN2) (ht rfl) hI) rfl ?_
          refine RG.op (ok_move (ht rfl)) rfl ?_
          refine RG.nil ?_
          exact AT.round (LG.sub (ih2 (i2 + 1) e7 r.2 ⟨dropS hx2, ⟨he4, h⟩⟩) ⟨rfl, rfl, rfl, rfl, rfl, rfl, rfl, rfl, rfl, rfl, rfl, rfl, trivial⟩)

set_option maxRecDepth 100000 in
theorem f50_itr (l : DLayout) {R : It (Dcell × (List DValue))} (h : place_all l = some R) : SpecIt Tryz.prog 50 [tD rpDLayout l] (fun (x : Dcell × (List DValue)) => [tD rpDcell x.1, tD (rSl rpDValue) x.2]) R := by
  refine SpecIt.of Tryz.func50 rfl rfl rfl fun w0 S0 => ?_
  refine CG.seq ?_
  refine CG.region ?_
  refine RG.op (ok_box (ht rfl)) rfl ?_
  refine RG.op (ok_assign hV) rfl ?_
  refine RG.nil ?_
  refine AT.next ?_
  refine CG.seq ?_
  refine CG.region ?_
  refine RG.makeIter (O1 := []) (cts := [tPtr rpDLayout l]) (caps := [.tmp 1]) rfl cb78 (f78_it l) ⟨(ht rfl), trivial⟩ rfl (fun v fp => ?_)
  refine RG.op (ok_assign (ht rfl)) rfl ?_
  refine RG.nil ?_
  refine AT.next ?_
  refine CG.ret ?_
  cases so h
  exact AT.retIt rfl rfl

set_option maxRecDepth 100000 in
theorem f21_ok (l : DLayout) (node : Int) (table : Int) {R : (List (List DValue))} (h : place_Rows l node table = some R) : Spec Tryz.prog 21 [tD rpDLayout l, tD (rI .i64) node, tD (rI .i64) table] (tD (rSl (rSl rpDValue)) R) := by
  refine Spec.ofM Tryz.func21 rfl rfl rfl fun w0 S0 => ?_
  refine CG.seq ?_
  refine CG.region ?_
  refine RG.op (ok_box (ht rfl)) rfl ?_
  refine RG.op (ok_box (ht rfl)) rfl ?_
  refine RG.op (ok_box (ht rfl)) rfl ?_
  refine RG.op (ok_assign (show HasTy _ _ _ (tD (rSl (rSl rpDValue)) ([])) from hNil)) rfl ?_
  refine RG.nil ?_
  refine AT.next ?_
  refine CG.seq ?_
  refine CG.region ?_
  refine RG.fresh false (rSl rpDValue) 45 ?_
  refine RG.alloc (x := oslV none 0 0) ti54 (fun _ => rV_osl) rfl (fun b => ?_)
  refine RG.nil ?_
  refine AT.next ?_
  refine CG.seq ?_
  refine CG.seq ?_
  refine CG.region ?_
  refine RG.op (ok_load ti36 rfl rfl (ht rfl)) rfl ?_
  obtain ⟨it, q_it, h⟩ := bs h
  refine RG.callIt cb50 (f50_itr _ q_it) ⟨(ht rfl), trivial⟩ rfl (fun v fp => ?_)
  refine RG.nil ?_
  refine AT.next ?_
  refine CG.block ?_
  obtain ⟨s, q_s, h⟩ := bs h
  refine CG.rangeF (fun (i : Option Nat × Nat × List (List DValue)) => [bx rV 54 b (oslV i.1 i.2.1 i.2.2.length), arr (rSl rpDValue) 45 i.1 i.2.1 i.2.2]) (fun (i : Option Nat × Nat × List (List DValue)) => (i.2.2)) rfl (ht rfl) (none, 0, ([] : List (List DValue))) rfl q_s (fun _ => rfl) rfl (fun i x s2 h lp rec1 _ _ _ => ?_) (fun i hi bd => ?_)
  · obtain ⟨l1, c, xs⟩ := i
    replace h : place_Rows_b1 node table x xs = some s2 := h
    refine (show CG _ _ _ [recE lp rec1 .ready, bx rV 54 b (oslV l1 c xs.length), arr (rSl rpDValue) 45 l1 c xs] _ from ?_)
    refine CG.sub (G' := [(0, tD rpDLayout l), (1, tD (rI .i64) node), (2, tD (rI .i64) table), (3, tPtr rpDLayout l), (4, tPtr (rI .i64) node), (5, tPtr (rI .i64) table), (6, tD (rSl (rSl rpDValue)) ([])), (7, tV (bptr b 0)), (10, tD rpDLayout l), (12, tD rpDcell x.1), (13, tD (rSl rpDValue) x.2)]) ?_ ⟨rfl, rfl, rfl, rfl, rfl, rfl, rfl, rfl, rfl, rfl, rfl, trivial⟩
    refine CG.seq ?_
    refine CG.region ?_
    refine RG.alloc (r := rpDcell) (x := (⟨(0 : Int), (0 : Int), (0 : Int)⟩ : Dcell)) ti97 (fun _ => zrDcell _) rfl (fun b1 => ?_)
    refine RG.storeB ti97 rfl sfld_whole rfl (ht rfl) (ht rfl) ?_
    refine RG.settleB 8 rfl ?_
    refine RG.nil ?_
    refine AT.next ?_
    refine CG.region ?_
    refine RG.op (ok_assign (ht rfl)) rfl ?_
    refine RG.nil ?_
    refine AT.begin ?_
    refine CG.block ?_
    refine CG.seq ?_
    refine CG.region ?_
    refine RG.op (ok_fieldAddr fd97_0 rfl flDcell_0 rfl (ht rfl)) rfl ?_
    refine RG.op (ok_load ti3 rfl rfl (ht rfl)) rfl ?_
    refine RG.op (ok_load ti3 rfl rfl (ht rfl)) rfl ?_
    refine RG.op (ok_eqlI (ht rfl) (ht rfl)) rfl ?_
    refine RG.op (ok_move (ht rfl)) rfl ?_
    refine RG.opGt rfl rfl rfl rfl (fun hg => ok_fieldAddr fd97_1 rfl flDcell_1 rfl (ht rfl)) ?_
    refine RG.opGt rfl rfl rfl rfl (fun hg => ok_load ti3 rfl rfl (htO rfl hg)) ?_
    refine RG.opGt rfl rfl rfl rfl (fun hg => ok_load ti3 rfl rfl (ht rfl)) ?_
    refine RG.opGt rfl rfl rfl rfl (fun hg => ok_eqlI (htO rfl hg) (htO rfl hg)) ?_
    refine RG.op (ok_pickAnd (ht rfl) (fun hb => (htO rfl hb))) rfl ?_
    refine RG.nil ?_
    refine AT.next ?_
    refine CG.cond (ht rfl) (fun hc => ?_) (fun hc => ?_)
    · have h := ct h hc
      obtain ⟨r, q_r, h⟩ := bs h
      refine CG.drawM 4 (ts := [tV (oslV l1 c xs.length), tD (rSl rpDValue) x.2, tD (rSl rpDValue) r, tD (rSl (rSl rpDValue)) ([r])]) mixed rfl rfl rfl
        ⟨⟨[⟨7, _, none⟩], _, rfl, ⟨rfl, trivial⟩, rfl, rfl, OpG.plain rfl (ok_loadA ti54 (.tail _ (.head _)) (ht rfl))⟩,
        ⟨⟨[⟨9, _, none⟩], _, rfl, ⟨rfl, trivial⟩, rfl, rfl, OpG.plain rfl (ok_move (ht rfl))⟩,
        ⟨⟨[⟨25, _, some 1⟩], _, rfl, ⟨rfl, trivial⟩, rfl, rfl, OpG.plain rfl (ok_call cb51 (f51_ok _ q_r) ⟨(ht rfl), trivial⟩)⟩,
        ⟨⟨[⟨26, _, some 2⟩], _, rfl, ⟨rfl, trivial⟩, rfl, rfl, OpG.plain rfl (ok_buildSlice (r := (rSl rpDValue)) (ys := [r]) (xs := [.tmp 26]) Tryz.underlying54 ti45 rfl rfl rfl rfl rfl ⟨(ht rfl), trivial⟩)⟩,
        trivial⟩⟩⟩⟩ ?_
      refine RG.front2 ?_
      obtain ⟨l2, q_l2, h⟩ := bs h
      refine RG.append ti45 rfl rfl rfl rfl Tryz.underlying54 rfl rfl (ht rfl) (ht rfl) q_l2 (fun l3 c1 => ?_)
      refine RG.front2 ?_
      refine RG.storeB ti54 rfl sfld_whole rfl (ht rfl) (hRV (ht rfl)) ?_
      refine RG.nil ?_
      refine AT.in_normal ?_
      refine AT.front1 ?_
      refine AT.front1 ?_
      refine AT.front2 ?_
      exact AT.endRound (l3, c1, l2) (so h) rfl
    · have h := cf h hc
      refine CG.skip ?_
      refine AT.in_normal ?_
      exact AT.endRound (l1, c, xs) (so h) rfl
  · skip
    obtain ⟨l4, c2, xs1⟩ := i
    have hi : xs1 = s := hi
    subst hi
    refine (show AT _ _ _ [dfb bd, bx rV 54 b (oslV l4 c2 xs1.length), arr (rSl rpDValue) 45 l4 c2 xs1] _ from ?_)
    refine AT.sub (G' := [(0, tD rpDLayout l), (1, tD (rI .i64) node), (2, tD (rI .i64) table), (3, tPtr rpDLayout l), (4, tPtr (rI .i64) node), (5, tPtr (rI .i64) table), (6, tD (rSl (rSl rpDValue)) ([])), (7, tV (bptr b 0)), (10, tD rpDLayout l)]) ?_ ⟨rfl, rfl, rfl, rfl, rfl, rfl, rfl, rfl, rfl, trivial⟩
    refine AT.in_normal ?_
    refine AT.next ?_
    refine CG.seq ?_
    refine CG.region ?_
    refine RG.op (ok_loadA ti54 (.tail _ (.head _)) (ht rfl)) rfl ?_
    refine RG.op (ok_assign (ht rfl)) rfl ?_
    refine RG.nil ?_
    refine AT.next ?_
    refine CG.ret ?_
    refine AT.front2 ?_
    refine AT.freeze ?_
    refine AT.tipAt 6 rfl ?_
    refine AT.tipAt 29 rfl ?_
    refine AT.dataAt 6 rfl ?_
    refine AT.drop ?_
    refine AT.front1 ?_
    refine AT.drop ?_
    refine AT.shut ?_
    refine AT.shut0 ?_
    cases so h
    exact AT.ret1 rfl rfl

set_option maxRecDepth 100000 in
theorem f79_ok (c : DCatalog) (l : DLayout) {R : Bool} (h : place_right c l = some R) : Spec Tryz.prog 79 [tD rpDCatalog c, tD rpDLayout l] (tD rB R) := by
  refine Spec.ofM Tryz.func79 rfl rfl rfl fun w0 S0 => ?_
  refine CG.seq ?_
  refine CG.region ?_
  refine RG.op (ok_box (ht rfl)) rfl ?_
  refine RG.op (ok_box (ht rfl)) rfl ?_
  refine RG.alloc (r := rB) (x := false) ti4 (fun _ => rfl) rfl (fun b => ?_)
  refine RG.nil ?_
  refine AT.next ?_
  refine CG.seq ?_
  refine CG.seq ?_
  refine CG.region ?_
  refine RG.op (ok_fieldAddr fd36_0 rfl flDLayout_0 rfl (ht rfl)) rfl ?_
  refine RG.op (ok_load ti34 rfl rfl (ht rfl)) rfl ?_
  refine RG.op (ok_lenSl Tryz.underlying34 (ht rfl)) rfl ?_
  refine RG.op (ok_lss (ht rfl) hI) rfl ?_
  refine RG.op (ok_move (ht rfl)) rfl ?_
  refine RG.opGf rfl rfl rfl rfl (fun hg => ok_fieldAddr fd36_0 rfl flDLayout_0 rfl (ht rfl)) ?_
  refine RG.opGf rfl rfl rfl rfl (fun hg => ok_load ti34 rfl rfl (htO rfl hg)) ?_
  refine RG.opGf rfl rfl rfl rfl (fun hg => ok_lenSl Tryz.underlying34 (htO rfl hg)) ?_
  refine RG.opGf rfl rfl rfl rfl (fun hg => ok_gtr (htO rfl hg) hI) ?_
  refine RG.op (ok_pickOr (ht rfl) (fun hb => (htO rfl (noti hb)))) rfl ?_
  refine RG.nil ?_
  refine AT.next ?_
  refine CG.cond (ht rfl) (fun hc => ?_) (fun hc => ?_)
  · have h := ct h hc
    refine CG.seq ?_
    refine CG.region ?_
    refine RG.storeB ti4 rfl sfld_whole rfl (ht rfl) hB ?_
    refine RG.nil ?_
    refine AT.next ?_
    refine CG.ret ?_
    refine AT.then_ret ?_
    refine AT.settleB 4 rfl ?_
    refine AT.shut0 ?_
    cases so h
    exact AT.ret1c rfl ti4 rfl rfl rfl
  · have h := cf h hc
    refine CG.skip ?_
    refine AT.next ?_
    refine CG.seq ?_
    refine CG.seq ?_
    refine CG.region ?_
    refine RG.op (ok_fieldAddr fd36_0 rfl flDLayout_0 rfl (ht rfl)) rfl ?_
    refine RG.op (ok_load ti34 rfl rfl (ht rfl)) rfl ?_
    refine RG.op (ok_lenSl Tryz.underlying34 (ht rfl)) rfl ?_
    refine RG.op (ok_move hI) rfl ?_
    refine RG.nil ?_
    refine AT.next ?_
    refine CG.block ?_
    refine CG.have_len (k := 20) rfl (fun hN => ?_)
    refine CG.loop ?_
    refine LG.sub (LG.list2 (Z := fun ls i x => (l.Parts.drop i = ls) ∧ place_right_l1 c l ls x = some R) (Of := fun _ i x => [bx rB 4 b x]) (Gf := fun _ i x => [(2, tPtr rpDCatalog c), (3, tPtr rpDLayout l), (4, tV (bptr b 0)), (20, tD (rSl rpDBase) l.Parts), (21, tD (rI .i64) (l.Parts.length : Int)), (22, tD (rI .i64) (i : Int))]) (fun i x h => ?_) (fun e tl ih i x h => ?_) l.Parts 0 false ⟨rfl, h⟩) ⟨rfl, rfl, rfl, rfl, rfl, rfl, trivial⟩
    · obtain ⟨hx, h⟩ := h
      refine LG.unfold ?_
      refine CG.seq ?_
      refine CG.region ?_
      refine RG.op (ok_lss (ht rfl) (ht rfl)) rfl ?_
      refine RG.nil ?_
      refine AT.next ?_
      refine CG.seq ?_
      refine CG.condF (ht rfl) (dropF hx) ?_
      refine CG.exit ?_
      refine AT.then_exit (AT.then_exit (AT.in_exit ?_))
      refine AT.next ?_
      refine CG.seq ?_
      refine CG.region ?_
      refine RG.makeMap (mvY (fun y : Int => tD (rI .i64) y)) (kvI .i64) rfl (fun b1 => ?_)
      refine RG.alloc (r := rV) (x := .map none) ti137 (fun _ => ⟨rfl, rfl⟩) rfl (fun b2 => ?_)
      refine RG.storeFX (q := rV) (y := mapV b1) (x' := mapV b1) ti137 rfl (sfx_of sfld_whole) rfl (ht rfl) (hMv (ht rfl)) ?_
      refine RG.nil ?_
      refine AT.next ?_
      refine CG.seq ?_
      refine CG.seq ?_
      refine CG.region ?_
      refine RG.op (ok_load ti36 rfl rfl (ht rfl)) rfl ?_
      obtain ⟨it, q_it, h⟩ := bs h
      refine RG.callIt cb50 (f50_itr _ q_it) ⟨(ht rfl), trivial⟩ rfl (fun v fp => ?_)
      refine RG.nil ?_
      refine AT.next ?_
      refine CG.block ?_
      obtain ⟨r, q_r, h⟩ := bs h
      refine CG.itU ?_
      refine CG.rangeX (fun (ix : Bool × List (Option Nat × Nat) × List (Int × Int)) => [bx rV 137 b2 (mapV b1), mapO (mvY (fun y : Int => tD (rI .i64) y)) (kvI .i64) b1 none ix.2.1 ix.2.2, bx rB 4 b ix.1]) (fun (ix : Bool × List (Option Nat × Nat) × List (Int × Int)) => (ix.1, ix.2.2)) (fun _ => .ret) rfl (ht rfl) (x, [], ([] : List (Int × Int))) rfl q_r (fun _ => rfl) rfl (fun ix x1 r1 h lp rec1 _ _ _ => ?_) (fun i1 j hi bd => ⟨fun hj => ?_, fun _ hj => ?_⟩)
      · obtain ⟨x2, os, m⟩ := ix
        replace h : place_right_b1 x1 x2 m = some r1 := h
        refine (show CG _ _ _ [recP lp rec1 .ready none, bx rV 137 b2 (mapV b1), mapO (mvY (fun y : Int => tD (rI .i64) y)) (kvI .i64) b1 none os m, bx rB 4 b x2] _ from ?_)
        refine CG.sub (G' := [(2, tPtr rpDCatalog c), (3, tPtr rpDLayout l), (4, tV (bptr b 0)), (7, tV (bptr b2 0)), (20, tD (rSl rpDBase) l.Parts), (21, tD (rI .i64) (l.Parts.length : Int)), (22, tD (rI .i64) (i : Int)), (23, tD rB (decide ((i : Int) < (l.Parts.length : Int)))), (31, tV (mapV b1)), (32, tD rpDLayout l), (34, tD rpDcell x1.1), (35, tD (rSl rpDValue) x1.2)]) ?_ ⟨rfl, rfl, rfl, rfl, rfl, rfl, rfl, rfl, rfl, rfl, rfl, rfl, trivial⟩
        refine CG.region ?_
        refine RG.alloc (r := rpDcell) (x := (⟨(0 : Int), (0 : Int), (0 : Int)⟩ : Dcell)) ti97 (fun _ => zrDcell _) rfl (fun b3 => ?_)
        refine RG.storeB ti97 rfl sfld_whole rfl (ht rfl) (ht rfl) ?_
        refine RG.settleB 8 rfl ?_
        refine RG.nil ?_
        refine AT.beginP ?_
        refine CG.block ?_
        refine CG.seq ?_
        refine CG.region ?_
        refine RG.op (ok_loadVx ti137 (.tail _ (.head _)) (ht rfl)) rfl ?_
        refine RG.op (ok_fieldAddr fd97_1 rfl flDcell_1 rfl (ht rfl)) rfl ?_
        refine RG.op (ok_load ti3 rfl rfl (ht rfl)) rfl ?_
        refine RG.op (ok_lookupY (γ := fun y : Int => tD (rI .i64) y) (z := (0 : Int)) Tryz.underlying137 (key_int Tryz.underlying3) zv3 (fun S => ⟨_, rfl, (fun _ => rfl) S⟩) (.tail _ (.tail _ (.head _))) (ht rfl) (keyI (ht rfl))) rfl ?_
        refine RG.op (ok_add (ht rfl) hI) rfl ?_
        refine RG.front2 ?_
        refine RG.putY (γ := fun y : Int => tD (rI .i64) y) Tryz.underlying137 (key_int Tryz.underlying3) (ht rfl) (keyI (ht rfl)) (ht rfl) (fun os1 => ?_)
        refine RG.nil ?_
        refine AT.next ?_
        refine CG.seq ?_
        refine CG.region ?_
        refine RG.op (ok_loadVx ti137 (.tail _ (.tail _ (.head _))) (ht rfl)) rfl ?_
        refine RG.op (ok_fieldAddr fd97_1 rfl flDcell_1 rfl (ht rfl)) rfl ?_
        refine RG.op (ok_load ti3 rfl rfl (ht rfl)) rfl ?_
        refine RG.op (ok_lookupY (γ := fun y : Int => tD (rI .i64) y) (z := (0 : Int)) Tryz.underlying137 (key_int Tryz.underlying3) zv3 (fun S => ⟨_, rfl, (fun _ => rfl) S⟩) (.head _) (ht rfl) (keyI (ht rfl))) rfl ?_
        refine RG.op (ok_gtr (ht rfl) hI) rfl ?_
        refine RG.nil ?_
        refine AT.next ?_
        refine CG.cond (ht rfl) (fun hc => ?_) (fun hc => ?_)
        · have h := ct h hc
          refine CG.seq ?_
          refine CG.region ?_
          refine RG.front3 ?_
          refine RG.storeB ti4 rfl sfld_whole rfl (ht rfl) hB ?_
          refine RG.nil ?_
          refine AT.next ?_
          refine CG.ret ?_
          refine AT.in_ret ?_
          refine AT.front1 ?_
          refine AT.front3 ?_
          refine AT.front3 ?_
          cases so h
          exact AT.retRoundP 0 rfl (false, os1, (mset m x1.1.table (IntKind.i64.wrap (((mget m x1.1.table).getD (0 : Int)) + (1 : Int))))) rfl rfl
        · have h := cf h hc
          refine CG.skip ?_
          refine AT.in_normal ?_
          refine AT.front3 ?_
          refine AT.front1 ?_
          refine AT.front3 ?_
          refine AT.front3 ?_
          cases so h
          exact AT.endRoundP (x2, os1, (mset m x1.1.table (IntKind.i64.wrap (((mget m x1.1.table).getD (0 : Int)) + (1 : Int))))) rfl rfl
      · skip
        obtain ⟨x3, os2, m1⟩ := i1
        obtain rfl : x3 = r.1.2.1 := congrArg (fun q : Bool × List (Int × Int) => q.1) hi
        obtain rfl : m1 = r.1.2.2 := congrArg (fun q : Bool × List (Int × Int) => q.2) hi
        have h := ct h (by rw [hj]; rfl)
        refine (show AT _ _ _ [dfb bd, bx rV 137 b2 (mapV b1), mapO (mvY (fun y : Int => tD (rI .i64) y)) (kvI .i64) b1 none os2 r.1.2.2, bx rB 4 b r.1.2.1] _ from ?_)
        refine AT.sub (G' := [(2, tPtr rpDCatalog c), (3, tPtr rpDLayout l), (4, tV (bptr b 0)), (7, tV (bptr b2 0)), (20, tD (rSl rpDBase) l.Parts), (21, tD (rI .i64) (l.Parts.length : Int)), (22, tD (rI .i64) (i : Int)), (23, tD rB (decide ((i : Int) < (l.Parts.length : Int)))), (31, tV (mapV b1)), (32, tD rpDLayout l)]) ?_ ⟨rfl, rfl, rfl, rfl, rfl, rfl, rfl, rfl, rfl, rfl, trivial⟩
        refine AT.in_normal ?_
        refine AT.next ?_
        refine CG.seq ?_
        refine CG.region ?_
        refine RG.front3 ?_
        refine RG.storeB ti4 rfl sfld_whole rfl (ht rfl) hB ?_
        refine RG.nil ?_
        refine AT.next ?_
        refine CG.ret ?_
        refine AT.settleB 4 rfl ?_
        refine AT.front1 ?_
        refine AT.drop ?_
        refine AT.front1 ?_
        refine AT.drop ?_
        refine AT.shut ?_
        refine AT.shut0 ?_
        cases so h
        exact AT.ret1c rfl ti4 rfl rfl rfl
      · skip
        obtain ⟨x4, os3, m2⟩ := i1
        obtain rfl : x4 = r.1.2.1 := congrArg (fun q : Bool × List (Int × Int) => q.1) hi
        obtain rfl : m2 = r.1.2.2 := congrArg (fun q : Bool × List (Int × Int) => q.2) hi
        have h := cf h (by rw [hj]; rfl)
        refine (show CG _ _ _ [dfb bd, bx rV 137 b2 (mapV b1), mapO (mvY (fun y : Int => tD (rI .i64) y)) (kvI .i64) b1 none os3 r.1.2.2, bx rB 4 b r.1.2.1] _ from ?_)
        refine CG.sub (G' := [(2, tPtr rpDCatalog c), (3, tPtr rpDLayout l), (4, tV (bptr b 0)), (7, tV (bptr b2 0)), (20, tD (rSl rpDBase) l.Parts), (21, tD (rI .i64) (l.Parts.length : Int)), (22, tD (rI .i64) (i : Int)), (23, tD rB (decide ((i : Int) < (l.Parts.length : Int)))), (31, tV (mapV b1)), (32, tD rpDLayout l)]) ?_ ⟨rfl, rfl, rfl, rfl, rfl, rfl, rfl, rfl, rfl, rfl, trivial⟩
        refine CG.ret ?_
        refine AT.in_ret (AT.then_ret ?_)
        refine AT.front3 ?_
        refine AT.settleB 4 rfl ?_
        refine AT.front1 ?_
        refine AT.drop ?_
        refine AT.front1 ?_
        refine AT.drop ?_
        refine AT.shut ?_
        refine AT.shut0 ?_
        cases so h
        exact AT.ret1c rfl ti4 rfl rfl rfl
    · obtain ⟨hx, h⟩ := h
      refine LG.unfold ?_
      refine CG.seq ?_
      refine CG.region ?_
      refine RG.op (ok_lss (ht rfl) (ht rfl)) rfl ?_
      refine RG.nil ?_
      refine AT.next ?_
      refine CG.seq ?_
      refine CG.condT (ht rfl) (dropT hx) ?_
      refine CG.skip ?_
      refine AT.next ?_
      refine CG.seq ?_
      refine CG.block ?_
      refine CG.seq ?_
      refine CG.region ?_
      refine RG.op (ok_indexAddr Tryz.underlying34 ti27 rfl (ht rfl) (ht rfl) (dropI hx)) rfl ?_
      refine RG.op (ok_load ti27 rfl rfl (ht rfl)) rfl ?_
      refine RG.alloc (r := rpDBase) (x := (⟨[]⟩ : DBase)) ti27 (fun _ => zrDBase _) rfl (fun b4 => ?_)
      refine RG.storeB ti27 rfl sfld_whole rfl (ht rfl) (ht rfl) ?_
      refine RG.settleB 6 rfl ?_
      refine RG.nil ?_
      refine AT.next ?_
      refine CG.seq ?_
      refine CG.region ?_
      refine RG.op (ok_load ti24 rfl rfl (ht rfl)) rfl ?_
      refine RG.op (ok_load ti27 rfl rfl (ht rfl)) rfl ?_
      obtain ⟨r2, q_r2, h⟩ := bs h
      refine RG.op (ok_call cb40 (f40_ok _ _ q_r2) ⟨(ht rfl), (ht rfl), trivial⟩) rfl ?_
      refine RG.op (ok_neqI (ht rfl) hI) rfl ?_
      refine RG.nil ?_
      refine AT.next ?_
      refine CG.cond (ht rfl) (fun hc => ?_) (fun hc => ?_)
      · have h := ct h hc
        refine CG.seq ?_
        refine CG.region ?_
        refine RG.storeB ti4 rfl sfld_whole rfl (ht rfl) hB ?_
        refine RG.nil ?_
        refine AT.next ?_
        refine CG.ret ?_
        refine AT.in_ret (AT.then_ret (AT.then_ret (AT.in_ret (AT.then_ret ?_))))
        refine AT.settleB 4 rfl ?_
        refine AT.shut0 ?_
        cases so h
        exact AT.ret1c rfl ti4 rfl rfl rfl
      · have h := cf h hc
        refine CG.skip ?_
        refine AT.in_normal ?_
        refine AT.next ?_
        refine CG.region ?_
        refine RG.op (ok_incN (dropL hx hN) (ht rfl) hI) rfl ?_
        refine RG.op (ok_move (ht rfl)) rfl ?_
        refine RG.nil ?_
        exact AT.round (LG.sub (ih (i + 1) x ⟨dropS hx, h⟩) ⟨rfl, rfl, rfl, rfl, rfl, rfl, trivial⟩)

set_option maxRecDepth 100000 in
theorem f52_ok (c : DCatalog) (l : DLayout) {R : Int} (h : place_asked c l = some R) : Spec Tryz.prog 52 [tD rpDCatalog c, tD rpDLayout l] (tD (rI .i64) R) := by
  refine Spec.of Tryz.func52 rfl rfl rfl fun w0 S0 => ?_
  refine CG.seq ?_
  refine CG.region ?_
  refine RG.op (ok_box (ht rfl)) rfl ?_
  refine RG.op (ok_box (ht rfl)) rfl ?_
  refine RG.op (ok_assign hI) rfl ?_
  refine RG.nil ?_
  refine AT.next ?_
  refine CG.seq ?_
  refine CG.block ?_
  refine CG.seq ?_
  refine CG.region ?_
  refine RG.op (ok_load ti24 rfl rfl (ht rfl)) rfl ?_
  obtain ⟨r, q_r, h⟩ := bs h
  refine RG.op (ok_call cb39 (f39_ok _ q_r) ⟨(ht rfl), trivial⟩) rfl ?_
  refine RG.op (ok_neqI (ht rfl) hI) rfl ?_
  refine RG.op (ok_assign (ht rfl)) rfl ?_
  refine RG.nil ?_
  refine AT.next ?_
  refine CG.cond (ht rfl) (fun hc => ?_) (fun hc => ?_)
  · have h := ct h hc
    refine CG.seq ?_
    refine CG.region ?_
    refine RG.op (ok_assign hI) rfl ?_
    refine RG.nil ?_
    refine AT.next ?_
    refine CG.ret ?_
    refine AT.in_ret (AT.then_ret ?_)
    cases so h
    exact AT.ret1 rfl rfl
  · have h := cf h hc
    refine CG.seq ?_
    refine CG.region ?_
    refine RG.op (ok_load ti24 rfl rfl (ht rfl)) rfl ?_
    refine RG.op (ok_load ti36 rfl rfl (ht rfl)) rfl ?_
    obtain ⟨r1, q_r1, h⟩ := bs h
    refine RG.op (ok_call cb79 (f79_ok _ _ q_r1) ⟨(ht rfl), (ht rfl), trivial⟩) rfl ?_
    refine RG.op (ok_not (ht rfl)) rfl ?_
    refine RG.op (ok_assign (ht rfl)) rfl ?_
    refine RG.nil ?_
    refine AT.next ?_
    refine CG.cond (ht rfl) (fun hc => ?_) (fun hc => ?_)
    · have h := ct h hc
      refine CG.seq ?_
      refine CG.region ?_
      refine RG.op (ok_assign hI) rfl ?_
      refine RG.nil ?_
      refine AT.next ?_
      refine CG.ret ?_
      refine AT.in_ret (AT.then_ret ?_)
      cases so h
      exact AT.ret1 rfl rfl
    · have h := cf h hc
      refine CG.skip ?_
      refine AT.in_normal ?_
      refine AT.next ?_
      refine CG.seq ?_
      refine CG.region ?_
      refine RG.op (ok_assign hI) rfl ?_
      refine RG.nil ?_
      refine AT.next ?_
      refine CG.ret ?_
      cases so h
      exact AT.ret1 rfl rfl

set_option maxRecDepth 100000 in
theorem f55_ok (c : DCatalog) (l : DLayout) {R : Bool} (h : place_obeys c l = some R) : Spec Tryz.prog 55 [tD rpDCatalog c, tD rpDLayout l] (tD rB R) := by
  refine Spec.ofM Tryz.func55 rfl rfl rfl fun w0 S0 => ?_
  refine CG.seq ?_
  refine CG.region ?_
  refine RG.op (ok_box (ht rfl)) rfl ?_
  refine RG.op (ok_box (ht rfl)) rfl ?_
  refine RG.alloc (r := rB) (x := false) ti4 (fun _ => rfl) rfl (fun b => ?_)
  refine RG.nil ?_
  refine AT.next ?_
  refine CG.seq ?_
  refine CG.seq ?_
  refine CG.region ?_
  refine RG.op (ok_load ti36 rfl rfl (ht rfl)) rfl ?_
  obtain ⟨it, q_it, h⟩ := bs h
  refine RG.callIt cb50 (f50_itr _ q_it) ⟨(ht rfl), trivial⟩ rfl (fun v fp => ?_)
  refine RG.nil ?_
  refine AT.next ?_
  refine CG.block ?_
  obtain ⟨r, q_r, h⟩ := bs h
  refine CG.itU ?_
  refine CG.rangeX (fun (i : Bool) => [bx rB 4 b i]) (fun (i : Bool) => (i)) (fun _ => .ret) rfl (ht rfl) (false) rfl q_r (fun _ => rfl) rfl (fun x x1 r1 h lp rec1 _ _ _ => ?_) (fun i j hi bd => ⟨fun hj => ?_, fun _ hj => ?_⟩)
  · replace h : place_obeys_b1 c l x1 x = some r1 := h
    refine (show CG _ _ _ [recP lp rec1 .ready none, bx rB 4 b x] _ from ?_)
    refine CG.sub (G' := [(0, tD rpDCatalog c), (1, tD rpDLayout l), (2, tPtr rpDCatalog c), (3, tPtr rpDLayout l), (4, tV (bptr b 0)), (8, tD rpDLayout l), (10, tD rpDcell x1.1), (11, tD (rSl rpDValue) x1.2)]) ?_ ⟨rfl, rfl, rfl, rfl, rfl, rfl, rfl, rfl, trivial⟩
    refine CG.seq ?_
    refine CG.region ?_
    refine RG.alloc (r := rpDcell) (x := (⟨(0 : Int), (0 : Int), (0 : Int)⟩ : Dcell)) ti97 (fun _ => zrDcell _) rfl (fun b1 => ?_)
    refine RG.storeB ti97 rfl sfld_whole rfl (ht rfl) (ht rfl) ?_
    refine RG.settleB 5 rfl ?_
    refine RG.nil ?_
    refine AT.next ?_
    refine CG.region ?_
    refine RG.op (ok_assign (ht rfl)) rfl ?_
    refine RG.nil ?_
    refine AT.beginP ?_
    refine CG.block ?_
    refine CG.seq ?_
    obtain ⟨e, q_e, h⟩ := bs h
    obtain ⟨r2, q_r2, h⟩ := bs h
    refine CG.draw (ts := [tPtr (rSl rpDTable) c.Tables, tD (rSl rpDTable) c.Tables, tPtr (rI .i64) x1.1.table, tD (rI .i64) x1.1.table, tPtr rpDTable e, tD rpDTable e, tD (rSl rpDValue) x1.2, tPtr (rSl rpDBase) l.Parts, tD (rSl rpDBase) l.Parts, tD (rI .i64) (l.Parts.length : Int), tD (rI .i64) r2, tD (rI .i64) r2]) mixed rfl rfl
      ⟨⟨[⟨2, _, none⟩], _, rfl, ⟨rfl, trivial⟩, rfl, rfl, OpG.plain rfl (ok_fieldAddr fd24_0 rfl flDCatalog_0 rfl (ht rfl))⟩,
      ⟨⟨[⟨12, _, some 0⟩], _, rfl, ⟨rfl, trivial⟩, rfl, rfl, OpG.plain rfl (ok_load ti22 rfl rfl (ht rfl))⟩,
      ⟨⟨[⟨5, _, none⟩], _, rfl, ⟨rfl, trivial⟩, rfl, rfl, OpG.plain rfl (ok_fieldAddr fd97_1 rfl flDcell_1 rfl (ht rfl))⟩,
      ⟨⟨[⟨14, _, some 2⟩], _, rfl, ⟨rfl, trivial⟩, rfl, rfl, OpG.plain rfl (ok_load ti3 rfl rfl (ht rfl))⟩,
      ⟨⟨[⟨13, _, some 1⟩, ⟨15, _, some 3⟩], _, rfl, ⟨rfl, rfl, trivial⟩, rfl, rfl, OpG.plain rfl (ok_indexAddr Tryz.underlying22 ti53 rfl (ht rfl) (ht rfl) q_e)⟩,
      ⟨⟨[⟨16, _, some 4⟩], _, rfl, ⟨rfl, trivial⟩, rfl, rfl, OpG.plain rfl (ok_load ti53 rfl rfl (ht rfl))⟩,
      ⟨⟨[⟨6, _, none⟩], _, rfl, ⟨rfl, trivial⟩, rfl, rfl, OpG.plain rfl (ok_move (ht rfl))⟩,
      ⟨⟨[⟨3, _, none⟩], _, rfl, ⟨rfl, trivial⟩, rfl, rfl, OpG.plain rfl (ok_fieldAddr fd36_0 rfl flDLayout_0 rfl (ht rfl))⟩,
      ⟨⟨[⟨19, _, some 7⟩], _, rfl, ⟨rfl, trivial⟩, rfl, rfl, OpG.plain rfl (ok_load ti34 rfl rfl (ht rfl))⟩,
      ⟨⟨[⟨20, _, some 8⟩], _, rfl, ⟨rfl, trivial⟩, rfl, rfl, OpG.plain rfl (ok_lenSl Tryz.underlying34 (ht rfl))⟩,
      ⟨⟨[⟨17, _, some 5⟩, ⟨18, _, some 6⟩, ⟨21, _, some 9⟩], _, rfl, ⟨rfl, rfl, rfl, trivial⟩, rfl, rfl, OpG.plain rfl (ok_call cb43 (f43_ok _ _ _ q_r2) ⟨(ht rfl), (ht rfl), (ht rfl), trivial⟩)⟩,
      ⟨⟨[⟨22, _, some 10⟩], _, rfl, ⟨rfl, trivial⟩, rfl, rfl, OpG.plain rfl (ok_assign (ht rfl))⟩,
      trivial⟩⟩⟩⟩⟩⟩⟩⟩⟩⟩⟩⟩ ?_
    refine AT.next ?_
    refine CG.seq ?_
    refine CG.region ?_
    refine RG.op (ok_move (ht rfl)) rfl ?_
    refine RG.op (ok_gtr (ht rfl) hI) rfl ?_
    refine RG.op (ok_move (ht rfl)) rfl ?_
    refine RG.opGt rfl rfl rfl rfl (fun hg => ok_move (ht rfl)) ?_
    refine RG.opGt rfl rfl rfl rfl (fun hg => ok_fieldAddr fd97_0 rfl flDcell_0 rfl (ht rfl)) ?_
    refine RG.opGt rfl rfl rfl rfl (fun hg => ok_load ti3 rfl rfl (htO rfl hg)) ?_
    refine RG.opGt rfl rfl rfl rfl (fun hg => ok_neqI (htO rfl hg) (htO rfl hg)) ?_
    refine RG.op (ok_pickAnd (ht rfl) (fun hb => (htO rfl hb))) rfl ?_
    refine RG.nil ?_
    refine AT.next ?_
    refine CG.cond (ht rfl) (fun hc => ?_) (fun hc => ?_)
    · have h := ct h hc
      refine CG.seq ?_
      refine CG.region ?_
      refine RG.front1 ?_
      refine RG.storeB ti4 rfl sfld_whole rfl (ht rfl) hB ?_
      refine RG.nil ?_
      refine AT.next ?_
      refine CG.ret ?_
      refine AT.in_ret ?_
      refine AT.front1 ?_
      cases so h
      exact AT.retRoundP 0 rfl (false) rfl rfl
    · have h := cf h hc
      refine CG.skip ?_
      refine AT.in_normal ?_
      cases so h
      exact AT.endRoundP (x) rfl rfl
  · skip
    obtain rfl : i = r.1.2 := congrArg (fun q : Bool => q) hi
    have h := ct h (by rw [hj]; rfl)
    refine (show AT _ _ _ [dfb bd, bx rB 4 b r.1.2] _ from ?_)
    refine AT.sub (G' := [(0, tD rpDCatalog c), (1, tD rpDLayout l), (2, tPtr rpDCatalog c), (3, tPtr rpDLayout l), (4, tV (bptr b 0)), (8, tD rpDLayout l)]) ?_ ⟨rfl, rfl, rfl, rfl, rfl, rfl, trivial⟩
    refine AT.in_normal ?_
    refine AT.next ?_
    refine CG.seq ?_
    refine CG.region ?_
    refine RG.front1 ?_
    refine RG.storeB ti4 rfl sfld_whole rfl (ht rfl) hB ?_
    refine RG.nil ?_
    refine AT.next ?_
    refine CG.ret ?_
    refine AT.settleB 4 rfl ?_
    refine AT.shut ?_
    refine AT.shut0 ?_
    cases so h
    exact AT.ret1c rfl ti4 rfl rfl rfl
  · skip
    obtain rfl : i = r.1.2 := congrArg (fun q : Bool => q) hi
    have h := cf h (by rw [hj]; rfl)
    refine (show CG _ _ _ [dfb bd, bx rB 4 b r.1.2] _ from ?_)
    refine CG.sub (G' := [(0, tD rpDCatalog c), (1, tD rpDLayout l), (2, tPtr rpDCatalog c), (3, tPtr rpDLayout l), (4, tV (bptr b 0)), (8, tD rpDLayout l)]) ?_ ⟨rfl, rfl, rfl, rfl, rfl, rfl, trivial⟩
    refine CG.ret ?_
    refine AT.in_ret (AT.then_ret ?_)
    refine AT.front1 ?_
    refine AT.settleB 4 rfl ?_
    refine AT.shut ?_
    refine AT.shut0 ?_
    cases so h
    exact AT.ret1c rfl ti4 rfl rfl rfl

set_option maxRecDepth 100000 in
theorem f28_ok (c : DCatalog) (l : DLayout) {R : Int} (h : place_Check c l = some R) : Spec Tryz.prog 28 [tD rpDCatalog c, tD rpDLayout l] (tD (rI .i64) R) := by
  refine Spec.of Tryz.func28 rfl rfl rfl fun w0 S0 => ?_
  refine CG.seq ?_
  refine CG.region ?_
  refine RG.op (ok_box (ht rfl)) rfl ?_
  refine RG.op (ok_box (ht rfl)) rfl ?_
  refine RG.op (ok_assign hI) rfl ?_
  refine RG.nil ?_
  refine AT.next ?_
  refine CG.seq ?_
  refine CG.seq ?_
  refine CG.region ?_
  refine RG.op (ok_load ti24 rfl rfl (ht rfl)) rfl ?_
  refine RG.op (ok_load ti36 rfl rfl (ht rfl)) rfl ?_
  obtain ⟨r, q_r, h⟩ := bs h
  refine RG.op (ok_call cb52 (f52_ok _ _ q_r) ⟨(ht rfl), (ht rfl), trivial⟩) rfl ?_
  refine RG.op (ok_assign (ht rfl)) rfl ?_
  refine RG.nil ?_
  refine AT.next ?_
  refine CG.seq ?_
  refine CG.region ?_
  refine RG.op (ok_move (ht rfl)) rfl ?_
  refine RG.op (ok_neqI (ht rfl) hI) rfl ?_
  refine RG.nil ?_
  refine AT.next ?_
  refine CG.cond (ht rfl) (fun hc => ?_) (fun hc => ?_)
  · have h := ct h hc
    refine CG.seq ?_
    refine CG.region ?_
    refine RG.op (ok_move (ht rfl)) rfl ?_
    refine RG.op (ok_assign (ht rfl)) rfl ?_
    refine RG.nil ?_
    refine AT.next ?_
    refine CG.ret ?_
    refine AT.then_ret ?_
    cases so h
    exact AT.ret1 rfl rfl
  · have h := cf h hc
    refine CG.skip ?_
    refine AT.next ?_
    refine CG.seq ?_
    refine CG.seq ?_
    refine CG.region ?_
    refine RG.op (ok_load ti24 rfl rfl (ht rfl)) rfl ?_
    refine RG.op (ok_load ti36 rfl rfl (ht rfl)) rfl ?_
    obtain ⟨r1, q_r1, h⟩ := bs h
    refine RG.op (ok_call cb55 (f55_ok _ _ q_r1) ⟨(ht rfl), (ht rfl), trivial⟩) rfl ?_
    refine RG.op (ok_not (ht rfl)) rfl ?_
    refine RG.nil ?_
    refine AT.next ?_
    refine CG.cond (ht rfl) (fun hc => ?_) (fun hc => ?_)
    · have h := ct h hc
      refine CG.seq ?_
      refine CG.region ?_
      refine RG.op (ok_assign hI) rfl ?_
      refine RG.nil ?_
      refine AT.next ?_
      refine CG.ret ?_
      refine AT.then_ret ?_
      cases so h
      exact AT.ret1 rfl rfl
    · have h := cf h hc
      refine CG.skip ?_
      refine AT.next ?_
      refine CG.seq ?_
      refine CG.region ?_
      refine RG.op (ok_assign hI) rfl ?_
      refine RG.nil ?_
      refine AT.next ?_
      refine CG.ret ?_
      cases so h
      exact AT.ret1 rfl rfl

set_option maxRecDepth 100000 in
theorem f83_own (l : (List (List DValue))) {R : (List (List DValue))} (h : row_copies l = some R) : SpecO Tryz.prog 83 [tD (rSl (rSl rpDValue)) l] false (rSl rpDValue) 45 R := by
  refine SpecO.of Tryz.func83 rfl rfl rfl fun w0 S0 => ?_
  refine CG.seq ?_
  refine CG.region ?_
  refine RG.fresh false (rSl rpDValue) 45 ?_
  refine RG.op (ok_assign hVn) rfl ?_
  refine RG.nil ?_
  refine AT.next ?_
  refine CG.seq ?_
  refine CG.region ?_
  refine RG.fresh false (rSl rpDValue) 45 ?_
  refine RG.op (ok_assign hVn) rfl ?_
  refine RG.nil ?_
  refine AT.next ?_
  refine CG.seq ?_
  refine CG.seq ?_
  refine CG.region ?_
  refine RG.op (ok_move (ht rfl)) rfl ?_
  refine RG.op (ok_lenSl Tryz.underlying54 (ht rfl)) rfl ?_
  refine RG.op (ok_move hI) rfl ?_
  refine RG.nil ?_
  refine AT.next ?_
  refine CG.block ?_
  refine CG.have_len (k := 6) rfl (fun hN => ?_)
  refine CG.loop ?_
  refine LG.front1 ?_
  refine LG.drop ?_
  refine LG.sub (LG.list4 (Z := fun ls i out l1 c => (l.drop i = ls) ∧ row_copies_l1 ls out = some R) (Of := fun _ i out l1 c => [arr (rSl rpDValue) 45 l1 c out]) (Gf := fun _ i out l1 c => [(3, tV (oslV l1 c out.length)), (6, tD (rSl (rSl rpDValue)) l), (7, tD (rI .i64) (l.length : Int)), (8, tD (rI .i64) (i : Int))]) (fun i out l1 c h => ?_) (fun e tl ih i out l1 c h => ?_) l 0 ([] : List (List DValue)) none 0 ⟨rfl, h⟩) ⟨rfl, rfl, rfl, rfl, trivial⟩
  · obtain ⟨hx, h⟩ := h
    refine LG.unfold ?_
    refine CG.seq ?_
    refine CG.region ?_
    refine RG.op (ok_lss (ht rfl) (ht rfl)) rfl ?_
    refine RG.nil ?_
    refine AT.next ?_
    refine CG.seq ?_
    refine CG.condF (ht rfl) (dropF hx) ?_
    refine CG.exit ?_
    refine AT.then_exit (AT.then_exit (AT.in_exit ?_))
    refine AT.next ?_
    refine CG.seq ?_
    refine CG.region ?_
    refine RG.op (ok_move (ht rfl)) rfl ?_
    refine RG.op (ok_assign (ht rfl)) rfl ?_
    refine RG.nil ?_
    refine AT.next ?_
    refine CG.ret ?_
    cases so h
    exact AT.retO rfl rfl
  · obtain ⟨hx, h⟩ := h
    refine LG.unfold ?_
    refine CG.seq ?_
    refine CG.region ?_
    refine RG.op (ok_lss (ht rfl) (ht rfl)) rfl ?_
    refine RG.nil ?_
    refine AT.next ?_
    refine CG.seq ?_
    refine CG.condT (ht rfl) (dropT hx) ?_
    refine CG.skip ?_
    refine AT.next ?_
    refine CG.seq ?_
    refine CG.block ?_
    refine CG.seq ?_
    refine CG.region ?_
    refine RG.op (ok_indexAddr Tryz.underlying54 ti45 rfl (ht rfl) (ht rfl) (dropI hx)) rfl ?_
    refine RG.op (ok_load ti45 rfl rfl (ht rfl)) rfl ?_
    refine RG.op (ok_assign (ht rfl)) rfl ?_
    refine RG.nil ?_
    refine AT.next ?_
    refine CG.region ?_
    refine RG.op (ok_move (ht rfl)) rfl ?_
    refine RG.op (ok_move (ht rfl)) rfl ?_
    obtain ⟨r, q_r, h⟩ := bs h
    refine RG.callO cb51 (f51_own _ q_r) ⟨(ht rfl), trivial⟩ rfl (fun l2 c1 => ?_)
    refine RG.freeze ?_
    refine RG.tipAt 14 rfl ?_
    refine RG.op (ok_buildSlice (r := (rSl rpDValue)) (ys := [r]) (xs := [.tmp 14]) Tryz.underlying54 ti45 rfl rfl rfl rfl rfl ⟨(tO_d (ht rfl)), trivial⟩) rfl ?_
    refine RG.front1 ?_
    obtain ⟨out1, q_out1, h⟩ := bs h
    refine RG.append ti45 rfl rfl rfl rfl Tryz.underlying54 rfl rfl (ht rfl) (ht rfl) q_out1 (fun l3 c2 => ?_)
    refine RG.op (ok_assign (ht rfl)) rfl ?_
    refine RG.nil ?_
    refine AT.in_normal ?_
    refine AT.next ?_
    refine CG.region ?_
    refine RG.op (ok_incN (dropL hx hN) (ht rfl) hI) rfl ?_
    refine RG.op (ok_move (ht rfl)) rfl ?_
    refine RG.nil ?_
    refine AT.front1 ?_
    refine AT.drop ?_
    exact AT.round (LG.sub (ih (i + 1) out1 l3 c2 ⟨dropS hx, h⟩) ⟨rfl, rfl, rfl, rfl, trivial⟩)
set_option maxRecDepth 100000 in
theorem f106_ok (s1 : (List DValue)) (s2 : (List DValue)) (cmp : (DValue → DValue → Option Int)) {R : Int} (h : slices_CompareFunc_api_Row_api_Row_api_Value_api_Value s1 s2 cmp = some R) : Spec Tryz.prog 106 [tD (rSl rpDValue) s1, tD (rSl rpDValue) s2, (tFun Tryz.prog (fun (x : DValue × DValue) => [tD rpDValue x.1, tD rpDValue x.2]) (fun (x : Int) => tD (rI .i64) x) (fun (x : DValue × DValue) => cmp x.1 x.2))] (tD (rI .i64) R) := by
  refine Spec.of Tryz.func106 rfl rfl rfl fun w0 S0 => ?_
  refine CG.seq ?_
  refine CG.region ?_
  refine RG.op (ok_assign hI) rfl ?_
  refine RG.nil ?_
  refine AT.next ?_
  refine CG.seq ?_
  refine CG.seq ?_
  refine CG.region ?_
  refine RG.op (ok_move (ht rfl)) rfl ?_
  refine RG.op (ok_lenSl Tryz.underlying45 (ht rfl)) rfl ?_
  refine RG.op (ok_move hI) rfl ?_
  refine RG.nil ?_
  refine AT.next ?_
  refine CG.block ?_
  refine CG.have_len (k := 11) rfl (fun hN => ?_)
  refine CG.loop ?_
  refine LG.sub (LG.list1 (Z := fun ls i  => (s1.drop i = ls) ∧ slices_CompareFunc_api_Row_api_Row_api_Value_api_Value_l1 s1 s2 cmp ls i  = some R) (Of := fun _ i  => []) (Gf := fun _ i  => [(0, tD (rSl rpDValue) s1), (1, tD (rSl rpDValue) s2), (2, (tFun Tryz.prog (fun (x : DValue × DValue) => [tD rpDValue x.1, tD rpDValue x.2]) (fun (x : Int) => tD (rI .i64) x) (fun (x : DValue × DValue) => cmp x.1 x.2))), (11, tD (rSl rpDValue) s1), (12, tD (rI .i64) (s1.length : Int)), (13, tD (rI .i64) (i : Int))]) (fun i  h => ?_) (fun e tl ih i  h => ?_) s1 0  ⟨rfl, h⟩) ⟨rfl, rfl, rfl, rfl, rfl, rfl, trivial⟩
  · obtain ⟨hx, h⟩ := h
    refine LG.unfold ?_
    refine CG.seq ?_
    refine CG.region ?_
    refine RG.op (ok_lss (ht rfl) (ht rfl)) rfl ?_
    refine RG.nil ?_
    refine AT.next ?_
    refine CG.seq ?_
    refine CG.condF (ht rfl) (dropF hx) ?_
    refine CG.exit ?_
    refine AT.then_exit (AT.then_exit (AT.in_exit ?_))
    refine AT.next ?_
    refine CG.seq ?_
    refine CG.seq ?_
    refine CG.region ?_
    refine RG.op (ok_move (ht rfl)) rfl ?_
    refine RG.op (ok_lenSl Tryz.underlying45 (ht rfl)) rfl ?_
    refine RG.op (ok_move (ht rfl)) rfl ?_
    refine RG.op (ok_lenSl Tryz.underlying45 (ht rfl)) rfl ?_
    refine RG.op (ok_lss (ht rfl) (ht rfl)) rfl ?_
    refine RG.nil ?_
    refine AT.next ?_
    refine CG.cond (ht rfl) (fun hc => ?_) (fun hc => ?_)
    · have h := ct h hc
      refine CG.seq ?_
      refine CG.region ?_
      refine RG.op (ok_assign hI) rfl ?_
      refine RG.nil ?_
      refine AT.next ?_
      refine CG.ret ?_
      refine AT.then_ret ?_
      cases so h
      exact AT.ret1 rfl rfl
    · have h := cf h hc
      refine CG.skip ?_
      refine AT.next ?_
      refine CG.seq ?_
      refine CG.region ?_
      refine RG.op (ok_assign hI) rfl ?_
      refine RG.nil ?_
      refine AT.next ?_
      refine CG.ret ?_
      cases so h
      exact AT.ret1 rfl rfl
  · obtain ⟨hx, h⟩ := h
    refine LG.unfold ?_
    refine CG.seq ?_
    refine CG.region ?_
    refine RG.op (ok_lss (ht rfl) (ht rfl)) rfl ?_
    refine RG.nil ?_
    refine AT.next ?_
    refine CG.seq ?_
    refine CG.condT (ht rfl) (dropT hx) ?_
    refine CG.skip ?_
    refine AT.next ?_
    refine CG.seq ?_
    refine CG.block ?_
    refine CG.seq ?_
    refine CG.region ?_
    refine RG.op (ok_move (ht rfl)) rfl ?_
    refine RG.op (ok_indexAddr Tryz.underlying45 ti89 rfl (ht rfl) (ht rfl) (dropI hx)) rfl ?_
    refine RG.op (ok_load ti89 rfl rfl (ht rfl)) rfl ?_
    refine RG.alloc (r := rpDValue) (x := (⟨(0 : Int), (0 : Int), (0 : Int), []⟩ : DValue)) ti89 (fun _ => zrDValue _) rfl (fun b => ?_)
    refine RG.op (ok_assign (ht rfl)) rfl ?_
    refine RG.storeB ti89 rfl sfld_whole rfl (ht rfl) (ht rfl) ?_
    refine RG.settleB 8 rfl ?_
    refine RG.nil ?_
    refine AT.next ?_
    refine CG.seq ?_
    refine CG.seq ?_
    refine CG.region ?_
    refine RG.op (ok_move (ht rfl)) rfl ?_
    refine RG.op (ok_move (ht rfl)) rfl ?_
    refine RG.op (ok_lenSl Tryz.underlying45 (ht rfl)) rfl ?_
    refine RG.op (ok_geq (ht rfl) (ht rfl)) rfl ?_
    refine RG.nil ?_
    refine AT.next ?_
    refine CG.cond (ht rfl) (fun hc => ?_) (fun hc => ?_)
    · have h := ct h hc
      refine CG.seq ?_
      refine CG.region ?_
      refine RG.op (ok_assign hI) rfl ?_
      refine RG.nil ?_
      refine AT.next ?_
      refine CG.ret ?_
      refine AT.then_ret (AT.in_ret (AT.then_ret (AT.then_ret (AT.in_ret (AT.then_ret ?_)))))
      cases so h
      exact AT.ret1 rfl rfl
    · have h := cf h hc
      refine CG.skip ?_
      refine AT.next ?_
      refine CG.seq ?_
      refine CG.region ?_
      refine RG.op (ok_move (ht rfl)) rfl ?_
      refine RG.op (ok_move (ht rfl)) rfl ?_
      obtain ⟨e1, q_e1, h⟩ := bs h
      refine RG.op (ok_indexAddr Tryz.underlying45 ti89 rfl (ht rfl) (ht rfl) q_e1) rfl ?_
      refine RG.op (ok_load ti89 rfl rfl (ht rfl)) rfl ?_
      refine RG.alloc (r := rpDValue) (x := (⟨(0 : Int), (0 : Int), (0 : Int), []⟩ : DValue)) ti89 (fun _ => zrDValue _) rfl (fun b1 => ?_)
      refine RG.storeB ti89 rfl sfld_whole rfl (ht rfl) (ht rfl) ?_
      refine RG.settleB 9 rfl ?_
      refine RG.nil ?_
      refine AT.next ?_
      refine CG.seq ?_
      refine CG.region ?_
      refine RG.op (ok_move (ht rfl)) rfl ?_
      refine RG.op (ok_load ti89 rfl rfl (ht rfl)) rfl ?_
      refine RG.op (ok_load ti89 rfl rfl (ht rfl)) rfl ?_
      obtain ⟨r, q_r, h⟩ := bs h
      refine RG.op (ok_callV (args := (fun (x : DValue × DValue) => [tD rpDValue x.1, tD rpDValue x.2])) (res := (fun (x : Int) => tD (rI .i64) x)) (f := (fun (x : DValue × DValue) => cmp x.1 x.2)) (x := ((e, e1) : DValue × DValue)) (ht rfl) q_r ⟨(ht rfl), (ht rfl), trivial⟩) rfl ?_
      refine RG.op (ok_assign (ht rfl)) rfl ?_
      refine RG.nil ?_
      refine AT.next ?_
      refine CG.seq ?_
      refine CG.region ?_
      refine RG.op (ok_move (ht rfl)) rfl ?_
      refine RG.op (ok_neqI (ht rfl) hI) rfl ?_
      refine RG.nil ?_
      refine AT.next ?_
      refine CG.cond (ht rfl) (fun hc => ?_) (fun hc => ?_)
      · have h := ct h hc
        refine CG.seq ?_
        refine CG.region ?_
        refine RG.op (ok_move (ht rfl)) rfl ?_
        refine RG.op (ok_assign (ht rfl)) rfl ?_
        refine RG.nil ?_
        refine AT.next ?_
        refine CG.ret ?_
        refine AT.in_ret (AT.then_ret (AT.then_ret (AT.in_ret (AT.then_ret ?_))))
        cases so h
        exact AT.ret1 rfl rfl
      · have h := cf h hc
        refine CG.skip ?_
        refine AT.in_normal ?_
        refine AT.next ?_
        refine CG.region ?_
        refine RG.op (ok_incN (dropL hx hN) (ht rfl) hI) rfl ?_
        refine RG.op (ok_move (ht rfl)) rfl ?_
        refine RG.nil ?_
        exact AT.round (LG.sub (ih (i + 1)  ⟨dropS hx, h⟩) ⟨rfl, rfl, rfl, rfl, rfl, rfl, trivial⟩)

set_option maxRecDepth 100000 in
theorem f132_ok (vals : (List Int)) {R : Int} (h : cmp_Or_int vals = some R) : Spec Tryz.prog 132 [tD (rSl (rI .i64)) vals] (tD (rI .i64) R) := by
  refine Spec.of Tryz.func132 rfl rfl rfl fun w0 S0 => ?_
  refine CG.seq ?_
  refine CG.region ?_
  refine RG.op (ok_assign hI) rfl ?_
  refine RG.nil ?_
  refine AT.next ?_
  refine CG.seq ?_
  refine CG.region ?_
  refine RG.op (ok_assign hI) rfl ?_
  refine RG.nil ?_
  refine AT.next ?_
  refine CG.seq ?_
  refine CG.seq ?_
  refine CG.region ?_
  refine RG.op (ok_move (ht rfl)) rfl ?_
  refine RG.op (ok_lenSl Tryz.underlying28 (ht rfl)) rfl ?_
  refine RG.op (ok_move hI) rfl ?_
  refine RG.nil ?_
  refine AT.next ?_
  refine CG.block ?_
  refine CG.have_len (k := 6) rfl (fun hN => ?_)
  refine CG.loop ?_
  refine LG.sub (LG.list1 (Z := fun ls i  => (vals.drop i = ls) ∧ cmp_Or_int_l1 ls  = some R) (Of := fun _ i  => []) (Gf := fun _ i  => [(3, tD (rI .i64) (0 : Int)), (6, tD (rSl (rI .i64)) vals), (7, tD (rI .i64) (vals.length : Int)), (8, tD (rI .i64) (i : Int))]) (fun i  h => ?_) (fun e tl ih i  h => ?_) vals 0  ⟨rfl, h⟩) ⟨rfl, rfl, rfl, rfl, trivial⟩
  · obtain ⟨hx, h⟩ := h
    refine LG.unfold ?_
    refine CG.seq ?_
    refine CG.region ?_
    refine RG.op (ok_lss (ht rfl) (ht rfl)) rfl ?_
    refine RG.nil ?_
    refine AT.next ?_
    refine CG.seq ?_
    refine CG.condF (ht rfl) (dropF hx) ?_
    refine CG.exit ?_
    refine AT.then_exit (AT.then_exit (AT.in_exit ?_))
    refine AT.next ?_
    refine CG.seq ?_
    refine CG.region ?_
    refine RG.op (ok_move (ht rfl)) rfl ?_
    refine RG.op (ok_assign (ht rfl)) rfl ?_
    refine RG.nil ?_
    refine AT.next ?_
    refine CG.ret ?_
    cases so h
    exact AT.ret1 rfl rfl
  · obtain ⟨hx, h⟩ := h
    refine LG.unfold ?_
    refine CG.seq ?_
    refine CG.region ?_
    refine RG.op (ok_lss (ht rfl) (ht rfl)) rfl ?_
    refine RG.nil ?_
    refine AT.next ?_
    refine CG.seq ?_
    refine CG.condT (ht rfl) (dropT hx) ?_
    refine CG.skip ?_
    refine AT.next ?_
    refine CG.seq ?_
    refine CG.block ?_
    refine CG.seq ?_
    refine CG.region ?_
    refine RG.op (ok_indexAddr Tryz.underlying28 ti3 rfl (ht rfl) (ht rfl) (dropI hx)) rfl ?_
    refine RG.op (ok_load ti3 rfl rfl (ht rfl)) rfl ?_
    refine RG.op (ok_assign (ht rfl)) rfl ?_
    refine RG.nil ?_
    refine AT.next ?_
    refine CG.seq ?_
    refine CG.region ?_
    refine RG.op (ok_move (ht rfl)) rfl ?_
    refine RG.op (ok_move (ht rfl)) rfl ?_
    refine RG.op (ok_neqI (ht rfl) (ht rfl)) rfl ?_
    refine RG.nil ?_
    refine AT.next ?_
    refine CG.cond (ht rfl) (fun hc => ?_) (fun hc => ?_)
    · have h := ct h hc
      refine CG.seq ?_
      refine CG.region ?_
      refine RG.op (ok_move (ht rfl)) rfl ?_
      refine RG.op (ok_assign (ht rfl)) rfl ?_
      refine RG.nil ?_
      refine AT.next ?_
      refine CG.ret ?_
      refine AT.in_ret (AT.then_ret (AT.then_ret (AT.in_ret (AT.then_ret ?_))))
      cases so h
      exact AT.ret1 rfl rfl
    · have h := cf h hc
      refine CG.skip ?_
      refine AT.in_normal ?_
      refine AT.next ?_
      refine CG.region ?_
      refine RG.op (ok_incN (dropL hx hN) (ht rfl) hI) rfl ?_
      refine RG.op (ok_move (ht rfl)) rfl ?_
      refine RG.nil ?_
      exact AT.round (LG.sub (ih (i + 1)  ⟨dropS hx, h⟩) ⟨rfl, rfl, rfl, rfl, trivial⟩)

set_option maxRecDepth 100000 in
theorem f156_ok (p : Int) {R : Bool} (h : cmp_isNaN_int p = some R) : Spec Tryz.prog 156 [tD (rI .i64) p] (tD rB R) := by
  refine Spec.of Tryz.func156 rfl rfl rfl fun w0 S0 => ?_
  refine CG.seq ?_
  refine CG.region ?_
  refine RG.op (ok_assign hB) rfl ?_
  refine RG.nil ?_
  refine AT.next ?_
  refine CG.seq ?_
  refine CG.region ?_
  refine RG.op (ok_move (ht rfl)) rfl ?_
  refine RG.op (ok_move (ht rfl)) rfl ?_
  refine RG.op (ok_neqI (ht rfl) (ht rfl)) rfl ?_
  refine RG.op (ok_assign (ht rfl)) rfl ?_
  refine RG.nil ?_
  refine AT.next ?_
  refine CG.ret ?_
  cases so h
  exact AT.ret1 rfl rfl

set_option maxRecDepth 100000 in
theorem f133_ok (p : Int) (y : Int) {R : Int} (h : cmp_Compare_int p y = some R) : Spec Tryz.prog 133 [tD (rI .i64) p, tD (rI .i64) y] (tD (rI .i64) R) := by
  refine Spec.of Tryz.func133 rfl rfl rfl fun w0 S0 => ?_
  refine CG.seq ?_
  refine CG.region ?_
  refine RG.op (ok_assign hI) rfl ?_
  refine RG.nil ?_
  refine AT.next ?_
  refine CG.seq ?_
  refine CG.region ?_
  refine RG.op (ok_move (ht rfl)) rfl ?_
  obtain ⟨r, q_r, h⟩ := bs h
  refine RG.op (ok_call cb156 (f156_ok _ q_r) ⟨(ht rfl), trivial⟩) rfl ?_
  refine RG.op (ok_assign (ht rfl)) rfl ?_
  refine RG.nil ?_
  refine AT.next ?_
  refine CG.seq ?_
  refine CG.region ?_
  refine RG.op (ok_move (ht rfl)) rfl ?_
  obtain ⟨r1, q_r1, h⟩ := bs h
  refine RG.op (ok_call cb156 (f156_ok _ q_r1) ⟨(ht rfl), trivial⟩) rfl ?_
  refine RG.op (ok_assign (ht rfl)) rfl ?_
  refine RG.nil ?_
  refine AT.next ?_
  refine CG.seq ?_
  refine CG.seq ?_
  refine CG.region ?_
  refine RG.op (ok_move (ht rfl)) rfl ?_
  refine RG.nil ?_
  refine AT.next ?_
  refine CG.cond (ht rfl) (fun hc => ?_) (fun hc => ?_)
  · have h := ct h hc
    refine CG.seq ?_
    refine CG.seq ?_
    refine CG.region ?_
    refine RG.op (ok_move (ht rfl)) rfl ?_
    refine RG.nil ?_
    refine AT.next ?_
    refine CG.cond (ht rfl) (fun hc => ?_) (fun hc => ?_)
    · have h := ct h hc
      refine CG.seq ?_
      refine CG.region ?_
      refine RG.op (ok_assign hI) rfl ?_
      refine RG.nil ?_
      refine AT.next ?_
      refine CG.ret ?_
      refine AT.then_ret (AT.then_ret ?_)
      cases so h
      exact AT.ret1 rfl rfl
    · have h := cf h hc
      refine CG.skip ?_
      refine AT.next ?_
      refine CG.seq ?_
      refine CG.region ?_
      refine RG.op (ok_assign hI) rfl ?_
      refine RG.nil ?_
      refine AT.next ?_
      refine CG.ret ?_
      refine AT.then_ret ?_
      cases so h
      exact AT.ret1 rfl rfl
  · have h := cf h hc
    refine CG.skip ?_
    refine AT.next ?_
    refine CG.seq ?_
    refine CG.seq ?_
    refine CG.region ?_
    refine RG.op (ok_move (ht rfl)) rfl ?_
    refine RG.nil ?_
    refine AT.next ?_
    refine CG.cond (ht rfl) (fun hc => ?_) (fun hc => ?_)
    · have h := ct h hc
      refine CG.seq ?_
      refine CG.region ?_
      refine RG.op (ok_assign hI) rfl ?_
      refine RG.nil ?_
      refine AT.next ?_
      refine CG.ret ?_
      refine AT.then_ret ?_
      cases so h
      exact AT.ret1 rfl rfl
    · have h := cf h hc
      refine CG.skip ?_
      refine AT.next ?_
      refine CG.seq ?_
      refine CG.seq ?_
      refine CG.region ?_
      refine RG.op (ok_move (ht rfl)) rfl ?_
      refine RG.op (ok_move (ht rfl)) rfl ?_
      refine RG.op (ok_lss (ht rfl) (ht rfl)) rfl ?_
      refine RG.nil ?_
      refine AT.next ?_
      refine CG.cond (ht rfl) (fun hc => ?_) (fun hc => ?_)
      · have h := ct h hc
        refine CG.seq ?_
        refine CG.region ?_
        refine RG.op (ok_assign hI) rfl ?_
        refine RG.nil ?_
        refine AT.next ?_
        refine CG.ret ?_
        refine AT.then_ret ?_
        cases so h
        exact AT.ret1 rfl rfl
      · have h := cf h hc
        refine CG.skip ?_
        refine AT.next ?_
        refine CG.seq ?_
        refine CG.seq ?_
        refine CG.region ?_
        refine RG.op (ok_move (ht rfl)) rfl ?_
        refine RG.op (ok_move (ht rfl)) rfl ?_
        refine RG.op (ok_gtr (ht rfl) (ht rfl)) rfl ?_
        refine RG.nil ?_
        refine AT.next ?_
        refine CG.cond (ht rfl) (fun hc => ?_) (fun hc => ?_)
        · have h := ct h hc
          refine CG.seq ?_
          refine CG.region ?_
          refine RG.op (ok_assign hI) rfl ?_
          refine RG.nil ?_
          refine AT.next ?_
          refine CG.ret ?_
          refine AT.then_ret ?_
          cases so h
          exact AT.ret1 rfl rfl
        · have h := cf h hc
          refine CG.skip ?_
          refine AT.next ?_
          refine CG.seq ?_
          refine CG.region ?_
          refine RG.op (ok_assign hI) rfl ?_
          refine RG.nil ?_
          refine AT.next ?_
          refine CG.ret ?_
          cases so h
          exact AT.ret1 rfl rfl

set_option maxRecDepth 100000 in
theorem f157_ok (p : Int) {R : Bool} (h : cmp_isNaN_int64 p = some R) : Spec Tryz.prog 157 [tD (rI .i64) p] (tD rB R) := by
  refine Spec.of Tryz.func157 rfl rfl rfl fun w0 S0 => ?_
  refine CG.seq ?_
  refine CG.region ?_
  refine RG.op (ok_assign hB) rfl ?_
  refine RG.nil ?_
  refine AT.next ?_
  refine CG.seq ?_
  refine CG.region ?_
  refine RG.op (ok_move (ht rfl)) rfl ?_
  refine RG.op (ok_move (ht rfl)) rfl ?_
  refine RG.op (ok_neqI (ht rfl) (ht rfl)) rfl ?_
  refine RG.op (ok_assign (ht rfl)) rfl ?_
  refine RG.nil ?_
  refine AT.next ?_
  refine CG.ret ?_
  cases so h
  exact AT.ret1 rfl rfl

set_option maxRecDepth 100000 in
theorem f134_ok (p : Int) (y : Int) {R : Int} (h : cmp_Compare_int64 p y = some R) : Spec Tryz.prog 134 [tD (rI .i64) p, tD (rI .i64) y] (tD (rI .i64) R) := by
  refine Spec.of Tryz.func134 rfl rfl rfl fun w0 S0 => ?_
  refine CG.seq ?_
  refine CG.region ?_
  refine RG.op (ok_assign hI) rfl ?_
  refine RG.nil ?_
  refine AT.next ?_
  refine CG.seq ?_
  refine CG.region ?_
  refine RG.op (ok_move (ht rfl)) rfl ?_
  obtain ⟨r, q_r, h⟩ := bs h
  refine RG.op (ok_call cb157 (f157_ok _ q_r) ⟨(ht rfl), trivial⟩) rfl ?_
  refine RG.op (ok_assign (ht rfl)) rfl ?_
  refine RG.nil ?_
  refine AT.next ?_
  refine CG.seq ?_
  refine CG.region ?_
  refine RG.op (ok_move (ht rfl)) rfl ?_
  obtain ⟨r1, q_r1, h⟩ := bs h
  refine RG.op (ok_call cb157 (f157_ok _ q_r1) ⟨(ht rfl), trivial⟩) rfl ?_
  refine RG.op (ok_assign (ht rfl)) rfl ?_
  refine RG.nil ?_
  refine AT.next ?_
  refine CG.seq ?_
  refine CG.seq ?_
  refine CG.region ?_
  refine RG.op (ok_move (ht rfl)) rfl ?_
  refine RG.nil ?_
  refine AT.next ?_
  refine CG.cond (ht rfl) (fun hc => ?_) (fun hc => ?_)
  · have h := ct h hc
    refine CG.seq ?_
    refine CG.seq ?_
    refine CG.region ?_
    refine RG.op (ok_move (ht rfl)) rfl ?_
    refine RG.nil ?_
    refine AT.next ?_
    refine CG.cond (ht rfl) (fun hc => ?_) (fun hc => ?_)
    · have h := ct h hc
      refine CG.seq ?_
      refine CG.region ?_
      refine RG.op (ok_assign hI) rfl ?_
      refine RG.nil ?_
      refine AT.next ?_
      refine CG.ret ?_
      refine AT.then_ret (AT.then_ret ?_)
      cases so h
      exact AT.ret1 rfl rfl
    · have h := cf h hc
      refine CG.skip ?_
      refine AT.next ?_
      refine CG.seq ?_
      refine CG.region ?_
      refine RG.op (ok_assign hI) rfl ?_
      refine RG.nil ?_
      refine AT.next ?_
      refine CG.ret ?_
      refine AT.then_ret ?_
      cases so h
      exact AT.ret1 rfl rfl
  · have h := cf h hc
    refine CG.skip ?_
    refine AT.next ?_
    refine CG.seq ?_
    refine CG.seq ?_
    refine CG.region ?_
    refine RG.op (ok_move (ht rfl)) rfl ?_
    refine RG.nil ?_
    refine AT.next ?_
    refine CG.cond (ht rfl) (fun hc => ?_) (fun hc => ?_)
    · have h := ct h hc
      refine CG.seq ?_
      refine CG.region ?_
      refine RG.op (ok_assign hI) rfl ?_
      refine RG.nil ?_
      refine AT.next ?_
      refine CG.ret ?_
      refine AT.then_ret ?_
      cases so h
      exact AT.ret1 rfl rfl
    · have h := cf h hc
      refine CG.skip ?_
      refine AT.next ?_
      refine CG.seq ?_
      refine CG.seq ?_
      refine CG.region ?_
      refine RG.op (ok_move (ht rfl)) rfl ?_
      refine RG.op (ok_move (ht rfl)) rfl ?_
      refine RG.op (ok_lss (ht rfl) (ht rfl)) rfl ?_
      refine RG.nil ?_
      refine AT.next ?_
      refine CG.cond (ht rfl) (fun hc => ?_) (fun hc => ?_)
      · have h := ct h hc
        refine CG.seq ?_
        refine CG.region ?_
        refine RG.op (ok_assign hI) rfl ?_
        refine RG.nil ?_
        refine AT.next ?_
        refine CG.ret ?_
        refine AT.then_ret ?_
        cases so h
        exact AT.ret1 rfl rfl
      · have h := cf h hc
        refine CG.skip ?_
        refine AT.next ?_
        refine CG.seq ?_
        refine CG.seq ?_
        refine CG.region ?_
        refine RG.op (ok_move (ht rfl)) rfl ?_
        refine RG.op (ok_move (ht rfl)) rfl ?_
        refine RG.op (ok_gtr (ht rfl) (ht rfl)) rfl ?_
        refine RG.nil ?_
        refine AT.next ?_
        refine CG.cond (ht rfl) (fun hc => ?_) (fun hc => ?_)
        · have h := ct h hc
          refine CG.seq ?_
          refine CG.region ?_
          refine RG.op (ok_assign hI) rfl ?_
          refine RG.nil ?_
          refine AT.next ?_
          refine CG.ret ?_
          refine AT.then_ret ?_
          cases so h
          exact AT.ret1 rfl rfl
        · have h := cf h hc
          refine CG.skip ?_
          refine AT.next ?_
          refine CG.seq ?_
          refine CG.region ?_
          refine RG.op (ok_assign hI) rfl ?_
          refine RG.nil ?_
          refine AT.next ?_
          refine CG.ret ?_
          cases so h
          exact AT.ret1 rfl rfl

end Go.Proofs.YtegigakgcnhiaaaGreatDoor

