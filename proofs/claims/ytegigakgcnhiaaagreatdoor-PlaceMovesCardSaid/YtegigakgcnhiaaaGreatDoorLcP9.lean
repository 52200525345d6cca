/- Facts of this claim: P9. -/
import Derived.Test.YtegigakgcnhiaaaGreatDoorLcT
import Derived.Test.YtegigakgcnhiaaaGreatDoorLcP8
import Derived.Test.YtegigakgcnhiaaaGreatDoorLcNS
namespace Go.Proofs.YtegigakgcnhiaaaGreatDoor
open Go

set_option maxRecDepth 100000 in
theorem f24_ok (c : DCatalog) (l : DLayout) {R : Int} (h : ref17_Error c l = some R) : Spec Tryz.prog 24 [tD rpDCatalog c, tD rpDLayout l] (tD (rI .i64) R) := by
  refine Spec.of Tryz.func24 rfl rfl rfl fun w0 S0 => ?_
  refine CG.seq ?_
  refine CG.region ?_
  refine RG.op (ok_box (ht rfl)) rfl ?_
  refine RG.op (ok_box (ht rfl)) rfl ?_
  refine RG.op (ok_assign hI) rfl ?_
  refine RG.nil ?_
  refine AT.next ?_
  refine CG.seq ?_
  refine CG.seq ?_
  refine CG.region ?_
  refine RG.op (ok_load ti24 rfl rfl (ht rfl)) rfl ?_
  obtain ⟨r, q_r, h⟩ := bs h
  refine RG.op (ok_call cb13 (f13_ok _ q_r) ⟨(ht rfl), trivial⟩) rfl ?_
  refine RG.op (ok_not (ht rfl)) rfl ?_
  refine RG.nil ?_
  refine AT.next ?_
  refine CG.cond (ht rfl) (fun hc => ?_) (fun hc => ?_)
  · have h := ct h hc
    refine CG.seq ?_
    refine CG.region ?_
    refine RG.op (ok_assign hI) rfl ?_
    refine RG.nil ?_
    refine AT.next ?_
    refine CG.ret ?_
    refine AT.then_ret ?_
    cases so h
    exact AT.ret1 rfl rfl
  · have h := cf h hc
    refine CG.skip ?_
    refine AT.next ?_
    refine CG.seq ?_
    refine CG.seq ?_
    refine CG.region ?_
    refine RG.op (ok_load ti24 rfl rfl (ht rfl)) rfl ?_
    refine RG.op (ok_load ti36 rfl rfl (ht rfl)) rfl ?_
    obtain ⟨r1, q_r1, h⟩ := bs h
    refine RG.op (ok_call cb53 (f53_ok _ _ q_r1) ⟨(ht rfl), (ht rfl), trivial⟩) rfl ?_
    refine RG.op (ok_not (ht rfl)) rfl ?_
    refine RG.nil ?_
    refine AT.next ?_
    refine CG.cond (ht rfl) (fun hc => ?_) (fun hc => ?_)
    · have h := ct h hc
      refine CG.seq ?_
      refine CG.region ?_
      refine RG.op (ok_assign hI) rfl ?_
      refine RG.nil ?_
      refine AT.next ?_
      refine CG.ret ?_
      refine AT.then_ret ?_
      cases so h
      exact AT.ret1 rfl rfl
    · have h := cf h hc
      refine CG.skip ?_
      refine AT.next ?_
      refine CG.seq ?_
      refine CG.region ?_
      refine RG.op (ok_assign hI) rfl ?_
      refine RG.nil ?_
      refine AT.next ?_
      refine CG.ret ?_
      cases so h
      exact AT.ret1 rfl rfl

set_option maxRecDepth 100000 in
theorem f26_ok (c : DCatalog) (l : DLayout) (table : Int) (from1 : Int) (at1 : Int) (to1 : Int) {R : DLayout} (h : ref17_Move c l table from1 at1 to1 = some R) : Spec Tryz.prog 26 [tD rpDCatalog c, tD rpDLayout l, tD (rI .i64) table, tD (rI .i64) from1, tD (rI .i64) at1, tD (rI .i64) to1] (tD rpDLayout R) := by
  refine Spec.of Tryz.func26 rfl rfl rfl fun w0 S0 => ?_
  refine CG.seq ?_
  refine CG.region ?_
  refine RG.op (ok_box (ht rfl)) rfl ?_
  refine RG.op (ok_box (ht rfl)) rfl ?_
  refine RG.alloc (r := rpDLayout) (x := (⟨[]⟩ : DLayout)) ti36 (fun _ => zrDLayout _) rfl (fun b => ?_)
  refine RG.nil ?_
  refine AT.next ?_
  refine CG.seq ?_
  refine CG.region ?_
  refine RG.op (ok_load ti24 rfl rfl (ht rfl)) rfl ?_
  refine RG.op (ok_fieldAddr fd36_0 rfl flDLayout_0 rfl (ht rfl)) rfl ?_
  refine RG.op (ok_load ti34 rfl rfl (ht rfl)) rfl ?_
  refine RG.op (ok_lenSl Tryz.underlying34 (ht rfl)) rfl ?_
  obtain ⟨r, q_r, h⟩ := bs h
  refine RG.callM [] _ rfl cb47 (f47_n _ _ q_r) ⟨(ht rfl), (ht rfl), trivial⟩ rfl (fun i => ?_)
  refine (show RG _ _ _ _ [nst (fun y : DBase => y.Tables) (rSl rpDValue) 27 54 45 (i.h 0).1 (i.h 0).2 r.Parts.length i.ng r.Parts none, bx rpDLayout 36 b (⟨[]⟩ : DLayout)] ((21, tV (.agg #[oslV (i.h 0).1 (i.h 0).2 r.Parts.length])) :: _) from ?_)
  refine RG.alloc (r := rpOLayout_0) (x := mkOLayout_0 (⟨[]⟩ : DLayout) (oslV none 0 0)) ti36 zrOLayout_0 rfl (fun b1 => ?_)
  refine RG.storeFX (q := rpOLayout_0) (y := mkOLayout_0 (⟨[]⟩ : DLayout) (oslV (i.h 0).1 (i.h 0).2 r.Parts.length)) (x' := mkOLayout_0 (⟨[]⟩ : DLayout) (oslV (i.h 0).1 (i.h 0).2 r.Parts.length)) ti36 rfl (sfx_of sfld_whole) rfl (ht rfl) (hH rfl (fun _ => ⟨rfl, osl_one _ _ _⟩) (ht rfl)) ?_
  refine RG.nil ?_
  refine AT.next ?_
  refine CG.seq ?_
  refine CG.seq ?_
  refine CG.region ?_
  refine RG.op (ok_assign hI) rfl ?_
  refine RG.nil ?_
  refine AT.next ?_
  refine CG.block ?_
  refine CG.loop ?_
  refine LG.front1 ?_
  refine LG.front1 ?_
  refine LG.front2 ?_
  refine LG.sub (LG.ind3 (Z := fun n1 n x g => ref17_Move_l1 c l table from1 at1 to1 n1 n x = some R) (Of := fun n x g => [bx rpDLayout 36 b (⟨[]⟩ : DLayout), bx rpOLayout_0 36 b1 (mkOLayout_0 (⟨[]⟩ : DLayout) (oslV (i.h 0).1 (i.h 0).2 r.Parts.length)), nst (fun y : DBase => y.Tables) (rSl rpDValue) 27 54 45 (i.h 0).1 (i.h 0).2 r.Parts.length g x none]) (Gf := fun n x g => [(2, tD (rI .i64) table), (3, tD (rI .i64) from1), (4, tD (rI .i64) at1), (5, tD (rI .i64) to1), (6, tPtr rpDCatalog c), (7, tPtr rpDLayout l), (12, tV (bptr b 0)), (13, tV (bptr b1 0)), (14, tD (rI .i64) n)]) (fun n x g h => nn h) (fun n1 ih n x g h => ?_) FUEL (0 : Int) r.Parts i.ng h) ⟨rfl, rfl, rfl, rfl, rfl, rfl, rfl, rfl, rfl, trivial⟩
  refine LG.unfold ?_
  refine CG.seq ?_
  refine CG.seq ?_
  refine CG.region ?_
  refine RG.op (ok_move (ht rfl)) rfl ?_
  refine RG.op (ok_fieldAddr fd36_0 rfl flDLayout_0 rfl (ht rfl)) rfl ?_
  refine RG.op (ok_load ti34 rfl rfl (ht rfl)) rfl ?_
  refine RG.op (ok_lenSl Tryz.underlying34 (ht rfl)) rfl ?_
  refine RG.op (ok_lss (ht rfl) (ht rfl)) rfl ?_
  refine RG.nil ?_
  refine AT.next ?_
  refine CG.cond (ht rfl) (fun hc => ?_) (fun hc => ?_)
  · have h := ct h hc
    refine CG.skip ?_
    refine AT.next ?_
    refine CG.seq ?_
    refine CG.block ?_
    refine CG.seq ?_
    refine CG.region ?_
    refine RG.op (ok_assign hI) rfl ?_
    refine RG.nil ?_
    refine AT.next ?_
    refine CG.block ?_
    refine CG.loop ?_
    refine LG.sub (LG.ind3 (Z := fun n2 t x1 g1 => ref17_Move_l2 c l table from1 at1 (ref17_Move_l1 c l table from1 at1 to1 n1) n n2 t x1 = some R) (Of := fun t x1 g1 => [bx rpDLayout 36 b (⟨[]⟩ : DLayout), bx rpOLayout_0 36 b1 (mkOLayout_0 (⟨[]⟩ : DLayout) (oslV (i.h 0).1 (i.h 0).2 r.Parts.length)), nst (fun y : DBase => y.Tables) (rSl rpDValue) 27 54 45 (i.h 0).1 (i.h 0).2 r.Parts.length g1 x1 none]) (Gf := fun t x1 g1 => [(2, tD (rI .i64) table), (3, tD (rI .i64) from1), (4, tD (rI .i64) at1), (5, tD (rI .i64) to1), (6, tPtr rpDCatalog c), (7, tPtr rpDLayout l), (12, tV (bptr b 0)), (13, tV (bptr b1 0)), (14, tD (rI .i64) n), (15, tD (rI .i64) t)]) (fun t x1 g1 h => nn h) (fun n2 ih1 t x1 g1 h => ?_) FUEL (0 : Int) x g h) ⟨rfl, rfl, rfl, rfl, rfl, rfl, rfl, rfl, rfl, rfl, trivial⟩
    refine LG.unfold ?_
    refine CG.seq ?_
    refine CG.seq ?_
    refine CG.region ?_
    refine RG.op (ok_move (ht rfl)) rfl ?_
    refine RG.op (ok_fieldAddr fd24_0 rfl flDCatalog_0 rfl (ht rfl)) rfl ?_
    refine RG.op (ok_load ti22 rfl rfl (ht rfl)) rfl ?_
    refine RG.op (ok_lenSl Tryz.underlying22 (ht rfl)) rfl ?_
    refine RG.op (ok_lss (ht rfl) (ht rfl)) rfl ?_
    refine RG.nil ?_
    refine AT.next ?_
    refine CG.cond (ht rfl) (fun hc => ?_) (fun hc => ?_)
    · have h := ct h hc
      refine CG.skip ?_
      refine AT.next ?_
      refine CG.seq ?_
      refine CG.block ?_
      refine CG.seq ?_
      refine CG.region ?_
      refine RG.op (ok_assign hI) rfl ?_
      refine RG.nil ?_
      refine AT.next ?_
      refine CG.block ?_
      refine CG.loop ?_
      refine LG.sub (LG.ind3 (Z := fun n3 i1 x2 g2 => ref17_Move_l3 l table from1 at1 n (ref17_Move_l2 c l table from1 at1 (ref17_Move_l1 c l table from1 at1 to1 n1) n n2) t n3 i1 x2 = some R) (Of := fun i1 x2 g2 => [bx rpDLayout 36 b (⟨[]⟩ : DLayout), bx rpOLayout_0 36 b1 (mkOLayout_0 (⟨[]⟩ : DLayout) (oslV (i.h 0).1 (i.h 0).2 r.Parts.length)), nst (fun y : DBase => y.Tables) (rSl rpDValue) 27 54 45 (i.h 0).1 (i.h 0).2 r.Parts.length g2 x2 none]) (Gf := fun i1 x2 g2 => [(2, tD (rI .i64) table), (3, tD (rI .i64) from1), (4, tD (rI .i64) at1), (5, tD (rI .i64) to1), (6, tPtr rpDCatalog c), (7, tPtr rpDLayout l), (12, tV (bptr b 0)), (13, tV (bptr b1 0)), (14, tD (rI .i64) n), (15, tD (rI .i64) t), (16, tD (rI .i64) i1)]) (fun i1 x2 g2 h => nn h) (fun n3 ih2 i1 x2 g2 h => ?_) FUEL (0 : Int) x1 g1 h) ⟨rfl, rfl, rfl, rfl, rfl, rfl, rfl, rfl, rfl, rfl, rfl, trivial⟩
      refine LG.unfold ?_
      refine CG.seq ?_
      refine CG.seq ?_
      refine CG.region ?_
      refine RG.op (ok_move (ht rfl)) rfl ?_
      refine RG.op (ok_fieldAddr fd36_0 rfl flDLayout_0 rfl (ht rfl)) rfl ?_
      refine RG.op (ok_load ti34 rfl rfl (ht rfl)) rfl ?_
      refine RG.op (ok_move (ht rfl)) rfl ?_
      obtain ⟨e, q_e, h⟩ := bs h
      refine RG.op (ok_indexAddr Tryz.underlying34 ti27 rfl (ht rfl) (ht rfl) q_e) rfl ?_
      refine RG.op (ok_fieldAddr fd27_0 rfl flDBase_0 rfl (ht rfl)) rfl ?_
      refine RG.op (ok_load ti25 rfl rfl (ht rfl)) rfl ?_
      refine RG.op (ok_move (ht rfl)) rfl ?_
      obtain ⟨e1, q_e1, h⟩ := bs h
      refine RG.op (ok_indexAddr Tryz.underlying25 ti54 rfl (ht rfl) (ht rfl) q_e1) rfl ?_
      refine RG.op (ok_load ti54 rfl rfl (ht rfl)) rfl ?_
      refine RG.op (ok_lenSl Tryz.underlying54 (ht rfl)) rfl ?_
      refine RG.op (ok_lss (ht rfl) (ht rfl)) rfl ?_
      refine RG.nil ?_
      refine AT.next ?_
      refine CG.cond (ht rfl) (fun hc => ?_) (fun hc => ?_)
      · have h := ct h hc
        refine CG.skip ?_
        refine AT.next ?_
        refine CG.seq ?_
        refine CG.block ?_
        refine CG.seq ?_
        refine CG.region ?_
        refine RG.op (ok_move (ht rfl)) rfl ?_
        refine RG.op (ok_add (ht rfl) hI) rfl ?_
        refine RG.op (ok_move (ht rfl)) rfl ?_
        refine RG.op (ok_neqI (ht rfl) (ht rfl)) rfl ?_
        refine RG.op (ok_move (ht rfl)) rfl ?_
        refine RG.opGf rfl rfl rfl rfl (fun hg => ok_move (ht rfl)) ?_
        refine RG.opGf rfl rfl rfl rfl (fun hg => ok_move (ht rfl)) ?_
        refine RG.opGf rfl rfl rfl rfl (fun hg => ok_neqI (htO rfl hg) (htO rfl hg)) ?_
        refine RG.op (ok_pickOr (ht rfl) (fun hb => (htO rfl (noti hb)))) rfl ?_
        refine RG.op (ok_move (ht rfl)) rfl ?_
        refine RG.opGf rfl rfl rfl rfl (fun hg => ok_move (ht rfl)) ?_
        refine RG.opGf rfl rfl rfl rfl (fun hg => ok_move (ht rfl)) ?_
        refine RG.opGf rfl rfl rfl rfl (fun hg => ok_neqI (htO rfl hg) (htO rfl hg)) ?_
        refine RG.op (ok_pickOr (ht rfl) (fun hb => (htO rfl (noti hb)))) rfl ?_
        refine RG.nil ?_
        refine AT.next ?_
        refine CG.cond (ht rfl) (fun hc => ?_) (fun hc => ?_)
        · have h := ct h hc
          obtain ⟨e2, q_e2, h⟩ := bs h
          obtain ⟨e3, q_e3, h⟩ := bs h
          refine CG.front2 ?_
          refine CG.openN (i := n) (j := t) q_e2 q_e3 ?_
          obtain ⟨e4, q_e4, h⟩ := bs h
          obtain ⟨l1, q_l1, h⟩ := bs h
          refine CG.drawS 30 [tc (tV (bptr b1 0)), tc (tV (oslV (i.h 0).1 (i.h 0).2 r.Parts.length)), tc (tD (rI .i64) n), tc (tV (eptr (i.h 0).1 n.toNat)), tc (tV (eptr (i.h 0).1 n.toNat)), tc (tV (oslV (g2 n.toNat).1.1 (g2 n.toNat).1.2 e2.Tables.length)), tc (tD (rI .i64) t), tc (tV (bptr b1 0)), tc (tV (oslV (i.h 0).1 (i.h 0).2 r.Parts.length)), tc (tD (rI .i64) n), tc (tV (eptr (i.h 0).1 n.toNat)), tc (tV (eptr (i.h 0).1 n.toNat)), tc (tV (oslV (g2 n.toNat).1.1 (g2 n.toNat).1.2 e2.Tables.length)), tc (tD (rI .i64) t), tc (tV (eptr (g2 n.toNat).1.1 t.toNat)), tc (tO (rSl rpDValue) ((g2 n.toNat).2 t.toNat).1 ((g2 n.toNat).2 t.toNat).2 e3), tc (tPtr (rSl rpDBase) l.Parts), tc (tD (rSl rpDBase) l.Parts), tc (tD (rI .i64) n), tc (tPtr rpDBase e), tc (tPtr (rSl (rSl (rSl rpDValue))) e.Tables), tc (tD (rSl (rSl (rSl rpDValue))) e.Tables), tc (tD (rI .i64) t), tc (tPtr (rSl (rSl rpDValue)) e1), tc (tD (rSl (rSl rpDValue)) e1), tc (tD (rI .i64) i1), tc (tPtr (rSl rpDValue) e4), tc (tD (rSl rpDValue) e4), tc (tD (rSl (rSl rpDValue)) ([e4])), ([29], fun s => tO (rSl rpDValue) ((s.getD 0 zoi).h 0).1 ((s.getD 0 zoi).h 0).2 l1)] [false, false, false, false, false, false, false, false, false, false, false, false, false, false, false, false, false, false, false, false, false, false, false, false, false, false, false, false, false, true] [fun _ => [tip (rSl rpDValue) 45 ((g2 n.toNat).2 t.toNat).1 ((g2 n.toNat).2 t.toNat).2 e3, nst (fun y : DBase => y.Tables) (rSl rpDValue) 27 54 45 (i.h 0).1 (i.h 0).2 r.Parts.length g2 x2 (some (n.toNat, t.toNat)), bx rpDLayout 36 b (⟨[]⟩ : DLayout), bx rpOLayout_0 36 b1 (mkOLayout_0 (⟨[]⟩ : DLayout) (oslV (i.h 0).1 (i.h 0).2 r.Parts.length))], fun sg => [tip (rSl rpDValue) 45 ((sg 29).h 0).1 ((sg 29).h 0).2 l1, nst (fun y : DBase => y.Tables) (rSl rpDValue) 27 54 45 (i.h 0).1 (i.h 0).2 r.Parts.length g2 x2 (some (n.toNat, t.toNat)), bx rpDLayout 36 b (⟨[]⟩ : DLayout), bx rpOLayout_0 36 b1 (mkOLayout_0 (⟨[]⟩ : DLayout) (oslV (i.h 0).1 (i.h 0).2 r.Parts.length))]] rfl mixed rfl rfl rfl rfl rfl
            ⟨⟨[⟨13, fun _ => tV (bptr b1 0), none⟩], _, 0, 1, rfl, ⟨(fun _ => rfl), trivial⟩, rfl, rfl, rfl, rfl, rfl, fun _ sg _ _ => OpG.plain rfl (ok_fieldAddrC (n := 0) fd36_0 rfl (ht rfl) rfl)⟩,
            ⟨⟨[⟨64, fun _ => tV (bptr b1 0), some 0⟩], _, 0, 1, rfl, ⟨(fun _ => rfl), trivial⟩, rfl, rfl, rfl, rfl, rfl, winS (fun sg => OpG.plain rfl (ok_loadFV (l := (i.h 0).1) (cap := (i.h 0).2) (n := r.Parts.length) ti34 flOLayout_0_0 (.tail _ (.tail _ (.tail _ (.head _)))) rfl (ht rfl))) (win1 (fun sg => OpG.plain rfl (ok_loadFV (l := (i.h 0).1) (cap := (i.h 0).2) (n := r.Parts.length) ti34 flOLayout_0_0 (.tail _ (.tail _ (.tail _ (.head _)))) rfl (ht rfl))))⟩,
            ⟨⟨[⟨14, fun _ => tD (rI .i64) n, none⟩], _, 0, 1, rfl, ⟨(fun _ => rfl), trivial⟩, rfl, rfl, rfl, rfl, rfl, fun _ sg _ _ => OpG.plain rfl (ok_move (ht rfl))⟩,
            ⟨⟨[⟨65, fun _ => tV (oslV (i.h 0).1 (i.h 0).2 r.Parts.length), some 1⟩, ⟨66, fun _ => tD (rI .i64) n, some 2⟩], _, 0, 1, rfl, ⟨(fun _ => rfl), (fun _ => rfl), trivial⟩, rfl, rfl, rfl, rfl, rfl, winS (fun sg => OpG.plain rfl (ok_idxN1 Tryz.underlying34 ti27 (.tail _ (.head _)) (ht rfl) (ht rfl) q_e2)) (win1 (fun sg => OpG.plain rfl (ok_idxN1 Tryz.underlying34 ti27 (.tail _ (.head _)) (ht rfl) (ht rfl) q_e2)))⟩,
            ⟨⟨[⟨67, fun _ => tV (eptr (i.h 0).1 n.toNat), some 3⟩], _, 0, 1, rfl, ⟨(fun _ => rfl), trivial⟩, rfl, rfl, rfl, rfl, rfl, winS (fun sg => OpG.plain rfl (ok_faN fd27_0 rfl (nst_some1 (.tail _ (.head _)) q_e2) (ht rfl))) (win1 (fun sg => OpG.plain rfl (ok_faN fd27_0 rfl (nst_some1 (.tail _ (.head _)) q_e2) (ht rfl))))⟩,
            ⟨⟨[⟨68, fun _ => tV (eptr (i.h 0).1 n.toNat), some 4⟩], _, 0, 1, rfl, ⟨(fun _ => rfl), trivial⟩, rfl, rfl, rfl, rfl, rfl, winS (fun sg => OpG.plain rfl (ok_ldN1 ti25 (.tail _ (.head _)) q_e2 (ht rfl))) (win1 (fun sg => OpG.plain rfl (ok_ldN1 ti25 (.tail _ (.head _)) q_e2 (ht rfl))))⟩,
            ⟨⟨[⟨15, fun _ => tD (rI .i64) t, none⟩], _, 0, 1, rfl, ⟨(fun _ => rfl), trivial⟩, rfl, rfl, rfl, rfl, rfl, fun _ sg _ _ => OpG.plain rfl (ok_move (ht rfl))⟩,
            ⟨⟨[⟨13, fun _ => tV (bptr b1 0), none⟩], _, 0, 0, rfl, ⟨(fun _ => rfl), trivial⟩, rfl, rfl, rfl, rfl, rfl, fun _ sg _ _ => OpG.plain rfl (ok_fieldAddrC (n := 0) fd36_0 rfl (ht rfl) rfl)⟩,
            ⟨⟨[⟨71, fun _ => tV (bptr b1 0), some 7⟩], _, 0, 0, rfl, ⟨(fun _ => rfl), trivial⟩, rfl, rfl, rfl, rfl, rfl, win1 (fun sg => OpG.plain rfl (ok_loadFV (l := (i.h 0).1) (cap := (i.h 0).2) (n := r.Parts.length) ti34 flOLayout_0_0 (.tail _ (.tail _ (.tail _ (.head _)))) rfl (ht rfl)))⟩,
            ⟨⟨[⟨14, fun _ => tD (rI .i64) n, none⟩], _, 0, 0, rfl, ⟨(fun _ => rfl), trivial⟩, rfl, rfl, rfl, rfl, rfl, fun _ sg _ _ => OpG.plain rfl (ok_move (ht rfl))⟩,
            ⟨⟨[⟨72, fun _ => tV (oslV (i.h 0).1 (i.h 0).2 r.Parts.length), some 8⟩, ⟨73, fun _ => tD (rI .i64) n, some 9⟩], _, 0, 0, rfl, ⟨(fun _ => rfl), (fun _ => rfl), trivial⟩, rfl, rfl, rfl, rfl, rfl, win1 (fun sg => OpG.plain rfl (ok_idxN1 Tryz.underlying34 ti27 (.tail _ (.head _)) (ht rfl) (ht rfl) q_e2))⟩,
            ⟨⟨[⟨74, fun _ => tV (eptr (i.h 0).1 n.toNat), some 10⟩], _, 0, 0, rfl, ⟨(fun _ => rfl), trivial⟩, rfl, rfl, rfl, rfl, rfl, win1 (fun sg => OpG.plain rfl (ok_faN fd27_0 rfl (nst_some1 (.tail _ (.head _)) q_e2) (ht rfl)))⟩,
            ⟨⟨[⟨75, fun _ => tV (eptr (i.h 0).1 n.toNat), some 11⟩], _, 0, 0, rfl, ⟨(fun _ => rfl), trivial⟩, rfl, rfl, rfl, rfl, rfl, win1 (fun sg => OpG.plain rfl (ok_ldN1 ti25 (.tail _ (.head _)) q_e2 (ht rfl)))⟩,
            ⟨⟨[⟨15, fun _ => tD (rI .i64) t, none⟩], _, 0, 0, rfl, ⟨(fun _ => rfl), trivial⟩, rfl, rfl, rfl, rfl, rfl, fun _ sg _ _ => OpG.plain rfl (ok_move (ht rfl))⟩,
            ⟨⟨[⟨76, fun _ => tV (oslV (g2 n.toNat).1.1 (g2 n.toNat).1.2 e2.Tables.length), some 12⟩, ⟨77, fun _ => tD (rI .i64) t, some 13⟩], _, 0, 0, rfl, ⟨(fun _ => rfl), (fun _ => rfl), trivial⟩, rfl, rfl, rfl, rfl, rfl, win1 (fun sg => OpG.plain rfl (ok_idxN2 (i := n) Tryz.underlying25 ti54 (.tail _ (.head _)) q_e2 (ht rfl) (ht rfl) q_e3))⟩,
            ⟨⟨[⟨78, fun _ => tV (eptr (g2 n.toNat).1.1 t.toNat), some 14⟩], _, 0, 0, rfl, ⟨(fun _ => rfl), trivial⟩, rfl, rfl, rfl, rfl, rfl, win1 (fun sg => OpG.plain rfl (ok_ldN2 ti54 (.tail _ (.head _)) (.head _) q_e2 q_e3 (ht rfl)))⟩,
            ⟨⟨[⟨7, fun _ => tPtr rpDLayout l, none⟩], _, 0, 0, rfl, ⟨(fun _ => rfl), trivial⟩, rfl, rfl, rfl, rfl, rfl, fun _ sg _ _ => OpG.plain rfl (ok_fieldAddr fd36_0 rfl flDLayout_0 rfl (ht rfl))⟩,
            ⟨⟨[⟨80, fun _ => tPtr (rSl rpDBase) l.Parts, some 16⟩], _, 0, 0, rfl, ⟨(fun _ => rfl), trivial⟩, rfl, rfl, rfl, rfl, rfl, fun _ sg _ _ => OpG.plain rfl (ok_load ti34 rfl rfl (ht rfl))⟩,
            ⟨⟨[⟨14, fun _ => tD (rI .i64) n, none⟩], _, 0, 0, rfl, ⟨(fun _ => rfl), trivial⟩, rfl, rfl, rfl, rfl, rfl, fun _ sg _ _ => OpG.plain rfl (ok_move (ht rfl))⟩,
            ⟨⟨[⟨81, fun _ => tD (rSl rpDBase) l.Parts, some 17⟩, ⟨82, fun _ => tD (rI .i64) n, some 18⟩], _, 0, 0, rfl, ⟨(fun _ => rfl), (fun _ => rfl), trivial⟩, rfl, rfl, rfl, rfl, rfl, fun _ sg _ _ => OpG.plain rfl (ok_indexAddr Tryz.underlying34 ti27 rfl (ht rfl) (ht rfl) q_e)⟩,
            ⟨⟨[⟨83, fun _ => tPtr rpDBase e, some 19⟩], _, 0, 0, rfl, ⟨(fun _ => rfl), trivial⟩, rfl, rfl, rfl, rfl, rfl, fun _ sg _ _ => OpG.plain rfl (ok_fieldAddr fd27_0 rfl flDBase_0 rfl (ht rfl))⟩,
            ⟨⟨[⟨84, fun _ => tPtr (rSl (rSl (rSl rpDValue))) e.Tables, some 20⟩], _, 0, 0, rfl, ⟨(fun _ => rfl), trivial⟩, rfl, rfl, rfl, rfl, rfl, fun _ sg _ _ => OpG.plain rfl (ok_load ti25 rfl rfl (ht rfl))⟩,
            ⟨⟨[⟨15, fun _ => tD (rI .i64) t, none⟩], _, 0, 0, rfl, ⟨(fun _ => rfl), trivial⟩, rfl, rfl, rfl, rfl, rfl, fun _ sg _ _ => OpG.plain rfl (ok_move (ht rfl))⟩,
            ⟨⟨[⟨85, fun _ => tD (rSl (rSl (rSl rpDValue))) e.Tables, some 21⟩, ⟨86, fun _ => tD (rI .i64) t, some 22⟩], _, 0, 0, rfl, ⟨(fun _ => rfl), (fun _ => rfl), trivial⟩, rfl, rfl, rfl, rfl, rfl, fun _ sg _ _ => OpG.plain rfl (ok_indexAddr Tryz.underlying25 ti54 rfl (ht rfl) (ht rfl) q_e1)⟩,
            ⟨⟨[⟨87, fun _ => tPtr (rSl (rSl rpDValue)) e1, some 23⟩], _, 0, 0, rfl, ⟨(fun _ => rfl), trivial⟩, rfl, rfl, rfl, rfl, rfl, fun _ sg _ _ => OpG.plain rfl (ok_load ti54 rfl rfl (ht rfl))⟩,
            ⟨⟨[⟨16, fun _ => tD (rI .i64) i1, none⟩], _, 0, 0, rfl, ⟨(fun _ => rfl), trivial⟩, rfl, rfl, rfl, rfl, rfl, fun _ sg _ _ => OpG.plain rfl (ok_move (ht rfl))⟩,
            ⟨⟨[⟨88, fun _ => tD (rSl (rSl rpDValue)) e1, some 24⟩, ⟨89, fun _ => tD (rI .i64) i1, some 25⟩], _, 0, 0, rfl, ⟨(fun _ => rfl), (fun _ => rfl), trivial⟩, rfl, rfl, rfl, rfl, rfl, fun _ sg _ _ => OpG.plain rfl (ok_indexAddr Tryz.underlying54 ti45 rfl (ht rfl) (ht rfl) q_e4)⟩,
            ⟨⟨[⟨90, fun _ => tPtr (rSl rpDValue) e4, some 26⟩], _, 0, 0, rfl, ⟨(fun _ => rfl), trivial⟩, rfl, rfl, rfl, rfl, rfl, fun _ sg _ _ => OpG.plain rfl (ok_load ti45 rfl rfl (ht rfl))⟩,
            ⟨⟨[⟨91, fun _ => tD (rSl rpDValue) e4, some 27⟩], _, 0, 0, rfl, ⟨(fun _ => rfl), trivial⟩, rfl, rfl, rfl, rfl, rfl, fun _ sg _ _ => OpG.plain rfl (ok_buildSlice (r := (rSl rpDValue)) (ys := [e4]) (xs := [.tmp 91]) Tryz.underlying54 ti45 rfl rfl rfl rfl rfl ⟨(ht rfl), trivial⟩)⟩,
            ⟨⟨[⟨79, fun _ => tO (rSl rpDValue) ((g2 n.toNat).2 t.toNat).1 ((g2 n.toNat).2 t.toNat).2 e3, some 15⟩, ⟨92, fun _ => tD (rSl (rSl rpDValue)) ([e4]), some 28⟩], _, rfl, ⟨(fun _ => rfl), (fun _ => rfl), trivial⟩, rfl, rfl, rfl, fun sg => EffG.plain rfl (eff_appendT ti45 rfl rfl rfl rfl Tryz.underlying54 rfl (ht rfl) (ht rfl) q_l1)⟩,
            trivial⟩⟩⟩⟩⟩⟩⟩⟩⟩⟩⟩⟩⟩⟩⟩⟩⟩⟩⟩⟩⟩⟩⟩⟩⟩⟩⟩⟩⟩⟩ (fun sg => ?_)
          refine (show RG _ _ _ _ [tip (rSl rpDValue) 45 ((sg 29).h 0).1 ((sg 29).h 0).2 l1, nst (fun y : DBase => y.Tables) (rSl rpDValue) 27 54 45 (i.h 0).1 (i.h 0).2 r.Parts.length g2 x2 (some (n.toNat, t.toNat)), bx rpDLayout 36 b (⟨[]⟩ : DLayout), bx rpOLayout_0 36 b1 (mkOLayout_0 (⟨[]⟩ : DLayout) (oslV (i.h 0).1 (i.h 0).2 r.Parts.length))] _ from ?_)
          refine RG.op (ok_idxN2 (i := n) Tryz.underlying25 ti54 (.tail _ (.head _)) q_e2 (ht rfl) (ht rfl) q_e3) rfl ?_
          refine RG.eff0 (EffOK.fr1 (EffOK.fr1 (eff_stN (mk := (fun z => (⟨z⟩ : DBase))) (fun _ => rfl) ti54 q_e2 q_e3 (ht rfl) (tO_v (ht rfl))))) (fun _ => ?_)
          refine (show RG _ _ _ _ [nst (fun y : DBase => y.Tables) (rSl rpDValue) 27 54 45 (i.h 0).1 (i.h 0).2 r.Parts.length (gset g2 n.toNat t.toNat (((sg 29).h 0).1, ((sg 29).h 0).2)) (xset (fun y : DBase => y.Tables) (fun z => (⟨z⟩ : DBase)) x2 n.toNat t.toNat l1) none, bx rpDLayout 36 b (⟨[]⟩ : DLayout), bx rpOLayout_0 36 b1 (mkOLayout_0 (⟨[]⟩ : DLayout) (oslV (i.h 0).1 (i.h 0).2 r.Parts.length))] _ from ?_)
          refine RG.nil ?_
          refine AT.in_normal ?_
          refine AT.next ?_
          refine CG.region ?_
          refine RG.op (ok_move (ht rfl)) rfl ?_
          refine RG.op (ok_add (ht rfl) hI) rfl ?_
          refine RG.op (ok_assign (ht rfl)) rfl ?_
          refine RG.nil ?_
          refine AT.front2 ?_
          refine AT.front2 ?_
          exact AT.round (LG.sub (ih2 (IntKind.i64.wrap (i1 + (1 : Int))) (xset (fun y : DBase => y.Tables) (fun z => (⟨z⟩ : DBase)) x2 n.toNat t.toNat l1) (gset g2 n.toNat t.toNat (((sg 29).h 0).1, ((sg 29).h 0).2)) h) ⟨rfl, rfl, rfl, rfl, rfl, rfl, rfl, rfl, rfl, rfl, rfl, trivial⟩)
        · have h := cf h hc
          refine CG.skip ?_
          refine AT.in_normal ?_
          refine AT.next ?_
          refine CG.region ?_
          refine RG.op (ok_move (ht rfl)) rfl ?_
          refine RG.op (ok_add (ht rfl) hI) rfl ?_
          refine RG.op (ok_assign (ht rfl)) rfl ?_
          refine RG.nil ?_
          exact AT.round (LG.sub (ih2 (IntKind.i64.wrap (i1 + (1 : Int))) x2 g2 h) ⟨rfl, rfl, rfl, rfl, rfl, rfl, rfl, rfl, rfl, rfl, rfl, trivial⟩)
      · have h := cf h hc
        refine CG.exit ?_
        refine AT.then_exit (AT.then_exit (AT.in_exit ?_))
        refine AT.in_normal ?_
        refine AT.next ?_
        refine CG.region ?_
        refine RG.op (ok_move (ht rfl)) rfl ?_
        refine RG.op (ok_add (ht rfl) hI) rfl ?_
        refine RG.op (ok_assign (ht rfl)) rfl ?_
        refine RG.nil ?_
        exact AT.round (LG.sub (ih1 (IntKind.i64.wrap (t + (1 : Int))) x2 g2 h) ⟨rfl, rfl, rfl, rfl, rfl, rfl, rfl, rfl, rfl, rfl, trivial⟩)
    · have h := cf h hc
      refine CG.exit ?_
      refine AT.then_exit (AT.then_exit (AT.in_exit ?_))
      refine AT.in_normal ?_
      refine AT.next ?_
      refine CG.region ?_
      refine RG.op (ok_move (ht rfl)) rfl ?_
      refine RG.op (ok_add (ht rfl) hI) rfl ?_
      refine RG.op (ok_assign (ht rfl)) rfl ?_
      refine RG.nil ?_
      exact AT.round (LG.sub (ih (IntKind.i64.wrap (n + (1 : Int))) x1 g1 h) ⟨rfl, rfl, rfl, rfl, rfl, rfl, rfl, rfl, rfl, trivial⟩)
  · have h := cf h hc
    refine CG.exit ?_
    refine AT.then_exit (AT.then_exit (AT.in_exit ?_))
    refine AT.next ?_
    refine CG.seq ?_
    obtain ⟨e5, q_e5, h⟩ := bs h
    obtain ⟨e6, q_e6, h⟩ := bs h
    refine CG.front2 ?_
    refine CG.openN (i := (IntKind.i64.wrap (to1 - (1 : Int)))) (j := table) q_e5 q_e6 ?_
    obtain ⟨e7, q_e7, h⟩ := bs h
    obtain ⟨e8, q_e8, h⟩ := bs h
    obtain ⟨e9, q_e9, h⟩ := bs h
    obtain ⟨l2, q_l2, h⟩ := bs h
    refine CG.drawS 33 [tc (tV (bptr b1 0)), tc (tV (oslV (i.h 0).1 (i.h 0).2 r.Parts.length)), tc (tD (rI .i64) to1), tc (tD (rI .i64) (IntKind.i64.wrap (to1 - (1 : Int)))), tc (tV (eptr (i.h 0).1 (IntKind.i64.wrap (to1 - (1 : Int))).toNat)), tc (tV (eptr (i.h 0).1 (IntKind.i64.wrap (to1 - (1 : Int))).toNat)), tc (tV (oslV (g (IntKind.i64.wrap (to1 - (1 : Int))).toNat).1.1 (g (IntKind.i64.wrap (to1 - (1 : Int))).toNat).1.2 e5.Tables.length)), tc (tD (rI .i64) table), tc (tV (bptr b1 0)), tc (tV (oslV (i.h 0).1 (i.h 0).2 r.Parts.length)), tc (tD (rI .i64) to1), tc (tD (rI .i64) (IntKind.i64.wrap (to1 - (1 : Int)))), tc (tV (eptr (i.h 0).1 (IntKind.i64.wrap (to1 - (1 : Int))).toNat)), tc (tV (eptr (i.h 0).1 (IntKind.i64.wrap (to1 - (1 : Int))).toNat)), tc (tV (oslV (g (IntKind.i64.wrap (to1 - (1 : Int))).toNat).1.1 (g (IntKind.i64.wrap (to1 - (1 : Int))).toNat).1.2 e5.Tables.length)), tc (tD (rI .i64) table), tc (tV (eptr (g (IntKind.i64.wrap (to1 - (1 : Int))).toNat).1.1 table.toNat)), tc (tO (rSl rpDValue) ((g (IntKind.i64.wrap (to1 - (1 : Int))).toNat).2 table.toNat).1 ((g (IntKind.i64.wrap (to1 - (1 : Int))).toNat).2 table.toNat).2 e6), tc (tPtr (rSl rpDBase) l.Parts), tc (tD (rSl rpDBase) l.Parts), tc (tD (rI .i64) from1), tc (tD (rI .i64) (IntKind.i64.wrap (from1 - (1 : Int)))), tc (tPtr rpDBase e7), tc (tPtr (rSl (rSl (rSl rpDValue))) e7.Tables), tc (tD (rSl (rSl (rSl rpDValue))) e7.Tables), tc (tD (rI .i64) table), tc (tPtr (rSl (rSl rpDValue)) e8), tc (tD (rSl (rSl rpDValue)) e8), tc (tD (rI .i64) at1), tc (tPtr (rSl rpDValue) e9), tc (tD (rSl rpDValue) e9), tc (tD (rSl (rSl rpDValue)) ([e9])), ([32], fun s => tO (rSl rpDValue) ((s.getD 0 zoi).h 0).1 ((s.getD 0 zoi).h 0).2 l2)] [false, false, false, false, false, false, false, false, false, false, false, false, false, false, false, false, false, false, false, false, false, false, false, false, false, false, false, false, false, false, false, false, true] [fun _ => [tip (rSl rpDValue) 45 ((g (IntKind.i64.wrap (to1 - (1 : Int))).toNat).2 table.toNat).1 ((g (IntKind.i64.wrap (to1 - (1 : Int))).toNat).2 table.toNat).2 e6, nst (fun y : DBase => y.Tables) (rSl rpDValue) 27 54 45 (i.h 0).1 (i.h 0).2 r.Parts.length g x (some ((IntKind.i64.wrap (to1 - (1 : Int))).toNat, table.toNat)), bx rpDLayout 36 b (⟨[]⟩ : DLayout), bx rpOLayout_0 36 b1 (mkOLayout_0 (⟨[]⟩ : DLayout) (oslV (i.h 0).1 (i.h 0).2 r.Parts.length))], fun sg1 => [tip (rSl rpDValue) 45 ((sg1 32).h 0).1 ((sg1 32).h 0).2 l2, nst (fun y : DBase => y.Tables) (rSl rpDValue) 27 54 45 (i.h 0).1 (i.h 0).2 r.Parts.length g x (some ((IntKind.i64.wrap (to1 - (1 : Int))).toNat, table.toNat)), bx rpDLayout 36 b (⟨[]⟩ : DLayout), bx rpOLayout_0 36 b1 (mkOLayout_0 (⟨[]⟩ : DLayout) (oslV (i.h 0).1 (i.h 0).2 r.Parts.length))]] rfl mixed rfl rfl rfl rfl rfl
      ⟨⟨[⟨13, fun _ => tV (bptr b1 0), none⟩], _, 0, 1, rfl, ⟨(fun _ => rfl), trivial⟩, rfl, rfl, rfl, rfl, rfl, fun _ sg1 _ _ => OpG.plain rfl (ok_fieldAddrC (n := 0) fd36_0 rfl (ht rfl) rfl)⟩,
      ⟨⟨[⟨95, fun _ => tV (bptr b1 0), some 0⟩], _, 0, 1, rfl, ⟨(fun _ => rfl), trivial⟩, rfl, rfl, rfl, rfl, rfl, winS (fun sg1 => OpG.plain rfl (ok_loadFV (l := (i.h 0).1) (cap := (i.h 0).2) (n := r.Parts.length) ti34 flOLayout_0_0 (.tail _ (.tail _ (.tail _ (.head _)))) rfl (ht rfl))) (win1 (fun sg1 => OpG.plain rfl (ok_loadFV (l := (i.h 0).1) (cap := (i.h 0).2) (n := r.Parts.length) ti34 flOLayout_0_0 (.tail _ (.tail _ (.tail _ (.head _)))) rfl (ht rfl))))⟩,
      ⟨⟨[⟨5, fun _ => tD (rI .i64) to1, none⟩], _, 0, 1, rfl, ⟨(fun _ => rfl), trivial⟩, rfl, rfl, rfl, rfl, rfl, fun _ sg1 _ _ => OpG.plain rfl (ok_move (ht rfl))⟩,
      ⟨⟨[⟨97, fun _ => tD (rI .i64) to1, some 2⟩], _, 0, 1, rfl, ⟨(fun _ => rfl), trivial⟩, rfl, rfl, rfl, rfl, rfl, fun _ sg1 _ _ => OpG.plain rfl (ok_sub (ht rfl) hI)⟩,
      ⟨⟨[⟨96, fun _ => tV (oslV (i.h 0).1 (i.h 0).2 r.Parts.length), some 1⟩, ⟨98, fun _ => tD (rI .i64) (IntKind.i64.wrap (to1 - (1 : Int))), some 3⟩], _, 0, 1, rfl, ⟨(fun _ => rfl), (fun _ => rfl), trivial⟩, rfl, rfl, rfl, rfl, rfl, winS (fun sg1 => OpG.plain rfl (ok_idxN1 Tryz.underlying34 ti27 (.tail _ (.head _)) (ht rfl) (ht rfl) q_e5)) (win1 (fun sg1 => OpG.plain rfl (ok_idxN1 Tryz.underlying34 ti27 (.tail _ (.head _)) (ht rfl) (ht rfl) q_e5)))⟩,
      ⟨⟨[⟨99, fun _ => tV (eptr (i.h 0).1 (IntKind.i64.wrap (to1 - (1 : Int))).toNat), some 4⟩], _, 0, 1, rfl, ⟨(fun _ => rfl), trivial⟩, rfl, rfl, rfl, rfl, rfl, winS (fun sg1 => OpG.plain rfl (ok_faN fd27_0 rfl (nst_some1 (.tail _ (.head _)) q_e5) (ht rfl))) (win1 (fun sg1 => OpG.plain rfl (ok_faN fd27_0 rfl (nst_some1 (.tail _ (.head _)) q_e5) (ht rfl))))⟩,
      ⟨⟨[⟨100, fun _ => tV (eptr (i.h 0).1 (IntKind.i64.wrap (to1 - (1 : Int))).toNat), some 5⟩], _, 0, 1, rfl, ⟨(fun _ => rfl), trivial⟩, rfl, rfl, rfl, rfl, rfl, winS (fun sg1 => OpG.plain rfl (ok_ldN1 ti25 (.tail _ (.head _)) q_e5 (ht rfl))) (win1 (fun sg1 => OpG.plain rfl (ok_ldN1 ti25 (.tail _ (.head _)) q_e5 (ht rfl))))⟩,
      ⟨⟨[⟨2, fun _ => tD (rI .i64) table, none⟩], _, 0, 1, rfl, ⟨(fun _ => rfl), trivial⟩, rfl, rfl, rfl, rfl, rfl, fun _ sg1 _ _ => OpG.plain rfl (ok_move (ht rfl))⟩,
      ⟨⟨[⟨13, fun _ => tV (bptr b1 0), none⟩], _, 0, 0, rfl, ⟨(fun _ => rfl), trivial⟩, rfl, rfl, rfl, rfl, rfl, fun _ sg1 _ _ => OpG.plain rfl (ok_fieldAddrC (n := 0) fd36_0 rfl (ht rfl) rfl)⟩,
      ⟨⟨[⟨103, fun _ => tV (bptr b1 0), some 8⟩], _, 0, 0, rfl, ⟨(fun _ => rfl), trivial⟩, rfl, rfl, rfl, rfl, rfl, win1 (fun sg1 => OpG.plain rfl (ok_loadFV (l := (i.h 0).1) (cap := (i.h 0).2) (n := r.Parts.length) ti34 flOLayout_0_0 (.tail _ (.tail _ (.tail _ (.head _)))) rfl (ht rfl)))⟩,
      ⟨⟨[⟨5, fun _ => tD (rI .i64) to1, none⟩], _, 0, 0, rfl, ⟨(fun _ => rfl), trivial⟩, rfl, rfl, rfl, rfl, rfl, fun _ sg1 _ _ => OpG.plain rfl (ok_move (ht rfl))⟩,
      ⟨⟨[⟨105, fun _ => tD (rI .i64) to1, some 10⟩], _, 0, 0, rfl, ⟨(fun _ => rfl), trivial⟩, rfl, rfl, rfl, rfl, rfl, fun _ sg1 _ _ => OpG.plain rfl (ok_sub (ht rfl) hI)⟩,
      ⟨⟨[⟨104, fun _ => tV (oslV (i.h 0).1 (i.h 0).2 r.Parts.length), some 9⟩, ⟨106, fun _ => tD (rI .i64) (IntKind.i64.wrap (to1 - (1 : Int))), some 11⟩], _, 0, 0, rfl, ⟨(fun _ => rfl), (fun _ => rfl), trivial⟩, rfl, rfl, rfl, rfl, rfl, win1 (fun sg1 => OpG.plain rfl (ok_idxN1 Tryz.underlying34 ti27 (.tail _ (.head _)) (ht rfl) (ht rfl) q_e5))⟩,
      ⟨⟨[⟨107, fun _ => tV (eptr (i.h 0).1 (IntKind.i64.wrap (to1 - (1 : Int))).toNat), some 12⟩], _, 0, 0, rfl, ⟨(fun _ => rfl), trivial⟩, rfl, rfl, rfl, rfl, rfl, win1 (fun sg1 => OpG.plain rfl (ok_faN fd27_0 rfl (nst_some1 (.tail _ (.head _)) q_e5) (ht rfl)))⟩,
      ⟨⟨[⟨108, fun _ => tV (eptr (i.h 0).1 (IntKind.i64.wrap (to1 - (1 : Int))).toNat), some 13⟩], _, 0, 0, rfl, ⟨(fun _ => rfl), trivial⟩, rfl, rfl, rfl, rfl, rfl, win1 (fun sg1 => OpG.plain rfl (ok_ldN1 ti25 (.tail _ (.head _)) q_e5 (ht rfl)))⟩,
      ⟨⟨[⟨2, fun _ => tD (rI .i64) table, none⟩], _, 0, 0, rfl, ⟨(fun _ => rfl), trivial⟩, rfl, rfl, rfl, rfl, rfl, fun _ sg1 _ _ => OpG.plain rfl (ok_move (ht rfl))⟩,
      ⟨⟨[⟨109, fun _ => tV (oslV (g (IntKind.i64.wrap (to1 - (1 : Int))).toNat).1.1 (g (IntKind.i64.wrap (to1 - (1 : Int))).toNat).1.2 e5.Tables.length), some 14⟩, ⟨110, fun _ => tD (rI .i64) table, some 15⟩], _, 0, 0, rfl, ⟨(fun _ => rfl), (fun _ => rfl), trivial⟩, rfl, rfl, rfl, rfl, rfl, win1 (fun sg1 => OpG.plain rfl (ok_idxN2 (i := (IntKind.i64.wrap (to1 - (1 : Int)))) Tryz.underlying25 ti54 (.tail _ (.head _)) q_e5 (ht rfl) (ht rfl) q_e6))⟩,
      ⟨⟨[⟨111, fun _ => tV (eptr (g (IntKind.i64.wrap (to1 - (1 : Int))).toNat).1.1 table.toNat), some 16⟩], _, 0, 0, rfl, ⟨(fun _ => rfl), trivial⟩, rfl, rfl, rfl, rfl, rfl, win1 (fun sg1 => OpG.plain rfl (ok_ldN2 ti54 (.tail _ (.head _)) (.head _) q_e5 q_e6 (ht rfl)))⟩,
      ⟨⟨[⟨7, fun _ => tPtr rpDLayout l, none⟩], _, 0, 0, rfl, ⟨(fun _ => rfl), trivial⟩, rfl, rfl, rfl, rfl, rfl, fun _ sg1 _ _ => OpG.plain rfl (ok_fieldAddr fd36_0 rfl flDLayout_0 rfl (ht rfl))⟩,
      ⟨⟨[⟨113, fun _ => tPtr (rSl rpDBase) l.Parts, some 18⟩], _, 0, 0, rfl, ⟨(fun _ => rfl), trivial⟩, rfl, rfl, rfl, rfl, rfl, fun _ sg1 _ _ => OpG.plain rfl (ok_load ti34 rfl rfl (ht rfl))⟩,
      ⟨⟨[⟨3, fun _ => tD (rI .i64) from1, none⟩], _, 0, 0, rfl, ⟨(fun _ => rfl), trivial⟩, rfl, rfl, rfl, rfl, rfl, fun _ sg1 _ _ => OpG.plain rfl (ok_move (ht rfl))⟩,
      ⟨⟨[⟨115, fun _ => tD (rI .i64) from1, some 20⟩], _, 0, 0, rfl, ⟨(fun _ => rfl), trivial⟩, rfl, rfl, rfl, rfl, rfl, fun _ sg1 _ _ => OpG.plain rfl (ok_sub (ht rfl) hI)⟩,
      ⟨⟨[⟨114, fun _ => tD (rSl rpDBase) l.Parts, some 19⟩, ⟨116, fun _ => tD (rI .i64) (IntKind.i64.wrap (from1 - (1 : Int))), some 21⟩], _, 0, 0, rfl, ⟨(fun _ => rfl), (fun _ => rfl), trivial⟩, rfl, rfl, rfl, rfl, rfl, fun _ sg1 _ _ => OpG.plain rfl (ok_indexAddr Tryz.underlying34 ti27 rfl (ht rfl) (ht rfl) q_e7)⟩,
      ⟨⟨[⟨117, fun _ => tPtr rpDBase e7, some 22⟩], _, 0, 0, rfl, ⟨(fun _ => rfl), trivial⟩, rfl, rfl, rfl, rfl, rfl, fun _ sg1 _ _ => OpG.plain rfl (ok_fieldAddr fd27_0 rfl flDBase_0 rfl (ht rfl))⟩,
      ⟨⟨[⟨118, fun _ => tPtr (rSl (rSl (rSl rpDValue))) e7.Tables, some 23⟩], _, 0, 0, rfl, ⟨(fun _ => rfl), trivial⟩, rfl, rfl, rfl, rfl, rfl, fun _ sg1 _ _ => OpG.plain rfl (ok_load ti25 rfl rfl (ht rfl))⟩,
      ⟨⟨[⟨2, fun _ => tD (rI .i64) table, none⟩], _, 0, 0, rfl, ⟨(fun _ => rfl), trivial⟩, rfl, rfl, rfl, rfl, rfl, fun _ sg1 _ _ => OpG.plain rfl (ok_move (ht rfl))⟩,
      ⟨⟨[⟨119, fun _ => tD (rSl (rSl (rSl rpDValue))) e7.Tables, some 24⟩, ⟨120, fun _ => tD (rI .i64) table, some 25⟩], _, 0, 0, rfl, ⟨(fun _ => rfl), (fun _ => rfl), trivial⟩, rfl, rfl, rfl, rfl, rfl, fun _ sg1 _ _ => OpG.plain rfl (ok_indexAddr Tryz.underlying25 ti54 rfl (ht rfl) (ht rfl) q_e8)⟩,
      ⟨⟨[⟨121, fun _ => tPtr (rSl (rSl rpDValue)) e8, some 26⟩], _, 0, 0, rfl, ⟨(fun _ => rfl), trivial⟩, rfl, rfl, rfl, rfl, rfl, fun _ sg1 _ _ => OpG.plain rfl (ok_load ti54 rfl rfl (ht rfl))⟩,
      ⟨⟨[⟨4, fun _ => tD (rI .i64) at1, none⟩], _, 0, 0, rfl, ⟨(fun _ => rfl), trivial⟩, rfl, rfl, rfl, rfl, rfl, fun _ sg1 _ _ => OpG.plain rfl (ok_move (ht rfl))⟩,
      ⟨⟨[⟨122, fun _ => tD (rSl (rSl rpDValue)) e8, some 27⟩, ⟨123, fun _ => tD (rI .i64) at1, some 28⟩], _, 0, 0, rfl, ⟨(fun _ => rfl), (fun _ => rfl), trivial⟩, rfl, rfl, rfl, rfl, rfl, fun _ sg1 _ _ => OpG.plain rfl (ok_indexAddr Tryz.underlying54 ti45 rfl (ht rfl) (ht rfl) q_e9)⟩,
      ⟨⟨[⟨124, fun _ => tPtr (rSl rpDValue) e9, some 29⟩], _, 0, 0, rfl, ⟨(fun _ => rfl), trivial⟩, rfl, rfl, rfl, rfl, rfl, fun _ sg1 _ _ => OpG.plain rfl (ok_load ti45 rfl rfl (ht rfl))⟩,
      ⟨⟨[⟨125, fun _ => tD (rSl rpDValue) e9, some 30⟩], _, 0, 0, rfl, ⟨(fun _ => rfl), trivial⟩, rfl, rfl, rfl, rfl, rfl, fun _ sg1 _ _ => OpG.plain rfl (ok_buildSlice (r := (rSl rpDValue)) (ys := [e9]) (xs := [.tmp 125]) Tryz.underlying54 ti45 rfl rfl rfl rfl rfl ⟨(ht rfl), trivial⟩)⟩,
      ⟨⟨[⟨112, fun _ => tO (rSl rpDValue) ((g (IntKind.i64.wrap (to1 - (1 : Int))).toNat).2 table.toNat).1 ((g (IntKind.i64.wrap (to1 - (1 : Int))).toNat).2 table.toNat).2 e6, some 17⟩, ⟨126, fun _ => tD (rSl (rSl rpDValue)) ([e9]), some 31⟩], _, rfl, ⟨(fun _ => rfl), (fun _ => rfl), trivial⟩, rfl, rfl, rfl, fun sg1 => EffG.plain rfl (eff_appendT ti45 rfl rfl rfl rfl Tryz.underlying54 rfl (ht rfl) (ht rfl) q_l2)⟩,
      trivial⟩⟩⟩⟩⟩⟩⟩⟩⟩⟩⟩⟩⟩⟩⟩⟩⟩⟩⟩⟩⟩⟩⟩⟩⟩⟩⟩⟩⟩⟩⟩⟩⟩ (fun sg1 => ?_)
    refine (show RG _ _ _ _ [tip (rSl rpDValue) 45 ((sg1 32).h 0).1 ((sg1 32).h 0).2 l2, nst (fun y : DBase => y.Tables) (rSl rpDValue) 27 54 45 (i.h 0).1 (i.h 0).2 r.Parts.length g x (some ((IntKind.i64.wrap (to1 - (1 : Int))).toNat, table.toNat)), bx rpDLayout 36 b (⟨[]⟩ : DLayout), bx rpOLayout_0 36 b1 (mkOLayout_0 (⟨[]⟩ : DLayout) (oslV (i.h 0).1 (i.h 0).2 r.Parts.length))] _ from ?_)
    refine RG.op (ok_idxN2 (i := (IntKind.i64.wrap (to1 - (1 : Int)))) Tryz.underlying25 ti54 (.tail _ (.head _)) q_e5 (ht rfl) (ht rfl) q_e6) rfl ?_
    refine RG.eff0 (EffOK.fr1 (EffOK.fr1 (eff_stN (mk := (fun z => (⟨z⟩ : DBase))) (fun _ => rfl) ti54 q_e5 q_e6 (ht rfl) (tO_v (ht rfl))))) (fun _ => ?_)
    refine (show RG _ _ _ _ [nst (fun y : DBase => y.Tables) (rSl rpDValue) 27 54 45 (i.h 0).1 (i.h 0).2 r.Parts.length (gset g (IntKind.i64.wrap (to1 - (1 : Int))).toNat table.toNat (((sg1 32).h 0).1, ((sg1 32).h 0).2)) (xset (fun y : DBase => y.Tables) (fun z => (⟨z⟩ : DBase)) x (IntKind.i64.wrap (to1 - (1 : Int))).toNat table.toNat l2) none, bx rpDLayout 36 b (⟨[]⟩ : DLayout), bx rpOLayout_0 36 b1 (mkOLayout_0 (⟨[]⟩ : DLayout) (oslV (i.h 0).1 (i.h 0).2 r.Parts.length))] _ from ?_)
    refine RG.nil ?_
    refine AT.next ?_
    refine CG.seq ?_
    refine CG.region ?_
    refine RG.op (ok_loadH (r := rpOLayout_0) (y := mkOLayout_0 (⟨[]⟩ : DLayout) (oslV (i.h 0).1 (i.h 0).2 r.Parts.length)) (v := oslV (i.h 0).1 (i.h 0).2 r.Parts.length) ti36 rfl rfl (fun _ _ h => h.1) (.tail _ (.tail _ (.head _))) (ht rfl)) rfl ?_
    refine RG.settleN (q := rpDBase) (rl := rpDLayout) (y := (⟨(xset (fun y : DBase => y.Tables) (fun z => (⟨z⟩ : DBase)) x (IntKind.i64.wrap (to1 - (1 : Int))).toNat table.toNat l2)⟩ : DLayout)) rfl (fun _ _ _ h => h) 129 rfl (fun _ h => ⟨_, rfl, h⟩) ?_
    refine RG.storeB ti36 rfl sfld_whole rfl (ht rfl) (ht rfl) ?_
    refine RG.settleB 12 rfl ?_
    refine RG.nil ?_
    refine AT.next ?_
    refine CG.ret ?_
    refine AT.drop ?_
    cases so h
    exact AT.ret1c rfl ti36 rfl rfl rfl

set_option maxRecDepth 100000 in
theorem f5_ok (c : DCatalog) (l : DLayout) (s : DStep) {R : Bool} (h : law17_PlaceMoves c l s = some R) : Spec Tryz.prog 5 [tD rpDCatalog c, tD rpDLayout l, tD rpDStep s] (tD rB R) := by
  refine Spec.of Tryz.func5 rfl rfl rfl fun w0 S0 => ?_
  refine CG.seq ?_
  refine CG.region ?_
  refine RG.op (ok_box (ht rfl)) rfl ?_
  refine RG.op (ok_box (ht rfl)) rfl ?_
  refine RG.op (ok_box (ht rfl)) rfl ?_
  refine RG.op (ok_assign hB) rfl ?_
  refine RG.nil ?_
  refine AT.next ?_
  refine CG.seq ?_
  refine CG.seq ?_
  refine CG.region ?_
  obtain ⟨r, q_r, h⟩ := bs h
  refine RG.op (ok_call cb9 (f9_ok  q_r) trivial) rfl ?_
  refine RG.op (ok_not (ht rfl)) rfl ?_
  refine RG.nil ?_
  refine AT.next ?_
  refine CG.cond (ht rfl) (fun hc => ?_) (fun hc => ?_)
  · have h := ct h hc
    refine CG.seq ?_
    refine CG.region ?_
    refine RG.op (ok_assign hB) rfl ?_
    refine RG.nil ?_
    refine AT.next ?_
    refine CG.ret ?_
    refine AT.then_ret ?_
    cases so h
    exact AT.ret1 rfl rfl
  · have h := cf h hc
    refine CG.skip ?_
    refine AT.next ?_
    refine CG.seq ?_
    refine CG.seq ?_
    refine CG.region ?_
    refine RG.op (ok_load ti24 rfl rfl (ht rfl)) rfl ?_
    obtain ⟨r1, q_r1, h⟩ := bs h
    refine RG.op (ok_call cb10 (f10_ok _ q_r1) ⟨(ht rfl), trivial⟩) rfl ?_
    refine RG.op (ok_move (ht rfl)) rfl ?_
    obtain ⟨t, q_t, h⟩ := bs h
    refine RG.opGf rfl rfl rfl rfl (fun hg => ok_load ti36 rfl rfl (ht rfl)) ?_
    obtain ⟨r2, h1t, h0t⟩ := og q_t
    have q_r2g := fun hb => (h1t hb).1
    refine RG.opGf rfl rfl rfl rfl (fun hg => ok_call cb20 (f20_ok _ (q_r2g hg)) ⟨(htO rfl hg), trivial⟩) ?_
    refine RG.op (ok_pickOrM (ht rfl) (fun hb => (htO rfl (noti hb))) (fun hb => (h1t hb).2) h0t) rfl ?_
    refine RG.nil ?_
    refine AT.next ?_
    refine CG.cond (ht rfl) (fun hc => ?_) (fun hc => ?_)
    · have h := ct h hc
      refine CG.seq ?_
      refine CG.region ?_
      refine RG.op (ok_assign hB) rfl ?_
      refine RG.nil ?_
      refine AT.next ?_
      refine CG.ret ?_
      refine AT.then_ret ?_
      cases so h
      exact AT.ret1 rfl rfl
    · have h := cf h hc
      refine CG.skip ?_
      refine AT.next ?_
      refine CG.seq ?_
      refine CG.region ?_
      refine RG.op (ok_load ti36 rfl rfl (ht rfl)) rfl ?_
      refine RG.op (ok_fieldAddr fd47_1 rfl flDStep_1 rfl (ht rfl)) rfl ?_
      refine RG.op (ok_load ti3 rfl rfl (ht rfl)) rfl ?_
      refine RG.op (ok_fieldAddr fd47_0 rfl flDStep_0 rfl (ht rfl)) rfl ?_
      refine RG.op (ok_load ti3 rfl rfl (ht rfl)) rfl ?_
      obtain ⟨r3, q_r3, h⟩ := bs h
      refine RG.op (ok_call cb21 (f21_ok _ _ _ q_r3) ⟨(ht rfl), (ht rfl), (ht rfl), trivial⟩) rfl ?_
      refine RG.op (ok_assign (ht rfl)) rfl ?_
      refine RG.nil ?_
      refine AT.next ?_
      refine CG.seq ?_
      refine CG.region ?_
      refine RG.op (ok_load ti36 rfl rfl (ht rfl)) rfl ?_
      refine RG.op (ok_fieldAddr fd47_1 rfl flDStep_1 rfl (ht rfl)) rfl ?_
      refine RG.op (ok_load ti3 rfl rfl (ht rfl)) rfl ?_
      refine RG.op (ok_fieldAddr fd47_0 rfl flDStep_0 rfl (ht rfl)) rfl ?_
      refine RG.op (ok_load ti3 rfl rfl (ht rfl)) rfl ?_
      obtain ⟨r4, q_r4, h⟩ := bs h
      refine RG.op (ok_call cb22 (f22_ok _ _ _ q_r4) ⟨(ht rfl), (ht rfl), (ht rfl), trivial⟩) rfl ?_
      refine RG.op (ok_assign (ht rfl)) rfl ?_
      refine RG.nil ?_
      refine AT.next ?_
      refine CG.seq ?_
      refine CG.seq ?_
      refine CG.region ?_
      refine RG.op (ok_move (ht rfl)) rfl ?_
      refine RG.op (ok_lenSl Tryz.underlying54 (ht rfl)) rfl ?_
      refine RG.op (ok_move (ht rfl)) rfl ?_
      refine RG.op (ok_lenSl Tryz.underlying54 (ht rfl)) rfl ?_
      refine RG.op (ok_neqI (ht rfl) (ht rfl)) rfl ?_
      refine RG.nil ?_
      refine AT.next ?_
      refine CG.cond (ht rfl) (fun hc => ?_) (fun hc => ?_)
      · have h := ct h hc
        refine CG.seq ?_
        refine CG.region ?_
        refine RG.op (ok_assign hB) rfl ?_
        refine RG.nil ?_
        refine AT.next ?_
        refine CG.ret ?_
        refine AT.then_ret ?_
        cases so h
        exact AT.ret1 rfl rfl
      · have h := cf h hc
        refine CG.skip ?_
        refine AT.next ?_
        refine CG.seq ?_
        refine CG.region ?_
        refine RG.op (ok_load ti24 rfl rfl (ht rfl)) rfl ?_
        refine RG.op (ok_load ti36 rfl rfl (ht rfl)) rfl ?_
        refine RG.op (ok_fieldAddr fd47_0 rfl flDStep_0 rfl (ht rfl)) rfl ?_
        refine RG.op (ok_load ti3 rfl rfl (ht rfl)) rfl ?_
        refine RG.op (ok_fieldAddr fd47_1 rfl flDStep_1 rfl (ht rfl)) rfl ?_
        refine RG.op (ok_load ti3 rfl rfl (ht rfl)) rfl ?_
        refine RG.op (ok_fieldAddr fd47_2 rfl flDStep_2 rfl (ht rfl)) rfl ?_
        refine RG.op (ok_load ti3 rfl rfl (ht rfl)) rfl ?_
        refine RG.op (ok_fieldAddr fd47_3 rfl flDStep_3 rfl (ht rfl)) rfl ?_
        refine RG.op (ok_load ti3 rfl rfl (ht rfl)) rfl ?_
        obtain ⟨r5, q_r5, h⟩ := bs h
        refine RG.op (ok_call cb23 (f23_ok _ _ _ _ _ _ q_r5) ⟨(ht rfl), (ht rfl), (ht rfl), (ht rfl), (ht rfl), (ht rfl), trivial⟩) rfl ?_
        refine RG.op (ok_move (ht rfl)) rfl ?_
        refine RG.op (ok_extract rfl (ht rfl)) rfl ?_
        refine RG.op (ok_extract rfl (ht rfl)) rfl ?_
        refine RG.alloc (r := rpDLayout) (x := (⟨[]⟩ : DLayout)) ti36 (fun _ => zrDLayout _) rfl (fun b => ?_)
        refine RG.storeB ti36 rfl sfld_whole rfl (ht rfl) (ht rfl) ?_
        refine RG.settleB 9 rfl ?_
        refine RG.op (ok_assign (ht rfl)) rfl ?_
        refine RG.nil ?_
        refine AT.next ?_
        refine CG.seq ?_
        refine CG.seq ?_
        refine CG.region ?_
        refine RG.op (ok_load ti24 rfl rfl (ht rfl)) rfl ?_
        refine RG.op (ok_load ti36 rfl rfl (ht rfl)) rfl ?_
        obtain ⟨r6, q_r6, h⟩ := bs h
        refine RG.op (ok_call cb24 (f24_ok _ _ q_r6) ⟨(ht rfl), (ht rfl), trivial⟩) rfl ?_
        refine RG.op (ok_assign (ht rfl)) rfl ?_
        refine RG.nil ?_
        refine AT.next ?_
        refine CG.seq ?_
        refine CG.region ?_
        refine RG.op (ok_move (ht rfl)) rfl ?_
        refine RG.op (ok_neqI (ht rfl) hI) rfl ?_
        refine RG.nil ?_
        refine AT.next ?_
        refine CG.cond (ht rfl) (fun hc => ?_) (fun hc => ?_)
        · have h := ct h hc
          refine CG.seq ?_
          refine CG.region ?_
          refine RG.op (ok_fieldAddr fd36_0 rfl flDLayout_0 rfl (ht rfl)) rfl ?_
          refine RG.op (ok_load ti34 rfl rfl (ht rfl)) rfl ?_
          refine RG.op (ok_lenSl Tryz.underlying34 (ht rfl)) rfl ?_
          refine RG.op (ok_eqlI (ht rfl) hI) rfl ?_
          refine RG.op (ok_move (ht rfl)) rfl ?_
          refine RG.opGt rfl rfl rfl rfl (fun hg => ok_move (ht rfl)) ?_
          refine RG.opGt rfl rfl rfl rfl (fun hg => ok_move (ht rfl)) ?_
          refine RG.opGt rfl rfl rfl rfl (fun hg => ok_eqlI (htO rfl hg) (htO rfl hg)) ?_
          refine RG.op (ok_pickAnd (ht rfl) (fun hb => (htO rfl hb))) rfl ?_
          refine RG.op (ok_assign (ht rfl)) rfl ?_
          refine RG.nil ?_
          refine AT.next ?_
          refine CG.ret ?_
          refine AT.then_ret ?_
          cases so h
          exact AT.ret1 rfl rfl
        · have h := cf h hc
          refine CG.skip ?_
          refine AT.next ?_
          refine CG.seq ?_
          refine CG.seq ?_
          refine CG.region ?_
          refine RG.op (ok_move (ht rfl)) rfl ?_
          refine RG.op (ok_move (ht rfl)) rfl ?_
          obtain ⟨r7, q_r7, h⟩ := bs h
          refine RG.op (ok_call cb25 (f25_ok _ _ q_r7) ⟨(ht rfl), (ht rfl), trivial⟩) rfl ?_
          refine RG.op (ok_not (ht rfl)) rfl ?_
          refine RG.nil ?_
          refine AT.next ?_
          refine CG.cond (ht rfl) (fun hc => ?_) (fun hc => ?_)
          · have h := ct h hc
            refine CG.seq ?_
            refine CG.region ?_
            refine RG.op (ok_assign hB) rfl ?_
            refine RG.nil ?_
            refine AT.next ?_
            refine CG.ret ?_
            refine AT.then_ret ?_
            cases so h
            exact AT.ret1 rfl rfl
          · have h := cf h hc
            refine CG.skip ?_
            refine AT.next ?_
            refine CG.seq ?_
            refine CG.block ?_
            refine CG.seq ?_
            refine CG.region ?_
            refine RG.op (ok_fieldAddr fd47_0 rfl flDStep_0 rfl (ht rfl)) rfl ?_
            refine RG.op (ok_load ti3 rfl rfl (ht rfl)) rfl ?_
            refine RG.op (ok_lss (ht rfl) hI) rfl ?_
            refine RG.op (ok_move (ht rfl)) rfl ?_
            refine RG.opGf rfl rfl rfl rfl (fun hg => ok_fieldAddr fd47_0 rfl flDStep_0 rfl (ht rfl)) ?_
            refine RG.opGf rfl rfl rfl rfl (fun hg => ok_load ti3 rfl rfl (htO rfl hg)) ?_
            refine RG.opGf rfl rfl rfl rfl (fun hg => ok_fieldAddr fd24_0 rfl flDCatalog_0 rfl (ht rfl)) ?_
            refine RG.opGf rfl rfl rfl rfl (fun hg => ok_load ti22 rfl rfl (htO rfl hg)) ?_
            refine RG.opGf rfl rfl rfl rfl (fun hg => ok_lenSl Tryz.underlying22 (htO rfl hg)) ?_
            refine RG.opGf rfl rfl rfl rfl (fun hg => ok_geq (htO rfl hg) (htO rfl hg)) ?_
            refine RG.op (ok_pickOr (ht rfl) (fun hb => (htO rfl (noti hb)))) rfl ?_
            refine RG.op (ok_move (ht rfl)) rfl ?_
            refine RG.opGf rfl rfl rfl rfl (fun hg => ok_fieldAddr fd47_2 rfl flDStep_2 rfl (ht rfl)) ?_
            refine RG.opGf rfl rfl rfl rfl (fun hg => ok_load ti3 rfl rfl (htO rfl hg)) ?_
            refine RG.opGf rfl rfl rfl rfl (fun hg => ok_lss (htO rfl hg) hI) ?_
            refine RG.op (ok_pickOr (ht rfl) (fun hb => (htO rfl (noti hb)))) rfl ?_
            refine RG.op (ok_move (ht rfl)) rfl ?_
            refine RG.opGf rfl rfl rfl rfl (fun hg => ok_fieldAddr fd47_2 rfl flDStep_2 rfl (ht rfl)) ?_
            refine RG.opGf rfl rfl rfl rfl (fun hg => ok_load ti3 rfl rfl (htO rfl hg)) ?_
            refine RG.opGf rfl rfl rfl rfl (fun hg => ok_move (ht rfl)) ?_
            refine RG.opGf rfl rfl rfl rfl (fun hg => ok_lenSl Tryz.underlying54 (htO rfl hg)) ?_
            refine RG.opGf rfl rfl rfl rfl (fun hg => ok_geq (htO rfl hg) (htO rfl hg)) ?_
            refine RG.op (ok_pickOr (ht rfl) (fun hb => (htO rfl (noti hb)))) rfl ?_
            refine RG.op (ok_move (ht rfl)) rfl ?_
            refine RG.opGf rfl rfl rfl rfl (fun hg => ok_fieldAddr fd47_3 rfl flDStep_3 rfl (ht rfl)) ?_
            refine RG.opGf rfl rfl rfl rfl (fun hg => ok_load ti3 rfl rfl (htO rfl hg)) ?_
            refine RG.opGf rfl rfl rfl rfl (fun hg => ok_lss (htO rfl hg) hI) ?_
            refine RG.op (ok_pickOr (ht rfl) (fun hb => (htO rfl (noti hb)))) rfl ?_
            refine RG.op (ok_move (ht rfl)) rfl ?_
            refine RG.opGf rfl rfl rfl rfl (fun hg => ok_fieldAddr fd47_3 rfl flDStep_3 rfl (ht rfl)) ?_
            refine RG.opGf rfl rfl rfl rfl (fun hg => ok_load ti3 rfl rfl (htO rfl hg)) ?_
            refine RG.opGf rfl rfl rfl rfl (fun hg => ok_fieldAddr fd36_0 rfl flDLayout_0 rfl (ht rfl)) ?_
            refine RG.opGf rfl rfl rfl rfl (fun hg => ok_load ti34 rfl rfl (htO rfl hg)) ?_
            refine RG.opGf rfl rfl rfl rfl (fun hg => ok_lenSl Tryz.underlying34 (htO rfl hg)) ?_
            refine RG.opGf rfl rfl rfl rfl (fun hg => ok_gtr (htO rfl hg) (htO rfl hg)) ?_
            refine RG.op (ok_pickOr (ht rfl) (fun hb => (htO rfl (noti hb)))) rfl ?_
            refine RG.op (ok_assign (ht rfl)) rfl ?_
            refine RG.nil ?_
            refine AT.next ?_
            refine CG.cond (ht rfl) (fun hc => ?_) (fun hc => ?_)
            · have h := ct h hc
              refine CG.seq ?_
              refine CG.region ?_
              refine RG.op (ok_fieldAddr fd36_0 rfl flDLayout_0 rfl (ht rfl)) rfl ?_
              refine RG.op (ok_load ti34 rfl rfl (ht rfl)) rfl ?_
              refine RG.op (ok_lenSl Tryz.underlying34 (ht rfl)) rfl ?_
              refine RG.op (ok_eqlI (ht rfl) hI) rfl ?_
              refine RG.op (ok_move (ht rfl)) rfl ?_
              refine RG.opGt rfl rfl rfl rfl (fun hg => ok_move (ht rfl)) ?_
              refine RG.opGt rfl rfl rfl rfl (fun hg => ok_eqlI (htO rfl hg) hI) ?_
              refine RG.op (ok_pickAnd (ht rfl) (fun hb => (htO rfl hb))) rfl ?_
              refine RG.op (ok_assign (ht rfl)) rfl ?_
              refine RG.nil ?_
              refine AT.next ?_
              refine CG.ret ?_
              refine AT.in_ret (AT.then_ret ?_)
              cases so h
              exact AT.ret1 rfl rfl
            · have h := cf h hc
              refine CG.seq ?_
              refine CG.region ?_
              refine RG.op (ok_fieldAddr fd24_0 rfl flDCatalog_0 rfl (ht rfl)) rfl ?_
              refine RG.op (ok_load ti22 rfl rfl (ht rfl)) rfl ?_
              refine RG.op (ok_fieldAddr fd47_0 rfl flDStep_0 rfl (ht rfl)) rfl ?_
              refine RG.op (ok_load ti3 rfl rfl (ht rfl)) rfl ?_
              obtain ⟨e, q_e, h⟩ := bs h
              refine RG.op (ok_indexAddr Tryz.underlying22 ti53 rfl (ht rfl) (ht rfl) q_e) rfl ?_
              refine RG.op (ok_fieldAddr fd53_2 rfl flDTable_2 rfl (ht rfl)) rfl ?_
              refine RG.op (ok_load ti28 rfl rfl (ht rfl)) rfl ?_
              refine RG.op (ok_lenSl Tryz.underlying28 (ht rfl)) rfl ?_
              refine RG.op (ok_gtr (ht rfl) hI) rfl ?_
              refine RG.op (ok_move (ht rfl)) rfl ?_
              refine RG.opGt rfl rfl rfl rfl (fun hg => ok_fieldAddr fd47_3 rfl flDStep_3 rfl (ht rfl)) ?_
              refine RG.opGt rfl rfl rfl rfl (fun hg => ok_load ti3 rfl rfl (htO rfl hg)) ?_
              refine RG.opGt rfl rfl rfl rfl (fun hg => ok_fieldAddr fd47_1 rfl flDStep_1 rfl (ht rfl)) ?_
              refine RG.opGt rfl rfl rfl rfl (fun hg => ok_load ti3 rfl rfl (htO rfl hg)) ?_
              refine RG.opGt rfl rfl rfl rfl (fun hg => ok_neqI (htO rfl hg) (htO rfl hg)) ?_
              refine RG.op (ok_pickAnd (ht rfl) (fun hb => (htO rfl hb))) rfl ?_
              refine RG.op (ok_assign (ht rfl)) rfl ?_
              refine RG.nil ?_
              refine AT.next ?_
              refine CG.cond (ht rfl) (fun hc => ?_) (fun hc => ?_)
              · have h := ct h hc
                refine CG.seq ?_
                refine CG.region ?_
                refine RG.op (ok_fieldAddr fd36_0 rfl flDLayout_0 rfl (ht rfl)) rfl ?_
                refine RG.op (ok_load ti34 rfl rfl (ht rfl)) rfl ?_
                refine RG.op (ok_lenSl Tryz.underlying34 (ht rfl)) rfl ?_
                refine RG.op (ok_eqlI (ht rfl) hI) rfl ?_
                refine RG.op (ok_move (ht rfl)) rfl ?_
                refine RG.opGt rfl rfl rfl rfl (fun hg => ok_move (ht rfl)) ?_
                refine RG.opGt rfl rfl rfl rfl (fun hg => ok_eqlI (htO rfl hg) hI) ?_
                refine RG.op (ok_pickAnd (ht rfl) (fun hb => (htO rfl hb))) rfl ?_
                refine RG.op (ok_assign (ht rfl)) rfl ?_
                refine RG.nil ?_
                refine AT.next ?_
                refine CG.ret ?_
                refine AT.in_ret (AT.then_ret ?_)
                cases so h
                exact AT.ret1 rfl rfl
              · have h := cf h hc
                refine CG.skip ?_
                refine AT.in_normal ?_
                refine AT.next ?_
                refine CG.seq ?_
                obtain ⟨t1, q_t1, h⟩ := bs h
                obtain ⟨r8, h1t1, h0t1⟩ := og q_t1
                have q_r8g := fun hb => (h1t1 hb).1
                obtain ⟨r9, h1t1⟩ := og2 (fun hb => (h1t1 hb).2)
                have q_r9g := fun hb => (h1t1 hb).1
                refine CG.draw (ts := [tD (rI .i64) r5.2, tD rB (r5.2 == (0 : Int)), tD rB (r5.2 == (0 : Int)), tOpt (r5.2 == (0 : Int)) (tD rpDLayout r5.1), tOpt (r5.2 == (0 : Int)) (tD rpDCatalog c), tOpt (r5.2 == (0 : Int)) (tD rpDLayout l), tOpt (r5.2 == (0 : Int)) (tPtr (rI .i64) s.Table), tOpt (r5.2 == (0 : Int)) (tD (rI .i64) s.Table), tOpt (r5.2 == (0 : Int)) (tPtr (rI .i64) s.From), tOpt (r5.2 == (0 : Int)) (tD (rI .i64) s.From), tOpt (r5.2 == (0 : Int)) (tPtr (rI .i64) s.At), tOpt (r5.2 == (0 : Int)) (tD (rI .i64) s.At), tOpt (r5.2 == (0 : Int)) (tPtr (rI .i64) s.To), tOpt (r5.2 == (0 : Int)) (tD (rI .i64) s.To), tOpt (r5.2 == (0 : Int)) (tD rpDLayout r8), tOpt (r5.2 == (0 : Int)) (tD rB r9), tD rB t1, tD rB t1]) mixed rfl rfl
                  ⟨⟨[⟨10, _, none⟩], _, rfl, ⟨rfl, trivial⟩, rfl, rfl, OpG.plain rfl (ok_move (ht rfl))⟩,
                  ⟨⟨[⟨139, _, some 0⟩], _, rfl, ⟨rfl, trivial⟩, rfl, rfl, OpG.plain rfl (ok_eqlI (ht rfl) hI)⟩,
                  ⟨⟨[⟨140, _, some 1⟩], _, rfl, ⟨rfl, trivial⟩, rfl, rfl, OpG.plain rfl (ok_move (ht rfl))⟩,
                  ⟨⟨[⟨9, _, none⟩, ⟨141, _, some 2⟩], _, rfl, ⟨rfl, rfl, trivial⟩, rfl, rfl, OpG.gt rfl rfl rfl rfl (fun hg => ok_load ti36 rfl rfl (ht rfl))⟩,
                  ⟨⟨[⟨3, _, none⟩, ⟨141, _, some 2⟩], _, rfl, ⟨rfl, rfl, trivial⟩, rfl, rfl, OpG.gt rfl rfl rfl rfl (fun hg => ok_load ti24 rfl rfl (ht rfl))⟩,
                  ⟨⟨[⟨4, _, none⟩, ⟨141, _, some 2⟩], _, rfl, ⟨rfl, rfl, trivial⟩, rfl, rfl, OpG.gt rfl rfl rfl rfl (fun hg => ok_load ti36 rfl rfl (ht rfl))⟩,
                  ⟨⟨[⟨5, _, none⟩, ⟨141, _, some 2⟩], _, rfl, ⟨rfl, rfl, trivial⟩, rfl, rfl, OpG.gt rfl rfl rfl rfl (fun hg => ok_fieldAddr fd47_0 rfl flDStep_0 rfl (ht rfl))⟩,
                  ⟨⟨[⟨145, _, some 6⟩, ⟨141, _, some 2⟩], _, rfl, ⟨rfl, rfl, trivial⟩, rfl, rfl, OpG.gt rfl rfl rfl rfl (fun hg => ok_load ti3 rfl rfl (htO rfl hg))⟩,
                  ⟨⟨[⟨5, _, none⟩, ⟨141, _, some 2⟩], _, rfl, ⟨rfl, rfl, trivial⟩, rfl, rfl, OpG.gt rfl rfl rfl rfl (fun hg => ok_fieldAddr fd47_1 rfl flDStep_1 rfl (ht rfl))⟩,
                  ⟨⟨[⟨147, _, some 8⟩, ⟨141, _, some 2⟩], _, rfl, ⟨rfl, rfl, trivial⟩, rfl, rfl, OpG.gt rfl rfl rfl rfl (fun hg => ok_load ti3 rfl rfl (htO rfl hg))⟩,
                  ⟨⟨[⟨5, _, none⟩, ⟨141, _, some 2⟩], _, rfl, ⟨rfl, rfl, trivial⟩, rfl, rfl, OpG.gt rfl rfl rfl rfl (fun hg => ok_fieldAddr fd47_2 rfl flDStep_2 rfl (ht rfl))⟩,
                  ⟨⟨[⟨149, _, some 10⟩, ⟨141, _, some 2⟩], _, rfl, ⟨rfl, rfl, trivial⟩, rfl, rfl, OpG.gt rfl rfl rfl rfl (fun hg => ok_load ti3 rfl rfl (htO rfl hg))⟩,
                  ⟨⟨[⟨5, _, none⟩, ⟨141, _, some 2⟩], _, rfl, ⟨rfl, rfl, trivial⟩, rfl, rfl, OpG.gt rfl rfl rfl rfl (fun hg => ok_fieldAddr fd47_3 rfl flDStep_3 rfl (ht rfl))⟩,
                  ⟨⟨[⟨151, _, some 12⟩, ⟨141, _, some 2⟩], _, rfl, ⟨rfl, rfl, trivial⟩, rfl, rfl, OpG.gt rfl rfl rfl rfl (fun hg => ok_load ti3 rfl rfl (htO rfl hg))⟩,
                  ⟨⟨[⟨143, _, some 4⟩, ⟨144, _, some 5⟩, ⟨146, _, some 7⟩, ⟨148, _, some 9⟩, ⟨150, _, some 11⟩, ⟨152, _, some 13⟩, ⟨141, _, some 2⟩], _, rfl, ⟨rfl, rfl, rfl, rfl, rfl, rfl, rfl, trivial⟩, rfl, rfl, OpG.gt rfl rfl rfl rfl (fun hg => ok_call cb26 (f26_ok _ _ _ _ _ _ (q_r8g hg)) ⟨(htO rfl hg), (htO rfl hg), (htO rfl hg), (htO rfl hg), (htO rfl hg), (htO rfl hg), trivial⟩)⟩,
                  ⟨⟨[⟨142, _, some 3⟩, ⟨153, _, some 14⟩, ⟨141, _, some 2⟩], _, rfl, ⟨rfl, rfl, rfl, trivial⟩, rfl, rfl, OpG.gt rfl rfl rfl rfl (fun hg => ok_call cb15 (f15_ok _ _ (q_r9g hg)) ⟨(htO rfl hg), (htO rfl hg), trivial⟩)⟩,
                  ⟨⟨[⟨141, _, some 2⟩, ⟨154, _, some 15⟩], _, rfl, ⟨rfl, rfl, trivial⟩, rfl, rfl, OpG.plain rfl (ok_pickAndM (ht rfl) (fun hb => (htO rfl hb)) (fun hb => (h1t1 hb).2) h0t1)⟩,
                  ⟨⟨[⟨155, _, some 16⟩], _, rfl, ⟨rfl, trivial⟩, rfl, rfl, OpG.plain rfl (ok_assign (ht rfl))⟩,
                  trivial⟩⟩⟩⟩⟩⟩⟩⟩⟩⟩⟩⟩⟩⟩⟩⟩⟩⟩ ?_
                refine AT.next ?_
                refine CG.ret ?_
                cases so h
                exact AT.ret1 rfl rfl

end Go.Proofs.YtegigakgcnhiaaaGreatDoor

