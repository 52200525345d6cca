/- Facts of this claim: P1. -/
import Derived.Test.YtbhkincjkpeaoaaDoT
import Derived.Test.YtbhkincjkpeaoaaDoP0
namespace Go.Proofs.Ytbhkincjkpeaoaa
open Go

set_option maxRecDepth 100000 in
theorem f31_ok (e : DExpr) {R : Int} (h : expr_Check e = some R) : Spec Try.prog 31 [tD rpDExpr e] (tD (rI .i64) R) := by
  refine Spec.of Try.func31 rfl rfl rfl fun w0 S0 => ?_
  refine CG.seq ?_
  refine CG.region ?_
  refine RG.op (ok_box (ht rfl)) rfl ?_
  refine RG.op (ok_assign hI) rfl ?_
  refine RG.nil ?_
  refine AT.next ?_
  refine CG.seq ?_
  refine CG.seq ?_
  refine CG.region ?_
  refine RG.op (ok_load ti28 rfl rfl (ht rfl)) rfl ?_
  obtain ⟨r, q_r, h⟩ := bs h
  refine RG.op (ok_call cb55 (f55_ok _ q_r) ⟨(ht rfl), trivial⟩) rfl ?_
  refine RG.op (ok_move (ht rfl)) rfl ?_
  refine RG.op (ok_extract rfl (ht rfl)) rfl ?_
  refine RG.op (ok_extract rfl (ht rfl)) rfl ?_
  refine RG.op (ok_assign (ht rfl)) rfl ?_
  refine RG.op (ok_assign (ht rfl)) rfl ?_
  refine RG.nil ?_
  refine AT.next ?_
  refine CG.seq ?_
  refine CG.region ?_
  refine RG.op (ok_move (ht rfl)) rfl ?_
  refine RG.op (ok_not (ht rfl)) rfl ?_
  refine RG.nil ?_
  refine AT.next ?_
  refine CG.cond (ht rfl) (fun hc => ?_) (fun hc => ?_)
  · have h := ct h hc
    refine CG.seq ?_
    refine CG.region ?_
    refine RG.op (ok_assign hI) rfl ?_
    refine RG.nil ?_
    refine AT.next ?_
    refine CG.ret ?_
    refine AT.then_ret ?_
    cases so h
    exact AT.ret1 rfl rfl
  · have h := cf h hc
    refine CG.skip ?_
    refine AT.next ?_
    refine CG.seq ?_
    refine CG.region ?_
    refine RG.op (ok_assign hI) rfl ?_
    refine RG.nil ?_
    refine AT.next ?_
    refine CG.ret ?_
    cases so h
    exact AT.ret1 rfl rfl

set_option maxRecDepth 100000 in
theorem f28_m (l : Option Nat) (c : Nat) (s : (List Int)) {R : (List Int)} (h : slices_Compact_int_int s = some R) : SpecM Try.prog 28 [tV (oslV l c s.length)] [arr (rI .i64) 3 l c s] (fun i : OI => tV (oslV (i.h 0).1 (i.h 0).2 R.length)) (fun i => [arr (rI .i64) 3 (i.h 0).1 (i.h 0).2 R]) := by
  refine SpecM.of Try.func28 rfl rfl rfl fun w0 S0 => ?_
  refine CG.seq ?_
  refine CG.region ?_
  refine RG.fresh false (rI .i64) 3 ?_
  refine RG.op (ok_assign hVn) rfl ?_
  refine RG.nil ?_
  refine AT.next ?_
  refine CG.seq ?_
  refine CG.seq ?_
  refine CG.region ?_
  refine RG.op (ok_move (ht rfl)) rfl ?_
  refine RG.op (ok_lenO Try.underlying25 (.tail _ (.head _)) (ht rfl)) rfl ?_
  refine RG.op (ok_lss (ht rfl) hI) rfl ?_
  refine RG.nil ?_
  refine AT.next ?_
  refine CG.cond (ht rfl) (fun hc => ?_) (fun hc => ?_)
  · have h := ct h hc
    refine CG.seq ?_
    refine CG.region ?_
    refine RG.op (ok_move (ht rfl)) rfl ?_
    refine RG.op (ok_assign (ht rfl)) rfl ?_
    refine RG.nil ?_
    refine AT.next ?_
    refine CG.ret ?_
    refine AT.then_ret ?_
    refine AT.drop ?_
    cases so h
    exact AT.retM1 rfl (oi l c) rfl rfl (fun _ _ h => h)
  · have h := cf h hc
    refine CG.skip ?_
    refine AT.next ?_
    refine CG.seq ?_
    refine CG.seq ?_
    refine CG.region ?_
    refine RG.op (ok_assign hI) rfl ?_
    refine RG.nil ?_
    refine AT.next ?_
    refine CG.block ?_
    refine CG.have_lenA (.tail _ (.head _)) (fun hN => ?_)
    refine CG.loop ?_
    refine LG.drop ?_
    refine LG.sub (LG.list1 (Z := fun ls i  => (s.drop i = ls) ∧ slices_Compact_int_int_l1 s ls i  = some R) (Of := fun _ i  => [arr (rI .i64) 3 l c s]) (Gf := fun _ i  => [(0, tV (oslV l c s.length)), (3, tD (rI .i64) (i : Int))]) (fun i  h => ?_) (fun e tl ih i  h => ?_) (s.drop (1)) 1  ⟨rfl, h⟩) ⟨rfl, rfl, trivial⟩
    · obtain ⟨hx, h⟩ := h
      refine LG.unfold ?_
      refine CG.seq ?_
      refine CG.seq ?_
      refine CG.region ?_
      refine RG.op (ok_move (ht rfl)) rfl ?_
      refine RG.op (ok_move (ht rfl)) rfl ?_
      refine RG.op (ok_lenO Try.underlying25 (.head _) (ht rfl)) rfl ?_
      refine RG.op (ok_lss (ht rfl) (ht rfl)) rfl ?_
      refine RG.nil ?_
      refine AT.next ?_
      refine CG.condF (ht rfl) (dropF hx) ?_
      refine CG.exit ?_
      refine AT.then_exit (AT.then_exit (AT.in_exit ?_))
      refine AT.next ?_
      refine CG.seq ?_
      refine CG.region ?_
      refine RG.op (ok_move (ht rfl)) rfl ?_
      refine RG.op (ok_assign (ht rfl)) rfl ?_
      refine RG.nil ?_
      refine AT.next ?_
      refine CG.ret ?_
      cases so h
      exact AT.retM1 rfl (oi l c) rfl rfl (fun _ _ h => h)
    · obtain ⟨hx, h⟩ := h
      refine LG.unfold ?_
      refine CG.seq ?_
      refine CG.seq ?_
      refine CG.region ?_
      refine RG.op (ok_move (ht rfl)) rfl ?_
      refine RG.op (ok_move (ht rfl)) rfl ?_
      refine RG.op (ok_lenO Try.underlying25 (.head _) (ht rfl)) rfl ?_
      refine RG.op (ok_lss (ht rfl) (ht rfl)) rfl ?_
      refine RG.nil ?_
      refine AT.next ?_
      refine CG.condT (ht rfl) (dropT hx) ?_
      refine CG.skip ?_
      refine AT.next ?_
      refine CG.seq ?_
      refine CG.block ?_
      refine CG.seq ?_
      obtain ⟨e1, q_e1, h⟩ := bs h
      refine CG.draw (ts := [tV (oslV l c s.length), tD (rI .i64) (i : Int), tV (eptr l ((i : Int).toNat * 1 + 0)), tD (rI .i64) e, tV (oslV l c s.length), tD (rI .i64) (i : Int), tD (rI .i64) (IntKind.i64.wrap ((i : Int) - (1 : Int))), tV (eptr l ((IntKind.i64.wrap ((i : Int) - (1 : Int))).toNat * 1 + 0)), tD (rI .i64) e1, tD rB (e == e1)]) mixed rfl rfl
        ⟨⟨[⟨0, _, none⟩], _, rfl, ⟨rfl, trivial⟩, rfl, rfl, OpG.plain rfl (ok_move (ht rfl))⟩,
        ⟨⟨[⟨3, _, none⟩], _, rfl, ⟨rfl, trivial⟩, rfl, rfl, OpG.plain rfl (ok_move (ht rfl))⟩,
        ⟨⟨[⟨16, _, some 0⟩, ⟨17, _, some 1⟩], _, rfl, ⟨rfl, rfl, trivial⟩, rfl, rfl, OpG.plain rfl (ok_indexAddrO Try.underlying25 ti3 (.head _) (ht rfl) (ht rfl) (dropI hx))⟩,
        ⟨⟨[⟨18, _, some 2⟩], _, rfl, ⟨rfl, trivial⟩, rfl, rfl, OpG.plain rfl (ok_loadE (r := (rI .i64)) (i := (i : Int)) (foff := 0) ti3 rfl rfl fld_whole rfl (.head _) (dropI hx) (ht rfl))⟩,
        ⟨⟨[⟨0, _, none⟩], _, rfl, ⟨rfl, trivial⟩, rfl, rfl, OpG.plain rfl (ok_move (ht rfl))⟩,
        ⟨⟨[⟨3, _, none⟩], _, rfl, ⟨rfl, trivial⟩, rfl, rfl, OpG.plain rfl (ok_move (ht rfl))⟩,
        ⟨⟨[⟨21, _, some 5⟩], _, rfl, ⟨rfl, trivial⟩, rfl, rfl, OpG.plain rfl (ok_sub (ht rfl) hI)⟩,
        ⟨⟨[⟨20, _, some 4⟩, ⟨22, _, some 6⟩], _, rfl, ⟨rfl, rfl, trivial⟩, rfl, rfl, OpG.plain rfl (ok_indexAddrO Try.underlying25 ti3 (.head _) (ht rfl) (ht rfl) q_e1)⟩,
        ⟨⟨[⟨23, _, some 7⟩], _, rfl, ⟨rfl, trivial⟩, rfl, rfl, OpG.plain rfl (ok_loadE (r := (rI .i64)) (i := (IntKind.i64.wrap ((i : Int) - (1 : Int)))) (foff := 0) ti3 rfl rfl fld_whole rfl (.head _) q_e1 (ht rfl))⟩,
        ⟨⟨[⟨19, _, some 3⟩, ⟨24, _, some 8⟩], _, rfl, ⟨rfl, rfl, trivial⟩, rfl, rfl, OpG.plain rfl (ok_eqlI (ht rfl) (ht rfl))⟩,
        trivial⟩⟩⟩⟩⟩⟩⟩⟩⟩⟩ ?_
      refine AT.next ?_
      refine CG.cond (ht rfl) (fun hc => ?_) (fun hc => ?_)
      · have h := ct h hc
        refine CG.seq ?_
        refine CG.region ?_
        refine RG.op (ok_move (ht rfl)) rfl ?_
        refine RG.op (ok_move (ht rfl)) rfl ?_
        obtain ⟨y, q_y, h⟩ := bs h
        refine RG.op (ok_sliceLoO Try.underlying25 ti3 rfl (.head _) (ht rfl) (ht rfl) q_y) rfl ?_
        refine RG.have_view (.head _) q_y (fun hv => ?_)
        refine RG.op (ok_assign (ht rfl)) rfl ?_
        refine RG.nil ?_
        refine AT.next ?_
        refine CG.seq ?_
        refine CG.seq ?_
        refine CG.region ?_
        refine RG.op (ok_assign hI) rfl ?_
        refine RG.nil ?_
        refine AT.next ?_
        refine CG.block ?_
        refine CG.loop ?_
        refine LG.sub (LG.nat3 (Z := fun k1 i1 s1 k => (y.length - i1 = k1) ∧ slices_Compact_int_int_l2 i y k1 i1 s1 k = some R) (Of := fun _ i1 s1 k => [arr (rI .i64) 3 l c s1]) (Gf := fun _ i1 s1 k => [(0, tV (oslV l c s1.length)), (3, tD (rI .i64) k), (4, tV (vslV 1 l c (i : Int).toNat y.length)), (5, tD (rI .i64) (i1 : Int))]) (fun i1 s1 k h => ?_) (fun k2 ih1 i1 s1 k h => ?_) (y.length - 1) 1 s (i : Int) ⟨rfl, h⟩) ⟨rfl, rfl, rfl, rfl, trivial⟩
        · obtain ⟨hx1, h⟩ := h
          refine LG.unfold ?_
          refine CG.seq ?_
          refine CG.seq ?_
          refine CG.region ?_
          refine RG.op (ok_move (ht rfl)) rfl ?_
          refine RG.op (ok_move (ht rfl)) rfl ?_
          refine RG.op (ok_lenW Try.underlying25 hv.1 (ht rfl)) rfl ?_
          refine RG.op (ok_lss (ht rfl) (ht rfl)) rfl ?_
          refine RG.nil ?_
          refine AT.next ?_
          refine CG.condF (ht rfl) (natF hx1) ?_
          refine CG.exit ?_
          refine AT.then_exit (AT.then_exit (AT.in_exit ?_))
          refine AT.next ?_
          refine CG.seq ?_
          refine CG.region ?_
          refine RG.op (ok_move (ht rfl)) rfl ?_
          refine RG.op (ok_move (ht rfl)) rfl ?_
          obtain ⟨y1, q_y1, h⟩ := bs h
          refine RG.op (ok_sliceLoO Try.underlying25 ti3 rfl (.head _) (ht rfl) (ht rfl) q_y1) rfl ?_
          refine RG.have_view (.head _) q_y1 (fun hv1 => ?_)
          obtain ⟨cl, q_cl, h⟩ := bs h
          refine RG.clearV ti3 rfl rfl Try.underlying25 (fun _ => rfl) rfl q_y1 (ht rfl) (so q_cl) ?_
          refine RG.relen2 (clear_len q_y1 (so q_cl)) 0 rfl ?_
          refine RG.relen2 (clear_len q_y1 (so q_cl)) 54 rfl ?_
          refine RG.nil ?_
          refine AT.next ?_
          refine CG.seq ?_
          refine CG.region ?_
          refine RG.op (ok_move (ht rfl)) rfl ?_
          refine RG.op (ok_move (ht rfl)) rfl ?_
          obtain ⟨y2, q_y2, h⟩ := bs h
          refine RG.op (ok_sliceHiO Try.underlying25 ti3 rfl (.head _) (ht rfl) (ht rfl) q_y2) rfl ?_
          refine RG.cut q_y2 ?_
          refine RG.op (ok_assign (ht rfl)) rfl ?_
          refine RG.nil ?_
          refine AT.next ?_
          refine CG.ret ?_
          refine AT.in_ret (AT.then_ret (AT.then_ret (AT.in_ret (AT.then_ret ?_))))
          cases so h
          exact AT.retM1 rfl (oi l c) rfl rfl (fun _ _ h => h)
        · obtain ⟨hx1, h⟩ := h
          refine LG.unfold ?_
          refine CG.seq ?_
          refine CG.seq ?_
          refine CG.region ?_
          refine RG.op (ok_move (ht rfl)) rfl ?_
          refine RG.op (ok_move (ht rfl)) rfl ?_
          refine RG.op (ok_lenW Try.underlying25 hv.1 (ht rfl)) rfl ?_
          refine RG.op (ok_lss (ht rfl) (ht rfl)) rfl ?_
          refine RG.nil ?_
          refine AT.next ?_
          refine CG.condT (ht rfl) (natT hx1) ?_
          refine CG.skip ?_
          refine AT.next ?_
          refine CG.seq ?_
          refine CG.block ?_
          refine CG.seq ?_
          obtain ⟨e3, q_e3, h⟩ := bs h
          obtain ⟨e4, q_e4, h⟩ := bs h
          refine CG.draw (ts := [tV (vslV 1 l c (i : Int).toNat y.length), tD (rI .i64) (i1 : Int), tV (eptr l (((i : Int) + (i1 : Int)).toNat * 1 + 0)), tD (rI .i64) e3, tV (vslV 1 l c (i : Int).toNat y.length), tD (rI .i64) (i1 : Int), tD (rI .i64) (IntKind.i64.wrap ((i1 : Int) - (1 : Int))), tV (eptr l (((i : Int) + (IntKind.i64.wrap ((i1 : Int) - (1 : Int)))).toNat * 1 + 0)), tD (rI .i64) e4, tD rB (e3 != e4)]) mixed rfl rfl
            ⟨⟨[⟨4, _, none⟩], _, rfl, ⟨rfl, trivial⟩, rfl, rfl, OpG.plain rfl (ok_move (ht rfl))⟩,
            ⟨⟨[⟨5, _, none⟩], _, rfl, ⟨rfl, trivial⟩, rfl, rfl, OpG.plain rfl (ok_move (ht rfl))⟩,
            ⟨⟨[⟨35, _, some 0⟩, ⟨36, _, some 1⟩], _, rfl, ⟨rfl, rfl, trivial⟩, rfl, rfl, OpG.plain rfl (ok_indexAddrW Try.underlying25 ti3 rfl (.head _) (sliceF_lo q_y) (ht rfl) (ht rfl) q_e3)⟩,
            ⟨⟨[⟨37, _, some 2⟩], _, rfl, ⟨rfl, trivial⟩, rfl, rfl, OpG.plain rfl (ok_loadE (r := (rI .i64)) (i := ((i : Int) + (i1 : Int))) (foff := 0) ti3 rfl rfl fld_whole rfl (.head _) (idxV_some q_e3).2.2 (ht rfl))⟩,
            ⟨⟨[⟨4, _, none⟩], _, rfl, ⟨rfl, trivial⟩, rfl, rfl, OpG.plain rfl (ok_move (ht rfl))⟩,
            ⟨⟨[⟨5, _, none⟩], _, rfl, ⟨rfl, trivial⟩, rfl, rfl, OpG.plain rfl (ok_move (ht rfl))⟩,
            ⟨⟨[⟨40, _, some 5⟩], _, rfl, ⟨rfl, trivial⟩, rfl, rfl, OpG.plain rfl (ok_sub (ht rfl) hI)⟩,
            ⟨⟨[⟨39, _, some 4⟩, ⟨41, _, some 6⟩], _, rfl, ⟨rfl, rfl, trivial⟩, rfl, rfl, OpG.plain rfl (ok_indexAddrW Try.underlying25 ti3 rfl (.head _) (sliceF_lo q_y) (ht rfl) (ht rfl) q_e4)⟩,
            ⟨⟨[⟨42, _, some 7⟩], _, rfl, ⟨rfl, trivial⟩, rfl, rfl, OpG.plain rfl (ok_loadE (r := (rI .i64)) (i := ((i : Int) + (IntKind.i64.wrap ((i1 : Int) - (1 : Int))))) (foff := 0) ti3 rfl rfl fld_whole rfl (.head _) (idxV_some q_e4).2.2 (ht rfl))⟩,
            ⟨⟨[⟨38, _, some 3⟩, ⟨43, _, some 8⟩], _, rfl, ⟨rfl, rfl, trivial⟩, rfl, rfl, OpG.plain rfl (ok_neqI (ht rfl) (ht rfl))⟩,
            trivial⟩⟩⟩⟩⟩⟩⟩⟩⟩⟩ ?_
          refine AT.next ?_
          refine CG.cond (ht rfl) (fun hc => ?_) (fun hc => ?_)
          · have h := ct h hc
            refine CG.seq ?_
            refine CG.region ?_
            refine RG.op (ok_move (ht rfl)) rfl ?_
            refine RG.op (ok_move (ht rfl)) rfl ?_
            refine RG.op (ok_move (ht rfl)) rfl ?_
            refine RG.op (ok_move (ht rfl)) rfl ?_
            obtain ⟨e5, q_e5, h⟩ := bs h
            refine RG.op (ok_indexAddrW Try.underlying25 ti3 rfl (.head _) (sliceF_lo q_y) (ht rfl) (ht rfl) q_e5) rfl ?_
            refine RG.op (ok_loadE (r := (rI .i64)) (i := ((i : Int) + (i1 : Int))) (foff := 0) ti3 rfl rfl fld_whole rfl (.head _) (idxV_some q_e5).2.2 (ht rfl)) rfl ?_
            obtain ⟨e6, q_e6, h⟩ := bs h
            refine RG.op (ok_indexAddrO Try.underlying25 ti3 (.head _) (ht rfl) (ht rfl) q_e6) rfl ?_
            obtain ⟨st, q_st, h⟩ := bs h
            refine RG.storeE ti3 rfl sfld_whole rfl q_e6 (so q_st) (ht rfl) (ht rfl) ?_
            refine RG.relen2 (set_len (so q_st)) 0 rfl ?_
            refine RG.relen2 (set_len (so q_st)) 45 rfl ?_
            refine RG.nil ?_
            refine AT.next ?_
            refine CG.region ?_
            refine RG.op (ok_move (ht rfl)) rfl ?_
            refine RG.op (ok_add (ht rfl) hI) rfl ?_
            refine RG.op (ok_assign (ht rfl)) rfl ?_
            refine RG.nil ?_
            refine AT.in_normal ?_
            refine AT.next ?_
            refine CG.region ?_
            refine RG.op (ok_move (ht rfl)) rfl ?_
            refine RG.op (ok_incN (natL hx1 (maxN hv.2)) (ht rfl) hI) rfl ?_
            refine RG.op (ok_assign (ht rfl)) rfl ?_
            refine RG.nil ?_
            exact AT.round (LG.sub (ih1 (i1 + 1) st (IntKind.i64.wrap (k + (1 : Int))) ⟨natS hx1, h⟩) ⟨rfl, rfl, rfl, rfl, trivial⟩)
          · have h := cf h hc
            refine CG.skip ?_
            refine AT.in_normal ?_
            refine AT.next ?_
            refine CG.region ?_
            refine RG.op (ok_move (ht rfl)) rfl ?_
            refine RG.op (ok_incN (natL hx1 (maxN hv.2)) (ht rfl) hI) rfl ?_
            refine RG.op (ok_assign (ht rfl)) rfl ?_
            refine RG.nil ?_
            exact AT.round (LG.sub (ih1 (i1 + 1) s1 k ⟨natS hx1, h⟩) ⟨rfl, rfl, rfl, rfl, trivial⟩)
      · have h := cf h hc
        refine CG.skip ?_
        refine AT.in_normal ?_
        refine AT.next ?_
        refine CG.region ?_
        refine RG.op (ok_move (ht rfl)) rfl ?_
        refine RG.op (ok_incN (dropL hx hN) (ht rfl) hI) rfl ?_
        refine RG.op (ok_assign (ht rfl)) rfl ?_
        refine RG.nil ?_
        exact AT.round (LG.sub (ih (i + 1)  ⟨dropS hx, h⟩) ⟨rfl, rfl, trivial⟩)

set_option maxRecDepth 100000 in
theorem f90_own (e : DExpr) {R : (List Int)} (h : expr_Cols e = some R) : SpecO Try.prog 90 [tD rpDExpr e] false (rI .i64) 3 R := by
  refine SpecO.of Try.func90 rfl rfl rfl fun w0 S0 => ?_
  refine CG.seq ?_
  refine CG.region ?_
  refine RG.op (ok_box (ht rfl)) rfl ?_
  refine RG.fresh false (rI .i64) 3 ?_
  refine RG.op (ok_assign hVn) rfl ?_
  refine RG.nil ?_
  refine AT.next ?_
  refine CG.seq ?_
  refine CG.seq ?_
  refine CG.region ?_
  refine RG.op (ok_load ti28 rfl rfl (ht rfl)) rfl ?_
  obtain ⟨r, q_r, h⟩ := bs h
  refine RG.op (ok_call cb31 (f31_ok _ q_r) ⟨(ht rfl), trivial⟩) rfl ?_
  refine RG.op (ok_neqI (ht rfl) hI) rfl ?_
  refine RG.nil ?_
  refine AT.next ?_
  refine CG.cond (ht rfl) (fun hc => ?_) (fun hc => ?_)
  · have h := ct h hc
    refine CG.seq ?_
    refine CG.region ?_
    refine RG.fresh false (rI .i64) 3 ?_
    refine RG.op (ok_assign hVn) rfl ?_
    refine RG.nil ?_
    refine AT.next ?_
    refine CG.ret ?_
    refine AT.then_ret ?_
    cases so h
    exact AT.retO rfl rfl
  · have h := cf h hc
    refine CG.skip ?_
    refine AT.next ?_
    refine CG.seq ?_
    refine CG.region ?_
    refine RG.fresh false (rI .i64) 3 ?_
    refine RG.op (ok_assign hVn) rfl ?_
    refine RG.nil ?_
    refine AT.next ?_
    refine CG.seq ?_
    refine CG.seq ?_
    refine CG.region ?_
    refine RG.op (ok_fieldAddr fd28_0 rfl flDExpr_0 rfl (ht rfl)) rfl ?_
    refine RG.op (ok_load ti26 rfl rfl (ht rfl)) rfl ?_
    refine RG.op (ok_lenSl Try.underlying26 (ht rfl)) rfl ?_
    refine RG.op (ok_move hI) rfl ?_
    refine RG.nil ?_
    refine AT.next ?_
    refine CG.block ?_
    refine CG.have_len (k := 10) rfl (fun hN => ?_)
    refine CG.loop ?_
    refine LG.front1 ?_
    refine LG.drop ?_
    refine LG.sub (LG.list4 (Z := fun ls i out l c => (e.Nodes.drop i = ls) ∧ expr_Cols_l1 ls out = some R) (Of := fun _ i out l c => [arr (rI .i64) 3 l c out]) (Gf := fun _ i out l c => [(3, tV (oslV l c out.length)), (10, tD (rSl rpDENode) e.Nodes), (11, tD (rI .i64) (e.Nodes.length : Int)), (12, tD (rI .i64) (i : Int))]) (fun i out l c h => ?_) (fun e1 tl ih i out l c h => ?_) e.Nodes 0 ([] : List Int) none 0 ⟨rfl, h⟩) ⟨rfl, rfl, rfl, rfl, trivial⟩
    · obtain ⟨hx, h⟩ := h
      refine LG.unfold ?_
      refine CG.seq ?_
      refine CG.region ?_
      refine RG.op (ok_lss (ht rfl) (ht rfl)) rfl ?_
      refine RG.nil ?_
      refine AT.next ?_
      refine CG.seq ?_
      refine CG.condF (ht rfl) (dropF hx) ?_
      refine CG.exit ?_
      refine AT.then_exit (AT.then_exit (AT.in_exit ?_))
      refine AT.next ?_
      refine CG.seq ?_
      refine CG.region ?_
      refine RG.op (ok_move (ht rfl)) rfl ?_
      obtain ⟨srt, q_srt, h⟩ := bs h
      refine RG.sortI (n := out.length) (ys := srt) Try.sortI27 ?_ cb27 ?_ ?_ ?_ ?_ ?_
      · rfl
      · exact q_srt
      · exact (ht rfl)
      · rfl
      · rfl
      intro hl
      refine RG.relen hl 3 rfl ?_
      refine RG.relen hl 25 rfl ?_
      refine RG.nil ?_
      refine AT.next ?_
      refine CG.seq ?_
      refine CG.region ?_
      refine RG.op (ok_move (ht rfl)) rfl ?_
      obtain ⟨r1, q_r1, h⟩ := bs h
      refine RG.callM [arr (rI .i64) 3 l c srt] _ rfl cb28 (f28_m l c _ q_r1) ⟨(ht rfl), trivial⟩ rfl (fun i1 => ?_)
      refine (show RG _ _ _ _ [arr (rI .i64) 3 (i1.h 0).1 (i1.h 0).2 r1] ((28, tV (oslV (i1.h 0).1 (i1.h 0).2 r1.length)) :: _) from ?_)
      refine RG.op (ok_assign (ht rfl)) rfl ?_
      refine RG.nil ?_
      refine AT.next ?_
      refine CG.ret ?_
      cases so h
      exact AT.retO rfl rfl
    · obtain ⟨hx, h⟩ := h
      refine LG.unfold ?_
      refine CG.seq ?_
      refine CG.region ?_
      refine RG.op (ok_lss (ht rfl) (ht rfl)) rfl ?_
      refine RG.nil ?_
      refine AT.next ?_
      refine CG.seq ?_
      refine CG.condT (ht rfl) (dropT hx) ?_
      refine CG.skip ?_
      refine AT.next ?_
      refine CG.seq ?_
      refine CG.block ?_
      refine CG.seq ?_
      refine CG.region ?_
      refine RG.op (ok_indexAddr Try.underlying26 ti64 rfl (ht rfl) (ht rfl) (dropI hx)) rfl ?_
      refine RG.op (ok_load ti64 rfl rfl (ht rfl)) rfl ?_
      refine RG.alloc (r := rpDENode) (x := (⟨(0 : Int), (0 : Int), (0 : Int), (0 : Int), (⟨(0 : Int), (0 : Int), (0 : Int), []⟩ : DValue)⟩ : DENode)) ti64 (fun _ => zrDENode _) rfl (fun b => ?_)
      refine RG.storeB ti64 rfl sfld_whole rfl (ht rfl) (ht rfl) ?_
      refine RG.settleB 5 rfl ?_
      refine RG.nil ?_
      refine AT.next ?_
      refine CG.seq ?_
      refine CG.region ?_
      refine RG.op (ok_fieldAddr fd64_0 rfl flDENode_0 rfl (ht rfl)) rfl ?_
      refine RG.op (ok_load ti3 rfl rfl (ht rfl)) rfl ?_
      refine RG.op (ok_eqlI (ht rfl) hI) rfl ?_
      refine RG.nil ?_
      refine AT.next ?_
      refine CG.cond (ht rfl) (fun hc => ?_) (fun hc => ?_)
      · have h := ct h hc
        refine CG.region ?_
        refine RG.op (ok_move (ht rfl)) rfl ?_
        refine RG.op (ok_fieldAddr fd64_3 rfl flDENode_3 rfl (ht rfl)) rfl ?_
        refine RG.op (ok_load ti3 rfl rfl (ht rfl)) rfl ?_
        refine RG.op (ok_buildSlice (r := (rI .i64)) (ys := [e1.Col]) (xs := [.tmp 21]) Try.underlying25 ti3 rfl rfl rfl rfl rfl ⟨(ht rfl), trivial⟩) rfl ?_
        obtain ⟨out1, q_out1, h⟩ := bs h
        refine RG.append ti3 rfl rfl rfl rfl Try.underlying25 rfl rfl (ht rfl) (ht rfl) q_out1 (fun l2 c2 => ?_)
        refine RG.op (ok_assign (ht rfl)) rfl ?_
        refine RG.nil ?_
        refine AT.in_normal ?_
        refine AT.next ?_
        refine CG.region ?_
        refine RG.op (ok_incN (dropL hx hN) (ht rfl) hI) rfl ?_
        refine RG.op (ok_move (ht rfl)) rfl ?_
        refine RG.nil ?_
        exact AT.round (LG.sub (ih (i + 1) out1 l2 c2 ⟨dropS hx, h⟩) ⟨rfl, rfl, rfl, rfl, trivial⟩)
      · have h := cf h hc
        refine CG.skip ?_
        refine AT.in_normal ?_
        refine AT.next ?_
        refine CG.region ?_
        refine RG.op (ok_incN (dropL hx hN) (ht rfl) hI) rfl ?_
        refine RG.op (ok_move (ht rfl)) rfl ?_
        refine RG.nil ?_
        exact AT.round (LG.sub (ih (i + 1) out l c ⟨dropS hx, h⟩) ⟨rfl, rfl, rfl, rfl, trivial⟩)
set_option maxRecDepth 100000 in
theorem f19_own (s : (List Int)) {R : (List Int)} (h : slices_Clone_int_int s = some R) : SpecO Try.prog 19 [tD (rSl (rI .i64)) s] false (rI .i64) 3 R := by
  refine SpecO.of Try.func19 rfl rfl rfl fun w0 S0 => ?_
  refine CG.seq ?_
  refine CG.region ?_
  refine RG.fresh false (rI .i64) 3 ?_
  refine RG.op (ok_assign hVn) rfl ?_
  refine RG.nil ?_
  refine AT.next ?_
  refine CG.seq ?_
  refine CG.seq ?_
  refine CG.region ?_
  refine RG.op (ok_move (ht rfl)) rfl ?_
  refine RG.isNil Try.underlying25 (ht rfl) rfl (fun isnil hisnil => ?_)
  refine RG.nil ?_
  refine AT.next ?_
  refine CG.cond (ht rfl) (fun hc => ?_) (fun hc => ?_)
  · have hx := hisnil hc
    have h : some ([] : List Int) = some R := by simpa [slices_Clone_int_int, app, hx] using h
    refine CG.seq ?_
    refine CG.region ?_
    refine RG.fresh false (rI .i64) 3 ?_
    refine RG.op (ok_assign hVn) rfl ?_
    refine RG.nil ?_
    refine AT.next ?_
    refine CG.ret ?_
    refine AT.then_ret ?_
    cases so h
    exact AT.retO rfl rfl
  · refine CG.skip ?_
    refine AT.next ?_
    refine CG.seq ?_
    refine CG.region ?_
    refine RG.buildOwn (r := (rI .i64)) (ys := ([] : List Int)) (xs := []) Try.underlying25 ti3 rfl rfl rfl rfl rfl trivial rfl (fun l c => ?_)
    refine RG.op (ok_move (ht rfl)) rfl ?_
    obtain ⟨x, q_x, h⟩ := bs h
    refine RG.append ti3 rfl rfl rfl rfl Try.underlying25 rfl rfl (ht rfl) (ht rfl) q_x (fun l1 c1 => ?_)
    refine RG.op (ok_assign (ht rfl)) rfl ?_
    refine RG.nil ?_
    refine AT.next ?_
    refine CG.ret ?_
    cases so h
    exact AT.retO rfl rfl
theorem f19_ok (s : (List Int)) {R : (List Int)} (h : slices_Clone_int_int s = some R) : Spec Try.prog 19 [tD (rSl (rI .i64)) s] (tD (rSl (rI .i64)) R) := (f19_own _ h).spec

set_option maxRecDepth 100000 in
theorem f19_v {l : Option Nat} {c : Nat} {xs s : List Int} {lo : Int} {R : List Int} (hs : sliceF xs lo (xs.length : Int) = some s) (h : slices_Clone_int_int s = some R) : SpecM Try.prog 19 [tV (vslV 1 l c lo.toNat s.length)] [arr (rI .i64) 3 l c xs] (fun i : OI => tV (oslV (i.h 0).1 (i.h 0).2 R.length)) (fun i => [arr (rI .i64) 3 (i.h 0).1 (i.h 0).2 R, arr (rI .i64) 3 l c xs]) := by
  refine SpecM.of Try.func19 rfl rfl rfl fun w0 S0 => ?_
  refine CG.seq ?_
  refine CG.region ?_
  refine RG.op (ok_assign hVn) rfl ?_
  refine RG.nil ?_
  refine AT.next ?_
  refine CG.seq ?_
  refine CG.seq ?_
  refine CG.region ?_
  refine RG.op (ok_move (ht rfl)) rfl ?_
  refine RG.isNilV (r := (rI .i64)) Try.underlying25 (.head _) hs (ht rfl) rfl (fun isnil hisnil => ?_)
  refine RG.nil ?_
  refine AT.next ?_
  refine CG.cond (ht rfl) (fun hc => ?_) (fun hc => ?_)
  · have hx := hisnil hc
    have h : some ([] : List Int) = some R := by simpa [slices_Clone_int_int, app, hx] using h
    refine CG.seq ?_
    refine CG.region ?_
    refine RG.fresh false (rI .i64) 3 ?_
    refine RG.op (ok_assign hVn) rfl ?_
    refine RG.nil ?_
    refine AT.next ?_
    refine CG.ret ?_
    refine AT.then_ret ?_
    cases so h
    exact AT.retM1 rfl (oi none 0) rfl rfl (fun _ _ h => h)
  · refine CG.skip ?_
    refine AT.next ?_
    refine CG.seq ?_
    refine CG.region ?_
    refine RG.buildOwn (r := (rI .i64)) (ys := ([] : List Int)) (xs := []) Try.underlying25 ti3 rfl rfl rfl rfl rfl trivial rfl (fun l1 c1 => ?_)
    refine RG.op (ok_move (ht rfl)) rfl ?_
    obtain ⟨x, q_x, h⟩ := bs h
    refine RG.appendV ti3 rfl rfl rfl rfl Try.underlying25 rfl rfl (ht rfl) (.tail _ (.head _)) hs (ht rfl) q_x (fun l2 c2 => ?_)
    refine RG.op (ok_assign (ht rfl)) rfl ?_
    refine RG.nil ?_
    refine AT.next ?_
    refine CG.ret ?_
    cases so h
    exact AT.retM1 rfl (oi l2 c2) rfl rfl (fun _ _ h => h)

set_option maxRecDepth 100000 in
theorem f96_c (b : Nat) (l : Option Nat) (c : Nat) (stack : (List Int)) (k : Int) {R : (List Int) × (List Int)} (h : expr_over_1_int stack k = some R) : SpecM Try.prog 96 [tD (rI .i64) k, tV (bptr b 0)] [bx rV 25 b (oslV l c stack.length), arr (rI .i64) 3 l c stack] (fun i : OI => tD (rSl (rI .i64)) R.1) (fun i => [bx rV 25 b (oslV (i.h 0).1 (i.h 0).2 R.2.length), arr (rI .i64) 3 (i.h 0).1 (i.h 0).2 R.2]) := by
  refine SpecM.of Try.func96 rfl rfl rfl fun w0 S0 => ?_
  refine CG.seq ?_
  refine CG.region ?_
  refine RG.op (ok_assign (show HasTy _ _ _ (tD (rSl (rI .i64)) ([])) from hNil)) rfl ?_
  refine RG.nil ?_
  refine AT.next ?_
  refine CG.seq ?_
  refine CG.region ?_
  refine RG.op (ok_loadA ti25 (.head _) (ht rfl)) rfl ?_
  refine RG.op (ok_loadA ti25 (.head _) (ht rfl)) rfl ?_
  refine RG.op (ok_lenO Try.underlying25 (.tail _ (.head _)) (ht rfl)) rfl ?_
  refine RG.op (ok_move (ht rfl)) rfl ?_
  refine RG.op (ok_sub (ht rfl) (ht rfl)) rfl ?_
  obtain ⟨y, q_y, h⟩ := bs h
  refine RG.op (ok_sliceLoO Try.underlying25 ti3 rfl (.tail _ (.head _)) (ht rfl) (ht rfl) q_y) rfl ?_
  refine RG.have_view (.tail _ (.head _)) q_y (fun hv => ?_)
  refine RG.front1 ?_
  obtain ⟨r, q_r, h⟩ := bs h
  refine RG.callM [arr (rI .i64) 3 l c stack] _ rfl cb19 (f19_v q_y q_r) ⟨(ht rfl), trivial⟩ rfl (fun i => ?_)
  refine (show RG _ _ _ _ [arr (rI .i64) 3 (i.h 0).1 (i.h 0).2 r, arr (rI .i64) 3 l c stack, bx rV 25 b (oslV l c stack.length)] _ from ?_)
  refine RG.op (ok_assign (ht rfl)) rfl ?_
  refine RG.nil ?_
  refine AT.next ?_
  refine CG.seq ?_
  refine CG.region ?_
  refine RG.op (ok_loadA ti25 (.tail _ (.tail _ (.head _))) (ht rfl)) rfl ?_
  refine RG.op (ok_loadA ti25 (.tail _ (.tail _ (.head _))) (ht rfl)) rfl ?_
  refine RG.op (ok_lenO Try.underlying25 (.tail _ (.head _)) (ht rfl)) rfl ?_
  refine RG.op (ok_move (ht rfl)) rfl ?_
  refine RG.op (ok_sub (ht rfl) (ht rfl)) rfl ?_
  obtain ⟨y1, q_y1, h⟩ := bs h
  refine RG.op (ok_sliceHiO Try.underlying25 ti3 rfl (.tail _ (.head _)) (ht rfl) (ht rfl) q_y1) rfl ?_
  refine RG.front1 ?_
  refine RG.cut q_y1 ?_
  refine RG.front2 ?_
  refine RG.storeB ti25 rfl sfld_whole rfl (ht rfl) (hRV (ht rfl)) ?_
  refine RG.nil ?_
  refine AT.next ?_
  refine CG.seq ?_
  refine CG.region ?_
  refine RG.op (ok_move (ht rfl)) rfl ?_
  refine RG.op (ok_assign (ht rfl)) rfl ?_
  refine RG.nil ?_
  refine AT.next ?_
  refine CG.ret ?_
  refine AT.front2 ?_
  refine AT.freeze ?_
  refine AT.tipAt 3 rfl ?_
  refine AT.tipAt 11 rfl ?_
  refine AT.tipAt 4 rfl ?_
  refine AT.tipAt 18 rfl ?_
  refine AT.dataAt 3 rfl ?_
  refine AT.drop ?_
  refine AT.front1 ?_
  refine AT.front1 ?_
  cases so h
  exact AT.retM1 rfl (oi l c) rfl rfl (fun _ _ h => h)

set_option maxRecDepth 100000 in
theorem f91_ok (e : DExpr) (do1 : (DENode → (List Int) → Option (Int × Int))) {R : Int × Int} (h : expr_over_int e do1 = some R) : Spec Try.prog 91 [tD rpDExpr e, (tFun Try.prog (fun (x : DENode × (List Int)) => [tD rpDENode x.1, tD (rSl (rI .i64)) x.2]) (fun (x : Int × Int) => tT [tD (rI .i64) x.1, tD (rI .i64) x.2]) (fun (x : DENode × (List Int)) => do1 x.1 x.2))] (tT [tD (rI .i64) R.1, tD (rI .i64) R.2]) := by
  refine Spec.of Try.func91 rfl rfl rfl fun w0 S0 => ?_
  refine CG.seq ?_
  refine CG.region ?_
  refine RG.op (ok_box (ht rfl)) rfl ?_
  refine RG.op (ok_assign hI) rfl ?_
  refine RG.op (ok_assign hI) rfl ?_
  refine RG.nil ?_
  refine AT.next ?_
  refine CG.scope ?_
  refine CG.seq ?_
  refine CG.region ?_
  refine RG.fresh false (rI .i64) 3 ?_
  refine RG.alloc (x := oslV none 0 0) ti25 (fun _ => rV_osl) rfl (fun b => ?_)
  refine RG.nil ?_
  refine AT.next ?_
  refine CG.seq ?_
  refine CG.region ?_
  refine RG.op (ok_assign hI) rfl ?_
  refine RG.nil ?_
  refine AT.next ?_
  refine CG.seq ?_
  refine CG.region ?_
  refine RG.op (ok_makeC (cts := [tV (bptr b 0)]) (caps := [.tmp 6]) ⟨(ht rfl), trivial⟩) rfl ?_
  refine RG.op (ok_assign (ht rfl)) rfl ?_
  refine RG.nil ?_
  refine AT.next ?_
  refine CG.seq ?_
  refine CG.region ?_
  refine RG.op (ok_assign hI) rfl ?_
  refine RG.nil ?_
  refine AT.next ?_
  refine CG.seq ?_
  refine CG.label ?_
  refine AT.next ?_
  refine CG.seq ?_
  refine CG.seq ?_
  refine CG.region ?_
  refine RG.op (ok_fieldAddr fd28_0 rfl flDExpr_0 rfl (ht rfl)) rfl ?_
  refine RG.op (ok_load ti26 rfl rfl (ht rfl)) rfl ?_
  refine RG.op (ok_lenSl Try.underlying26 (ht rfl)) rfl ?_
  refine RG.op (ok_move hI) rfl ?_
  refine RG.nil ?_
  refine AT.next ?_
  refine CG.bjoin4 (Z := fun bad stack l c => expr_over_int_k1 bad stack = some R) (Of := fun bad stack l c => [bx rV 25 b (oslV l c stack.length), arr (rI .i64) 3 l c stack]) (Gf := fun bad stack l c => [(6, tV (bptr b 0)), (7, tD (rI .i64) (0 : Int)), (9, tD (rI .i64) bad)]) (fun bad stack l c h => ?_) (fun K => ?_)
  · skip
    refine AT.next ?_
    refine CG.seq ?_
    refine CG.seq ?_
    refine CG.region ?_
    refine RG.op (ok_move (ht rfl)) rfl ?_
    refine RG.op (ok_neqI (ht rfl) hI) rfl ?_
    refine RG.nil ?_
    refine AT.next ?_
    refine CG.cond (ht rfl) (fun hc => ?_) (fun hc => ?_)
    · have h := ct h hc
      refine CG.seq ?_
      refine CG.region ?_
      refine RG.op (ok_move (ht rfl)) rfl ?_
      refine RG.op (ok_move (ht rfl)) rfl ?_
      refine RG.op (ok_assign (ht rfl)) rfl ?_
      refine RG.op (ok_assign (ht rfl)) rfl ?_
      refine RG.nil ?_
      refine AT.next ?_
      refine CG.ret ?_
      refine AT.then_ret (AT.sc_ret ?_)
      refine AT.drop ?_
      refine AT.drop ?_
      cases so h
      exact AT.ret2 rfl rfl rfl
    · have h := cf h hc
      refine CG.skip ?_
      refine AT.next ?_
      refine CG.seq ?_
      refine CG.region ?_
      refine RG.op (ok_loadA ti25 (.head _) (ht rfl)) rfl ?_
      obtain ⟨e1, q_e1, h⟩ := bs h
      refine RG.op (ok_indexAddrO Try.underlying25 ti3 (.tail _ (.head _)) (ht rfl) hI q_e1) rfl ?_
      refine RG.op (ok_loadE (r := (rI .i64)) (i := (0 : Int)) (foff := 0) ti3 rfl rfl fld_whole rfl (.tail _ (.head _)) q_e1 (ht rfl)) rfl ?_
      refine RG.op (ok_assign (ht rfl)) rfl ?_
      refine RG.op (ok_assign hI) rfl ?_
      refine RG.nil ?_
      refine AT.next ?_
      refine CG.ret ?_
      refine AT.sc_ret ?_
      refine AT.drop ?_
      refine AT.drop ?_
      cases so h
      exact AT.ret2 rfl rfl rfl
  · skip
    refine CG.have_len (k := 16) rfl (fun hN => ?_)
    refine CG.loop ?_
    refine LG.sub (LG.list5 (Z := fun ls i bad1 stack1 l1 c1 => (e.Nodes.drop i = ls) ∧ expr_over_int_l1 do1 ls bad1 stack1 = some R) (Of := fun _ i bad1 stack1 l1 c1 => [bx rV 25 b (oslV l1 c1 stack1.length), arr (rI .i64) 3 l1 c1 stack1]) (Gf := fun _ i bad1 stack1 l1 c1 => [(1, (tFun Try.prog (fun (x : DENode × (List Int)) => [tD rpDENode x.1, tD (rSl (rI .i64)) x.2]) (fun (x : Int × Int) => tT [tD (rI .i64) x.1, tD (rI .i64) x.2]) (fun (x : DENode × (List Int)) => do1 x.1 x.2))), (6, tV (bptr b 0)), (7, tD (rI .i64) (0 : Int)), (8, tC 96 [tV (bptr b 0)]), (9, tD (rI .i64) bad1), (16, tD (rSl rpDENode) e.Nodes), (17, tD (rI .i64) (e.Nodes.length : Int)), (18, tD (rI .i64) (i : Int))]) (fun i bad1 stack1 l1 c1 h => ?_) (fun e2 tl ih i bad1 stack1 l1 c1 h => ?_) e.Nodes 0 (0 : Int) ([] : List Int) none 0 ⟨rfl, h⟩) ⟨rfl, rfl, rfl, rfl, rfl, rfl, rfl, rfl, trivial⟩
    · obtain ⟨hx, h⟩ := h
      refine LG.unfold ?_
      refine CG.seq ?_
      refine CG.region ?_
      refine RG.op (ok_lss (ht rfl) (ht rfl)) rfl ?_
      refine RG.nil ?_
      refine AT.next ?_
      refine CG.seq ?_
      refine CG.condF (ht rfl) (dropF hx) ?_
      refine CG.exit ?_
      refine AT.then_exit (AT.then_exit (AT.in_exit ?_))
      exact AT.sub (K bad1 stack1 l1 c1 h) ⟨rfl, rfl, rfl, trivial⟩
    · obtain ⟨hx, h⟩ := h
      refine LG.unfold ?_
      refine CG.seq ?_
      refine CG.region ?_
      refine RG.op (ok_lss (ht rfl) (ht rfl)) rfl ?_
      refine RG.nil ?_
      refine AT.next ?_
      refine CG.seq ?_
      refine CG.condT (ht rfl) (dropT hx) ?_
      refine CG.skip ?_
      refine AT.next ?_
      refine CG.seq ?_
      refine CG.block ?_
      refine CG.seq ?_
      refine CG.region ?_
      refine RG.op (ok_indexAddr Try.underlying26 ti64 rfl (ht rfl) (ht rfl) (dropI hx)) rfl ?_
      refine RG.op (ok_load ti64 rfl rfl (ht rfl)) rfl ?_
      refine RG.alloc (r := rpDENode) (x := (⟨(0 : Int), (0 : Int), (0 : Int), (0 : Int), (⟨(0 : Int), (0 : Int), (0 : Int), []⟩ : DValue)⟩ : DENode)) ti64 (fun _ => zrDENode _) rfl (fun b1 => ?_)
      refine RG.storeB ti64 rfl sfld_whole rfl (ht rfl) (ht rfl) ?_
      refine RG.settleB 11 rfl ?_
      refine RG.nil ?_
      refine AT.next ?_
      refine CG.seq ?_
      obtain ⟨r, q_r, h⟩ := bs h
      obtain ⟨r1, q_r1, h⟩ := bs h
      obtain ⟨r2, q_r2, h⟩ := bs h
      refine CG.drawS 12 [tc ((tFun Try.prog (fun (x : DENode × (List Int)) => [tD rpDENode x.1, tD (rSl (rI .i64)) x.2]) (fun (x : Int × Int) => tT [tD (rI .i64) x.1, tD (rI .i64) x.2]) (fun (x : DENode × (List Int)) => do1 x.1 x.2))), tc (tD rpDENode e2), tc (tC 96 [tV (bptr b 0)]), tc (tPtr (rI .i64) e2.Tag), tc (tD (rI .i64) e2.Tag), tc (tD (rI .i64) r), tc (tD (rSl (rI .i64)) r1.1), tc (tT [tD (rI .i64) r2.1, tD (rI .i64) r2.2]), tc (tT [tD (rI .i64) r2.1, tD (rI .i64) r2.2]), tc (tD (rI .i64) r2.1), tc (tD (rI .i64) r2.2), tc (tD (rI .i64) r2.1)] [false, false, false, false, false, false, true, false, false, false, false, false] [fun _ => [bx rV 25 b (oslV l1 c1 stack1.length), arr (rI .i64) 3 l1 c1 stack1], fun sg => [bx rV 25 b (oslV ((sg 6).h 0).1 ((sg 6).h 0).2 r1.2.length), arr (rI .i64) 3 ((sg 6).h 0).1 ((sg 6).h 0).2 r1.2]] rfl mixed rfl rfl rfl rfl rfl
        ⟨⟨[⟨1, fun _ => (tFun Try.prog (fun (x : DENode × (List Int)) => [tD rpDENode x.1, tD (rSl (rI .i64)) x.2]) (fun (x : Int × Int) => tT [tD (rI .i64) x.1, tD (rI .i64) x.2]) (fun (x : DENode × (List Int)) => do1 x.1 x.2)), none⟩], _, 0, 1, rfl, ⟨(fun _ => rfl), trivial⟩, rfl, rfl, rfl, rfl, rfl, fun _ sg _ _ => OpG.plain rfl (ok_move (ht rfl))⟩,
        ⟨⟨[⟨11, fun _ => tPtr rpDENode e2, none⟩], _, 0, 1, rfl, ⟨(fun _ => rfl), trivial⟩, rfl, rfl, rfl, rfl, rfl, fun _ sg _ _ => OpG.plain rfl (ok_load ti64 rfl rfl (ht rfl))⟩,
        ⟨⟨[⟨8, fun _ => tC 96 [tV (bptr b 0)], none⟩], _, 0, 0, rfl, ⟨(fun _ => rfl), trivial⟩, rfl, rfl, rfl, rfl, rfl, fun _ sg _ _ => OpG.plain rfl (ok_move (ht rfl))⟩,
        ⟨⟨[⟨11, fun _ => tPtr rpDENode e2, none⟩], _, 0, 0, rfl, ⟨(fun _ => rfl), trivial⟩, rfl, rfl, rfl, rfl, rfl, fun _ sg _ _ => OpG.plain rfl (ok_fieldAddr fd64_0 rfl flDENode_0 rfl (ht rfl))⟩,
        ⟨⟨[⟨26, fun _ => tPtr (rI .i64) e2.Tag, some 3⟩], _, 0, 0, rfl, ⟨(fun _ => rfl), trivial⟩, rfl, rfl, rfl, rfl, rfl, fun _ sg _ _ => OpG.plain rfl (ok_load ti3 rfl rfl (ht rfl))⟩,
        ⟨⟨[⟨27, fun _ => tD (rI .i64) e2.Tag, some 4⟩], _, 0, 0, rfl, ⟨(fun _ => rfl), trivial⟩, rfl, rfl, rfl, rfl, rfl, fun _ sg _ _ => OpG.plain rfl (ok_call cb79 (f79_ok _ q_r) ⟨(ht rfl), trivial⟩)⟩,
        ⟨⟨[⟨25, fun _ => tC 96 [tV (bptr b 0)], some 2⟩, ⟨28, fun _ => tD (rI .i64) r, some 5⟩], _, rfl, ⟨(fun _ => rfl), (fun _ => rfl), trivial⟩, rfl, rfl, rfl, fun sg => EffG.plain rfl (EffOK.fr1 (EffOK.fr1 (eff_callC (xs := [.tmp 28]) (ts := [tD (rI .i64) r]) (cts := [tV (bptr b 0)]) [bx rV 25 b (oslV l1 c1 stack1.length), arr (rI .i64) 3 l1 c1 stack1] _ rfl cb96 (f96_c b l1 c1 _ _ q_r1) (ht rfl) ⟨(ht rfl), trivial⟩ (fun _ => rfl))))⟩,
        ⟨⟨[⟨23, fun _ => (tFun Try.prog (fun (x : DENode × (List Int)) => [tD rpDENode x.1, tD (rSl (rI .i64)) x.2]) (fun (x : Int × Int) => tT [tD (rI .i64) x.1, tD (rI .i64) x.2]) (fun (x : DENode × (List Int)) => do1 x.1 x.2)), some 0⟩, ⟨24, fun _ => tD rpDENode e2, some 1⟩, ⟨29, fun _ => tD (rSl (rI .i64)) r1.1, some 6⟩], _, 1, 1, rfl, ⟨(fun _ => rfl), (fun _ => rfl), (fun _ => rfl), trivial⟩, rfl, rfl, rfl, rfl, rfl, fun _ sg _ _ => OpG.plain rfl (ok_callV (args := (fun (x : DENode × (List Int)) => [tD rpDENode x.1, tD (rSl (rI .i64)) x.2])) (res := (fun (x : Int × Int) => tT [tD (rI .i64) x.1, tD (rI .i64) x.2])) (f := (fun (x : DENode × (List Int)) => do1 x.1 x.2)) (x := ((e2, r1.1) : DENode × (List Int))) (ht rfl) q_r2 ⟨(ht rfl), (ht rfl), trivial⟩)⟩,
        ⟨⟨[⟨30, fun _ => tT [tD (rI .i64) r2.1, tD (rI .i64) r2.2], some 7⟩], _, 1, 1, rfl, ⟨(fun _ => rfl), trivial⟩, rfl, rfl, rfl, rfl, rfl, fun _ sg _ _ => OpG.plain rfl (ok_move (ht rfl))⟩,
        ⟨⟨[⟨22, fun _ => tT [tD (rI .i64) r2.1, tD (rI .i64) r2.2], some 8⟩], _, 1, 1, rfl, ⟨(fun _ => rfl), trivial⟩, rfl, rfl, rfl, rfl, rfl, fun _ sg _ _ => OpG.plain rfl (ok_extract rfl (ht rfl))⟩,
        ⟨⟨[⟨22, fun _ => tT [tD (rI .i64) r2.1, tD (rI .i64) r2.2], some 8⟩], _, 1, 1, rfl, ⟨(fun _ => rfl), trivial⟩, rfl, rfl, rfl, rfl, rfl, fun _ sg _ _ => OpG.plain rfl (ok_extract rfl (ht rfl))⟩,
        ⟨⟨[⟨31, fun _ => tD (rI .i64) r2.1, some 9⟩], _, 1, 1, rfl, ⟨(fun _ => rfl), trivial⟩, rfl, rfl, rfl, rfl, rfl, fun _ sg _ _ => OpG.plain rfl (ok_assign (ht rfl))⟩,
        trivial⟩⟩⟩⟩⟩⟩⟩⟩⟩⟩⟩⟩ (fun sg => ?_)
      refine (show RG _ _ _ _ [bx rV 25 b (oslV ((sg 6).h 0).1 ((sg 6).h 0).2 r1.2.length), arr (rI .i64) 3 ((sg 6).h 0).1 ((sg 6).h 0).2 r1.2] _ from ?_)
      refine RG.op (ok_assign (ht rfl)) rfl ?_
      refine RG.nil ?_
      refine AT.next ?_
      refine CG.seq ?_
      refine CG.seq ?_
      refine CG.region ?_
      refine RG.op (ok_move (ht rfl)) rfl ?_
      refine RG.op (ok_neqI (ht rfl) hI) rfl ?_
      refine RG.nil ?_
      refine AT.next ?_
      refine CG.cond (ht rfl) (fun hc => ?_) (fun hc => ?_)
      · have h := ct h hc
        refine CG.seq ?_
        refine CG.region ?_
        refine RG.op (ok_move (ht rfl)) rfl ?_
        refine RG.op (ok_assign (ht rfl)) rfl ?_
        refine RG.nil ?_
        refine AT.next ?_
        refine CG.exit ?_
        refine AT.then_exit (AT.in_exit_ne rfl (AT.then_exit (AT.then_exit (AT.in_exit ?_))))
        exact AT.sub (K r2.2 r1.2 ((sg 6).h 0).1 ((sg 6).h 0).2 h) ⟨rfl, rfl, rfl, trivial⟩
      · have h := cf h hc
        refine CG.skip ?_
        refine AT.next ?_
        refine CG.region ?_
        refine RG.op (ok_loadA ti25 (.head _) (ht rfl)) rfl ?_
        refine RG.op (ok_move (ht rfl)) rfl ?_
        refine RG.op (ok_buildSlice (r := (rI .i64)) (ys := [r2.1]) (xs := [.tmp 37]) Try.underlying25 ti3 rfl rfl rfl rfl rfl ⟨(ht rfl), trivial⟩) rfl ?_
        refine RG.front1 ?_
        obtain ⟨l2, q_l2, h⟩ := bs h
        refine RG.append ti3 rfl rfl rfl rfl Try.underlying25 rfl rfl (ht rfl) (ht rfl) q_l2 (fun l3 c2 => ?_)
        refine RG.front1 ?_
        refine RG.storeB ti25 rfl sfld_whole rfl (ht rfl) (hRV (ht rfl)) ?_
        refine RG.nil ?_
        refine AT.in_normal ?_
        refine AT.next ?_
        refine CG.region ?_
        refine RG.op (ok_incN (dropL hx hN) (ht rfl) hI) rfl ?_
        refine RG.op (ok_move (ht rfl)) rfl ?_
        refine RG.nil ?_
        exact AT.round (LG.sub (ih (i + 1) bad1 l2 l3 c2 ⟨dropS hx, h⟩) ⟨rfl, rfl, rfl, rfl, rfl, rfl, rfl, rfl, trivial⟩)

set_option maxRecDepth 100000 in
theorem f34_ok (tag : Int) {R : Bool} (h : expr_arithmetic tag = some R) : Spec Try.prog 34 [tD (rI .i64) tag] (tD rB R) := by
  refine Spec.of Try.func34 rfl rfl rfl fun w0 S0 => ?_
  refine CG.seq ?_
  refine CG.region ?_
  refine RG.op (ok_assign hB) rfl ?_
  refine RG.nil ?_
  refine AT.next ?_
  refine CG.seq ?_
  refine CG.region ?_
  refine RG.op (ok_move (ht rfl)) rfl ?_
  refine RG.op (ok_eqlI (ht rfl) hI) rfl ?_
  refine RG.op (ok_move (ht rfl)) rfl ?_
  refine RG.opGf rfl rfl rfl rfl (fun hg => ok_move (ht rfl)) ?_
  refine RG.opGf rfl rfl rfl rfl (fun hg => ok_geq (htO rfl hg) hI) ?_
  refine RG.opGf rfl rfl rfl rfl (fun hg => ok_move (htO rfl hg)) ?_
  refine RG.opGot rfl rfl rfl rfl (fun hg => ok_move (ht rfl)) ?_
  refine RG.opGot rfl rfl rfl rfl (fun hg => ok_leq (htO rfl hg) hI) ?_
  refine RG.opGf rfl rfl rfl rfl (fun hg => ok_pickAnd (htO rfl hg) (fun hb => (htO rfl (andi hg hb)))) ?_
  refine RG.op (ok_pickOr (ht rfl) (fun hb => (htO rfl (noti hb)))) rfl ?_
  refine RG.op (ok_assign (ht rfl)) rfl ?_
  refine RG.nil ?_
  refine AT.next ?_
  refine CG.ret ?_
  cases so h
  exact AT.ret1 rfl rfl

set_option maxRecDepth 100000 in
theorem f92_ok (kinds : (List Int)) (n : DENode) (l : (List Int)) {R : Int × Int} (h : expr_Kind_1 kinds n l = some R) : Spec Try.prog 92 [tD rpDENode n, tD (rSl (rI .i64)) l, tPtr (rSl (rI .i64)) kinds] (tT [tD (rI .i64) R.1, tD (rI .i64) R.2]) := by
  refine Spec.of Try.func92 rfl rfl rfl fun w0 S0 => ?_
  refine CG.seq ?_
  refine CG.region ?_
  refine RG.op (ok_box (ht rfl)) rfl ?_
  refine RG.op (ok_assign hI) rfl ?_
  refine RG.op (ok_assign hI) rfl ?_
  refine RG.nil ?_
  refine AT.next ?_
  refine CG.seq ?_
  refine CG.region ?_
  refine RG.op (ok_assign hI) rfl ?_
  refine RG.nil ?_
  refine AT.next ?_
  refine CG.seq ?_
  refine CG.seq ?_
  refine CG.region ?_
  refine RG.op (ok_move (ht rfl)) rfl ?_
  refine RG.op (ok_lenSl Try.underlying25 (ht rfl)) rfl ?_
  refine RG.op (ok_move hI) rfl ?_
  refine RG.nil ?_
  refine AT.next ?_
  refine CG.block ?_
  refine CG.have_len (k := 12) rfl (fun hN => ?_)
  refine CG.loop ?_
  refine LG.sub (LG.list2 (Z := fun ls i own => (l.drop i = ls) ∧ expr_Kind_1_l1 kinds n ls own = some R) (Of := fun _ i own => []) (Gf := fun _ i own => [(2, tPtr (rSl (rI .i64)) kinds), (3, tPtr rpDENode n), (7, tD (rI .i64) own), (12, tD (rSl (rI .i64)) l), (13, tD (rI .i64) (l.length : Int)), (14, tD (rI .i64) (i : Int))]) (fun i own h => ?_) (fun e tl ih i own h => ?_) l 0 (0 : Int) ⟨rfl, h⟩) ⟨rfl, rfl, rfl, rfl, rfl, rfl, trivial⟩
  · obtain ⟨hx, h⟩ := h
    refine LG.unfold ?_
    refine CG.seq ?_
    refine CG.region ?_
    refine RG.op (ok_lss (ht rfl) (ht rfl)) rfl ?_
    refine RG.nil ?_
    refine AT.next ?_
    refine CG.seq ?_
    refine CG.condF (ht rfl) (dropF hx) ?_
    refine CG.exit ?_
    refine AT.then_exit (AT.then_exit (AT.in_exit ?_))
    refine AT.next ?_
    refine CG.seq ?_
    refine CG.region ?_
    refine RG.op (ok_move (ht rfl)) rfl ?_
    refine RG.op (ok_assign (ht rfl)) rfl ?_
    refine RG.nil ?_
    refine AT.next ?_
    refine CG.seq ?_
    refine CG.region ?_
    refine RG.op (ok_assign hI) rfl ?_
    refine RG.nil ?_
    refine AT.next ?_
    refine CG.seq ?_
    refine CG.block ?_
    refine CG.seq ?_
    refine CG.region ?_
    refine RG.op (ok_fieldAddr fd64_0 rfl flDENode_0 rfl (ht rfl)) rfl ?_
    refine RG.op (ok_load ti3 rfl rfl (ht rfl)) rfl ?_
    refine RG.op (ok_eqlI (ht rfl) hI) rfl ?_
    refine RG.op (ok_assign (ht rfl)) rfl ?_
    refine RG.nil ?_
    refine AT.next ?_
    refine CG.cond (ht rfl) (fun hc => ?_) (fun hc => ?_)
    · have h := ct h hc
      refine CG.seq ?_
      refine CG.region ?_
      refine RG.op (ok_fieldAddr fd64_4 rfl flDENode_4 rfl (ht rfl)) rfl ?_
      refine RG.op (ok_fieldAddr fd62_0 rfl flDValue_0 rfl (ht rfl)) rfl ?_
      refine RG.op (ok_load ti3 rfl rfl (ht rfl)) rfl ?_
      refine RG.op (ok_assign (ht rfl)) rfl ?_
      refine RG.op (ok_assign hI) rfl ?_
      refine RG.nil ?_
      refine AT.next ?_
      refine CG.ret ?_
      refine AT.in_ret (AT.then_ret ?_)
      cases so h
      exact AT.ret2 rfl rfl rfl
    · have h := cf h hc
      refine CG.seq ?_
      refine CG.region ?_
      refine RG.op (ok_fieldAddr fd64_0 rfl flDENode_0 rfl (ht rfl)) rfl ?_
      refine RG.op (ok_load ti3 rfl rfl (ht rfl)) rfl ?_
      refine RG.op (ok_eqlI (ht rfl) hI) rfl ?_
      refine RG.op (ok_assign (ht rfl)) rfl ?_
      refine RG.nil ?_
      refine AT.next ?_
      refine CG.cond (ht rfl) (fun hc => ?_) (fun hc => ?_)
      · have h := ct h hc
        refine CG.seq ?_
        refine CG.region ?_
        refine RG.op (ok_load ti25 rfl rfl (ht rfl)) rfl ?_
        refine RG.op (ok_fieldAddr fd64_3 rfl flDENode_3 rfl (ht rfl)) rfl ?_
        refine RG.op (ok_load ti3 rfl rfl (ht rfl)) rfl ?_
        obtain ⟨e1, q_e1, h⟩ := bs h
        refine RG.op (ok_indexAddr Try.underlying25 ti3 rfl (ht rfl) (ht rfl) q_e1) rfl ?_
        refine RG.op (ok_load ti3 rfl rfl (ht rfl)) rfl ?_
        refine RG.op (ok_assign (ht rfl)) rfl ?_
        refine RG.op (ok_assign hI) rfl ?_
        refine RG.nil ?_
        refine AT.next ?_
        refine CG.ret ?_
        refine AT.in_ret (AT.then_ret ?_)
        cases so h
        exact AT.ret2 rfl rfl rfl
      · have h := cf h hc
        refine CG.seq ?_
        refine CG.region ?_
        refine RG.op (ok_fieldAddr fd64_0 rfl flDENode_0 rfl (ht rfl)) rfl ?_
        refine RG.op (ok_load ti3 rfl rfl (ht rfl)) rfl ?_
        obtain ⟨r, q_r, h⟩ := bs h
        refine RG.op (ok_call cb34 (f34_ok _ q_r) ⟨(ht rfl), trivial⟩) rfl ?_
        refine RG.op (ok_assign (ht rfl)) rfl ?_
        refine RG.nil ?_
        refine AT.next ?_
        refine CG.cond (ht rfl) (fun hc => ?_) (fun hc => ?_)
        · have h := ct h hc
          refine CG.region ?_
          refine RG.op (ok_assign hI) rfl ?_
          refine RG.op (ok_assign hI) rfl ?_
          refine RG.nil ?_
          refine AT.in_normal ?_
          refine AT.next ?_
          refine CG.seq ?_
          refine CG.seq ?_
          refine CG.region ?_
          refine RG.op (ok_move (ht rfl)) rfl ?_
          refine RG.op (ok_eqlI (ht rfl) hI) rfl ?_
          refine RG.op (ok_move (ht rfl)) rfl ?_
          refine RG.opGf rfl rfl rfl rfl (fun hg => ok_move (ht rfl)) ?_
          refine RG.opGf rfl rfl rfl rfl (fun hg => ok_neqI (htO rfl hg) hI) ?_
          refine RG.opGf rfl rfl rfl rfl (fun hg => ok_move (htO rfl hg)) ?_
          refine RG.opGot rfl rfl rfl rfl (fun hg => ok_move (ht rfl)) ?_
          refine RG.opGot rfl rfl rfl rfl (fun hg => ok_move (ht rfl)) ?_
          refine RG.opGot rfl rfl rfl rfl (fun hg => ok_neqI (htO rfl hg) (htO rfl hg)) ?_
          refine RG.opGf rfl rfl rfl rfl (fun hg => ok_pickAnd (htO rfl hg) (fun hb => (htO rfl (andi hg hb)))) ?_
          refine RG.op (ok_pickOr (ht rfl) (fun hb => (htO rfl (noti hb)))) rfl ?_
          refine RG.nil ?_
          refine AT.next ?_
          refine CG.cond (ht rfl) (fun hc => ?_) (fun hc => ?_)
          · have h := ct h hc
            refine CG.seq ?_
            refine CG.region ?_
            refine RG.op (ok_assign hI) rfl ?_
            refine RG.op (ok_assign hI) rfl ?_
            refine RG.nil ?_
            refine AT.next ?_
            refine CG.ret ?_
            refine AT.then_ret ?_
            cases so h
            exact AT.ret2 rfl rfl rfl
          · have h := cf h hc
            refine CG.skip ?_
            refine AT.next ?_
            refine CG.seq ?_
            refine CG.region ?_
            refine RG.op (ok_move (ht rfl)) rfl ?_
            refine RG.op (ok_assign (ht rfl)) rfl ?_
            refine RG.op (ok_assign hI) rfl ?_
            refine RG.nil ?_
            refine AT.next ?_
            refine CG.ret ?_
            cases so h
            exact AT.ret2 rfl rfl rfl
        · have h := cf h hc
          refine CG.seq ?_
          refine CG.region ?_
          refine RG.op (ok_fieldAddr fd64_0 rfl flDENode_0 rfl (ht rfl)) rfl ?_
          refine RG.op (ok_load ti3 rfl rfl (ht rfl)) rfl ?_
          refine RG.op (ok_eqlI (ht rfl) hI) rfl ?_
          refine RG.op (ok_move (ht rfl)) rfl ?_
          refine RG.opGf rfl rfl rfl rfl (fun hg => ok_fieldAddr fd64_0 rfl flDENode_0 rfl (ht rfl)) ?_
          refine RG.opGf rfl rfl rfl rfl (fun hg => ok_load ti3 rfl rfl (htO rfl hg)) ?_
          refine RG.opGf rfl rfl rfl rfl (fun hg => ok_eqlI (htO rfl hg) hI) ?_
          refine RG.op (ok_pickOr (ht rfl) (fun hb => (htO rfl (noti hb)))) rfl ?_
          refine RG.op (ok_move (ht rfl)) rfl ?_
          refine RG.opGf rfl rfl rfl rfl (fun hg => ok_fieldAddr fd64_0 rfl flDENode_0 rfl (ht rfl)) ?_
          refine RG.opGf rfl rfl rfl rfl (fun hg => ok_load ti3 rfl rfl (htO rfl hg)) ?_
          refine RG.opGf rfl rfl rfl rfl (fun hg => ok_eqlI (htO rfl hg) hI) ?_
          refine RG.op (ok_pickOr (ht rfl) (fun hb => (htO rfl (noti hb)))) rfl ?_
          refine RG.op (ok_assign (ht rfl)) rfl ?_
          refine RG.nil ?_
          refine AT.next ?_
          refine CG.cond (ht rfl) (fun hc => ?_) (fun hc => ?_)
          · have h := ct h hc
            refine CG.region ?_
            refine RG.op (ok_assign hI) rfl ?_
            refine RG.nil ?_
            refine AT.in_normal ?_
            refine AT.next ?_
            refine CG.seq ?_
            refine CG.seq ?_
            refine CG.region ?_
            refine RG.op (ok_move (ht rfl)) rfl ?_
            refine RG.op (ok_eqlI (ht rfl) hI) rfl ?_
            refine RG.op (ok_move (ht rfl)) rfl ?_
            refine RG.opGf rfl rfl rfl rfl (fun hg => ok_move (ht rfl)) ?_
            refine RG.opGf rfl rfl rfl rfl (fun hg => ok_neqI (htO rfl hg) hI) ?_
            refine RG.opGf rfl rfl rfl rfl (fun hg => ok_move (htO rfl hg)) ?_
            refine RG.opGot rfl rfl rfl rfl (fun hg => ok_move (ht rfl)) ?_
            refine RG.opGot rfl rfl rfl rfl (fun hg => ok_move (ht rfl)) ?_
            refine RG.opGot rfl rfl rfl rfl (fun hg => ok_neqI (htO rfl hg) (htO rfl hg)) ?_
            refine RG.opGf rfl rfl rfl rfl (fun hg => ok_pickAnd (htO rfl hg) (fun hb => (htO rfl (andi hg hb)))) ?_
            refine RG.op (ok_pickOr (ht rfl) (fun hb => (htO rfl (noti hb)))) rfl ?_
            refine RG.nil ?_
            refine AT.next ?_
            refine CG.cond (ht rfl) (fun hc => ?_) (fun hc => ?_)
            · have h := ct h hc
              refine CG.seq ?_
              refine CG.region ?_
              refine RG.op (ok_assign hI) rfl ?_
              refine RG.op (ok_assign hI) rfl ?_
              refine RG.nil ?_
              refine AT.next ?_
              refine CG.ret ?_
              refine AT.then_ret ?_
              cases so h
              exact AT.ret2 rfl rfl rfl
            · have h := cf h hc
              refine CG.skip ?_
              refine AT.next ?_
              refine CG.seq ?_
              refine CG.region ?_
              refine RG.op (ok_move (ht rfl)) rfl ?_
              refine RG.op (ok_assign (ht rfl)) rfl ?_
              refine RG.op (ok_assign hI) rfl ?_
              refine RG.nil ?_
              refine AT.next ?_
              refine CG.ret ?_
              cases so h
              exact AT.ret2 rfl rfl rfl
          · have h := cf h hc
            refine CG.skip ?_
            refine AT.in_normal ?_
            refine AT.next ?_
            refine CG.seq ?_
            refine CG.seq ?_
            refine CG.region ?_
            refine RG.op (ok_move (ht rfl)) rfl ?_
            refine RG.op (ok_eqlI (ht rfl) hI) rfl ?_
            refine RG.op (ok_move (ht rfl)) rfl ?_
            refine RG.opGf rfl rfl rfl rfl (fun hg => ok_move (ht rfl)) ?_
            refine RG.opGf rfl rfl rfl rfl (fun hg => ok_neqI (htO rfl hg) hI) ?_
            refine RG.opGf rfl rfl rfl rfl (fun hg => ok_move (htO rfl hg)) ?_
            refine RG.opGot rfl rfl rfl rfl (fun hg => ok_move (ht rfl)) ?_
            refine RG.opGot rfl rfl rfl rfl (fun hg => ok_move (ht rfl)) ?_
            refine RG.opGot rfl rfl rfl rfl (fun hg => ok_neqI (htO rfl hg) (htO rfl hg)) ?_
            refine RG.opGf rfl rfl rfl rfl (fun hg => ok_pickAnd (htO rfl hg) (fun hb => (htO rfl (andi hg hb)))) ?_
            refine RG.op (ok_pickOr (ht rfl) (fun hb => (htO rfl (noti hb)))) rfl ?_
            refine RG.nil ?_
            refine AT.next ?_
            refine CG.cond (ht rfl) (fun hc => ?_) (fun hc => ?_)
            · have h := ct h hc
              refine CG.seq ?_
              refine CG.region ?_
              refine RG.op (ok_assign hI) rfl ?_
              refine RG.op (ok_assign hI) rfl ?_
              refine RG.nil ?_
              refine AT.next ?_
              refine CG.ret ?_
              refine AT.then_ret ?_
              cases so h
              exact AT.ret2 rfl rfl rfl
            · have h := cf h hc
              refine CG.skip ?_
              refine AT.next ?_
              refine CG.seq ?_
              refine CG.region ?_
              refine RG.op (ok_move (ht rfl)) rfl ?_
              refine RG.op (ok_assign (ht rfl)) rfl ?_
              refine RG.op (ok_assign hI) rfl ?_
              refine RG.nil ?_
              refine AT.next ?_
              refine CG.ret ?_
              cases so h
              exact AT.ret2 rfl rfl rfl
  · obtain ⟨hx, h⟩ := h
    refine LG.unfold ?_
    refine CG.seq ?_
    refine CG.region ?_
    refine RG.op (ok_lss (ht rfl) (ht rfl)) rfl ?_
    refine RG.nil ?_
    refine AT.next ?_
    refine CG.seq ?_
    refine CG.condT (ht rfl) (dropT hx) ?_
    refine CG.skip ?_
    refine AT.next ?_
    refine CG.seq ?_
    refine CG.block ?_
    refine CG.seq ?_
    refine CG.region ?_
    refine RG.op (ok_indexAddr Try.underlying25 ti3 rfl (ht rfl) (ht rfl) (dropI hx)) rfl ?_
    refine RG.op (ok_load ti3 rfl rfl (ht rfl)) rfl ?_
    refine RG.op (ok_assign (ht rfl)) rfl ?_
    refine RG.nil ?_
    refine AT.next ?_
    refine CG.block ?_
    refine CG.seq ?_
    refine CG.region ?_
    refine RG.op (ok_move (ht rfl)) rfl ?_
    refine RG.op (ok_eqlI (ht rfl) hI) rfl ?_
    refine RG.op (ok_move (ht rfl)) rfl ?_
    refine RG.opGf rfl rfl rfl rfl (fun hg => ok_move (ht rfl)) ?_
    refine RG.opGf rfl rfl rfl rfl (fun hg => ok_move (ht rfl)) ?_
    refine RG.opGf rfl rfl rfl rfl (fun hg => ok_eqlI (htO rfl hg) (htO rfl hg)) ?_
    refine RG.op (ok_pickOr (ht rfl) (fun hb => (htO rfl (noti hb)))) rfl ?_
    refine RG.op (ok_assign (ht rfl)) rfl ?_
    refine RG.nil ?_
    refine AT.next ?_
    refine CG.cond (ht rfl) (fun hc => ?_) (fun hc => ?_)
    · have h := ct h hc
      refine CG.skip ?_
      refine AT.in_normal ?_
      refine AT.in_normal ?_
      refine AT.next ?_
      refine CG.region ?_
      refine RG.op (ok_incN (dropL hx hN) (ht rfl) hI) rfl ?_
      refine RG.op (ok_move (ht rfl)) rfl ?_
      refine RG.nil ?_
      exact AT.round (LG.sub (ih (i + 1) own ⟨dropS hx, h⟩) ⟨rfl, rfl, rfl, rfl, rfl, rfl, trivial⟩)
    · have h := cf h hc
      refine CG.seq ?_
      refine CG.region ?_
      refine RG.op (ok_move (ht rfl)) rfl ?_
      refine RG.op (ok_eqlI (ht rfl) hI) rfl ?_
      refine RG.op (ok_assign (ht rfl)) rfl ?_
      refine RG.nil ?_
      refine AT.next ?_
      refine CG.cond (ht rfl) (fun hc => ?_) (fun hc => ?_)
      · have h := ct h hc
        refine CG.region ?_
        refine RG.op (ok_move (ht rfl)) rfl ?_
        refine RG.op (ok_assign (ht rfl)) rfl ?_
        refine RG.nil ?_
        refine AT.in_normal ?_
        refine AT.in_normal ?_
        refine AT.next ?_
        refine CG.region ?_
        refine RG.op (ok_incN (dropL hx hN) (ht rfl) hI) rfl ?_
        refine RG.op (ok_move (ht rfl)) rfl ?_
        refine RG.nil ?_
        exact AT.round (LG.sub (ih (i + 1) e ⟨dropS hx, h⟩) ⟨rfl, rfl, rfl, rfl, rfl, rfl, trivial⟩)
      · have h := cf h hc
        refine CG.region ?_
        refine RG.op (ok_assign hI) rfl ?_
        refine RG.nil ?_
        refine AT.in_normal ?_
        refine AT.in_normal ?_
        refine AT.next ?_
        refine CG.region ?_
        refine RG.op (ok_incN (dropL hx hN) (ht rfl) hI) rfl ?_
        refine RG.op (ok_move (ht rfl)) rfl ?_
        refine RG.nil ?_
        exact AT.round (LG.sub (ih (i + 1) (-1 : Int) ⟨dropS hx, h⟩) ⟨rfl, rfl, rfl, rfl, rfl, rfl, trivial⟩)

set_option maxRecDepth 100000 in
theorem f75_ok (e : DExpr) (kinds : (List Int)) {R : Int × Int} (h : expr_Kind e kinds = some R) : Spec Try.prog 75 [tD rpDExpr e, tD (rSl (rI .i64)) kinds] (tT [tD (rI .i64) R.1, tD (rI .i64) R.2]) := by
  refine Spec.of Try.func75 rfl rfl rfl fun w0 S0 => ?_
  refine CG.seq ?_
  refine CG.region ?_
  refine RG.op (ok_box (ht rfl)) rfl ?_
  refine RG.op (ok_box (ht rfl)) rfl ?_
  refine RG.op (ok_assign hI) rfl ?_
  refine RG.op (ok_assign hI) rfl ?_
  refine RG.nil ?_
  refine AT.next ?_
  refine CG.seq ?_
  refine CG.seq ?_
  refine CG.region ?_
  refine RG.op (ok_load ti28 rfl rfl (ht rfl)) rfl ?_
  obtain ⟨r, q_r, h⟩ := bs h
  refine RG.op (ok_call cb31 (f31_ok _ q_r) ⟨(ht rfl), trivial⟩) rfl ?_
  refine RG.op (ok_assign (ht rfl)) rfl ?_
  refine RG.nil ?_
  refine AT.next ?_
  refine CG.seq ?_
  refine CG.region ?_
  refine RG.op (ok_move (ht rfl)) rfl ?_
  refine RG.op (ok_neqI (ht rfl) hI) rfl ?_
  refine RG.nil ?_
  refine AT.next ?_
  refine CG.cond (ht rfl) (fun hc => ?_) (fun hc => ?_)
  · have h := ct h hc
    refine CG.seq ?_
    refine CG.region ?_
    refine RG.op (ok_move (ht rfl)) rfl ?_
    refine RG.op (ok_assign hI) rfl ?_
    refine RG.op (ok_assign (ht rfl)) rfl ?_
    refine RG.nil ?_
    refine AT.next ?_
    refine CG.ret ?_
    refine AT.then_ret ?_
    cases so h
    exact AT.ret2 rfl rfl rfl
  · have h := cf h hc
    refine CG.skip ?_
    refine AT.next ?_
    refine CG.seq ?_
    refine CG.seq ?_
    refine CG.region ?_
    refine RG.op (ok_load ti25 rfl rfl (ht rfl)) rfl ?_
    refine RG.op (ok_lenSl Try.underlying25 (ht rfl)) rfl ?_
    refine RG.op (ok_move hI) rfl ?_
    refine RG.nil ?_
    refine AT.next ?_
    refine CG.block ?_
    refine CG.have_len (k := 16) rfl (fun hN => ?_)
    refine CG.loop ?_
    refine LG.sub (LG.list1 (Z := fun ls i  => (kinds.drop i = ls) ∧ expr_Kind_l1 e kinds ls  = some R) (Of := fun _ i  => []) (Gf := fun _ i  => [(2, tPtr rpDExpr e), (3, tPtr (rSl (rI .i64)) kinds), (16, tD (rSl (rI .i64)) kinds), (17, tD (rI .i64) (kinds.length : Int)), (18, tD (rI .i64) (i : Int))]) (fun i  h => ?_) (fun e1 tl ih i  h => ?_) kinds 0  ⟨rfl, h⟩) ⟨rfl, rfl, rfl, rfl, rfl, trivial⟩
    · obtain ⟨hx, h⟩ := h
      refine LG.unfold ?_
      refine CG.seq ?_
      refine CG.region ?_
      refine RG.op (ok_lss (ht rfl) (ht rfl)) rfl ?_
      refine RG.nil ?_
      refine AT.next ?_
      refine CG.seq ?_
      refine CG.condF (ht rfl) (dropF hx) ?_
      refine CG.exit ?_
      refine AT.then_exit (AT.then_exit (AT.in_exit ?_))
      refine AT.next ?_
      refine CG.seq ?_
      refine CG.seq ?_
      refine CG.region ?_
      refine RG.op (ok_load ti28 rfl rfl (ht rfl)) rfl ?_
      obtain ⟨r1, q_r1, h⟩ := bs h
      refine RG.callO cb90 (f90_own _ q_r1) ⟨(ht rfl), trivial⟩ rfl (fun l c => ?_)
      refine RG.op (ok_lenO Try.underlying25 (.head _) (ht rfl)) rfl ?_
      refine RG.op (ok_move hI) rfl ?_
      refine RG.nil ?_
      refine AT.next ?_
      refine CG.block ?_
      refine CG.have_lenA (.head _) (fun hN1 => ?_)
      refine CG.loop ?_
      refine LG.sub (LG.list1 (Z := fun ls1 i1  => (r1.drop i1 = ls1) ∧ expr_Kind_l2 e kinds ls1  = some R) (Of := fun _ i1  => [arr (rI .i64) 3 l c r1]) (Gf := fun _ i1  => [(2, tPtr rpDExpr e), (3, tPtr (rSl (rI .i64)) kinds), (30, tV (oslV l c r1.length)), (31, tD (rI .i64) (r1.length : Int)), (32, tD (rI .i64) (i1 : Int))]) (fun i1  h => ?_) (fun e2 tl1 ih1 i1  h => ?_) r1 0  ⟨rfl, h⟩) ⟨rfl, rfl, rfl, rfl, rfl, trivial⟩
      · obtain ⟨hx1, h⟩ := h
        refine LG.unfold ?_
        refine CG.seq ?_
        refine CG.region ?_
        refine RG.op (ok_lss (ht rfl) (ht rfl)) rfl ?_
        refine RG.nil ?_
        refine AT.next ?_
        refine CG.seq ?_
        refine CG.condF (ht rfl) (dropF hx1) ?_
        refine CG.exit ?_
        refine AT.then_exit (AT.then_exit (AT.in_exit ?_))
        refine AT.next ?_
        refine CG.seq ?_
        refine CG.region ?_
        refine RG.op (ok_load ti28 rfl rfl (ht rfl)) rfl ?_
        refine RG.op ((show OpOK _ _ _ _ ((tFun Try.prog (fun (x : DENode × (List Int)) => [tD rpDENode x.1, tD (rSl (rI .i64)) x.2]) (fun (x : Int × Int) => tT [tD (rI .i64) x.1, tD (rI .i64) x.2]) (fun (x : DENode × (List Int)) => (expr_Kind_1 kinds) x.1 x.2))) from ok_makeFunc (cts := [tPtr (rSl (rI .i64)) kinds]) (caps := [.tmp 3]) cb92 ⟨(ht rfl), trivial⟩ (fun x y h => f92_ok _ _ _ h))) rfl ?_
        obtain ⟨r2, q_r2, h⟩ := bs h
        refine RG.op (ok_call cb91 (f91_ok _ _ q_r2) ⟨(ht rfl), (ht rfl), trivial⟩) rfl ?_
        refine RG.op (ok_extract rfl (ht rfl)) rfl ?_
        refine RG.op (ok_extract rfl (ht rfl)) rfl ?_
        refine RG.op (ok_assign (ht rfl)) rfl ?_
        refine RG.op (ok_assign (ht rfl)) rfl ?_
        refine RG.nil ?_
        refine AT.next ?_
        refine CG.ret ?_
        refine AT.drop ?_
        cases so h
        exact AT.ret2 rfl rfl rfl
      · obtain ⟨hx1, h⟩ := h
        refine LG.unfold ?_
        refine CG.seq ?_
        refine CG.region ?_
        refine RG.op (ok_lss (ht rfl) (ht rfl)) rfl ?_
        refine RG.nil ?_
        refine AT.next ?_
        refine CG.seq ?_
        refine CG.condT (ht rfl) (dropT hx1) ?_
        refine CG.skip ?_
        refine AT.next ?_
        refine CG.seq ?_
        refine CG.block ?_
        refine CG.seq ?_
        refine CG.region ?_
        refine RG.op (ok_indexAddrO Try.underlying25 ti3 (.head _) (ht rfl) (ht rfl) (dropI hx1)) rfl ?_
        refine RG.op (ok_loadE (r := (rI .i64)) (i := (i1 : Int)) (foff := 0) ti3 rfl rfl fld_whole rfl (.head _) (dropI hx1) (ht rfl)) rfl ?_
        refine RG.op (ok_assign (ht rfl)) rfl ?_
        refine RG.nil ?_
        refine AT.next ?_
        refine CG.seq ?_
        refine CG.region ?_
        refine RG.op (ok_move (ht rfl)) rfl ?_
        refine RG.op (ok_load ti25 rfl rfl (ht rfl)) rfl ?_
        refine RG.op (ok_lenSl Try.underlying25 (ht rfl)) rfl ?_
        refine RG.op (ok_geq (ht rfl) (ht rfl)) rfl ?_
        refine RG.nil ?_
        refine AT.next ?_
        refine CG.cond (ht rfl) (fun hc => ?_) (fun hc => ?_)
        · have h := ct h hc
          refine CG.seq ?_
          refine CG.region ?_
          refine RG.op (ok_assign hI) rfl ?_
          refine RG.op (ok_assign hI) rfl ?_
          refine RG.nil ?_
          refine AT.next ?_
          refine CG.ret ?_
          refine AT.in_ret (AT.then_ret (AT.then_ret (AT.in_ret (AT.then_ret ?_))))
          refine AT.drop ?_
          cases so h
          exact AT.ret2 rfl rfl rfl
        · have h := cf h hc
          refine CG.skip ?_
          refine AT.in_normal ?_
          refine AT.next ?_
          refine CG.region ?_
          refine RG.op (ok_incN (dropL hx1 hN1) (ht rfl) hI) rfl ?_
          refine RG.op (ok_move (ht rfl)) rfl ?_
          refine RG.nil ?_
          exact AT.round (LG.sub (ih1 (i1 + 1)  ⟨dropS hx1, h⟩) ⟨rfl, rfl, rfl, rfl, rfl, trivial⟩)
    · obtain ⟨hx, h⟩ := h
      refine LG.unfold ?_
      refine CG.seq ?_
      refine CG.region ?_
      refine RG.op (ok_lss (ht rfl) (ht rfl)) rfl ?_
      refine RG.nil ?_
      refine AT.next ?_
      refine CG.seq ?_
      refine CG.condT (ht rfl) (dropT hx) ?_
      refine CG.skip ?_
      refine AT.next ?_
      refine CG.seq ?_
      refine CG.block ?_
      refine CG.seq ?_
      refine CG.region ?_
      refine RG.op (ok_indexAddr Try.underlying25 ti3 rfl (ht rfl) (ht rfl) (dropI hx)) rfl ?_
      refine RG.op (ok_load ti3 rfl rfl (ht rfl)) rfl ?_
      refine RG.op (ok_assign (ht rfl)) rfl ?_
      refine RG.nil ?_
      refine AT.next ?_
      refine CG.seq ?_
      refine CG.region ?_
      refine RG.op (ok_move (ht rfl)) rfl ?_
      refine RG.op (ok_lss (ht rfl) hI) rfl ?_
      refine RG.op (ok_move (ht rfl)) rfl ?_
      refine RG.opGf rfl rfl rfl rfl (fun hg => ok_move (ht rfl)) ?_
      refine RG.opGf rfl rfl rfl rfl (fun hg => ok_gtr (htO rfl hg) hI) ?_
      refine RG.op (ok_pickOr (ht rfl) (fun hb => (htO rfl (noti hb)))) rfl ?_
      refine RG.nil ?_
      refine AT.next ?_
      refine CG.cond (ht rfl) (fun hc => ?_) (fun hc => ?_)
      · have h := ct h hc
        refine CG.seq ?_
        refine CG.region ?_
        refine RG.op (ok_assign hI) rfl ?_
        refine RG.op (ok_assign hI) rfl ?_
        refine RG.nil ?_
        refine AT.next ?_
        refine CG.ret ?_
        refine AT.in_ret (AT.then_ret (AT.then_ret (AT.in_ret (AT.then_ret ?_))))
        cases so h
        exact AT.ret2 rfl rfl rfl
      · have h := cf h hc
        refine CG.skip ?_
        refine AT.in_normal ?_
        refine AT.next ?_
        refine CG.region ?_
        refine RG.op (ok_incN (dropL hx hN) (ht rfl) hI) rfl ?_
        refine RG.op (ok_move (ht rfl)) rfl ?_
        refine RG.nil ?_
        exact AT.round (LG.sub (ih (i + 1)  ⟨dropS hx, h⟩) ⟨rfl, rfl, rfl, rfl, rfl, trivial⟩)

end Go.Proofs.Ytbhkincjkpeaoaa

