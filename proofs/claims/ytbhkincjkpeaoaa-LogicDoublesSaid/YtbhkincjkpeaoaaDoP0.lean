/- Facts of this claim: P0. -/
import Derived.Test.YtbhkincjkpeaoaaDoT
import Derived.Test.YtbhkincjkpeaoaaDoF
namespace Go.Proofs.Ytbhkincjkpeaoaa
open Go

set_option maxRecDepth 100000 in
theorem f69_ok (k : Int) {R : Bool} (h : logic_plain k = some R) : Spec Try.prog 69 [tD (rI .i64) k] (tD rB R) := by
  refine Spec.of Try.func69 rfl rfl rfl fun w0 S0 => ?_
  refine CG.seq ?_
  refine CG.region ?_
  refine RG.op (ok_assign hB) rfl ?_
  refine RG.nil ?_
  refine AT.next ?_
  refine CG.seq ?_
  refine CG.region ?_
  refine RG.op (ok_move (ht rfl)) rfl ?_
  refine RG.op (ok_eqlI (ht rfl) hI) rfl ?_
  refine RG.op (ok_move (ht rfl)) rfl ?_
  refine RG.opGf rfl rfl rfl rfl (fun hg => ok_move (ht rfl)) ?_
  refine RG.opGf rfl rfl rfl rfl (fun hg => ok_eqlI (htO rfl hg) hI) ?_
  refine RG.op (ok_pickOr (ht rfl) (fun hb => (htO rfl (noti hb)))) rfl ?_
  refine RG.op (ok_move (ht rfl)) rfl ?_
  refine RG.opGf rfl rfl rfl rfl (fun hg => ok_move (ht rfl)) ?_
  refine RG.opGf rfl rfl rfl rfl (fun hg => ok_eqlI (htO rfl hg) hI) ?_
  refine RG.op (ok_pickOr (ht rfl) (fun hb => (htO rfl (noti hb)))) rfl ?_
  refine RG.op (ok_assign (ht rfl)) rfl ?_
  refine RG.nil ?_
  refine AT.next ?_
  refine CG.ret ?_
  cases so h
  exact AT.ret1 rfl rfl

set_option maxRecDepth 100000 in
theorem f68_ok (k : Int) {R : Bool} (h : logic_checker_scan_1 k = some R) : Spec Try.prog 68 [tD (rI .i64) k] (tD rB R) := by
  refine Spec.of Try.func68 rfl rfl rfl fun w0 S0 => ?_
  refine CG.seq ?_
  refine CG.region ?_
  refine RG.op (ok_assign hB) rfl ?_
  refine RG.nil ?_
  refine AT.next ?_
  refine CG.seq ?_
  refine CG.region ?_
  refine RG.op (ok_move (ht rfl)) rfl ?_
  obtain ⟨r, q_r, h⟩ := bs h
  refine RG.op (ok_call cb69 (f69_ok _ q_r) ⟨(ht rfl), trivial⟩) rfl ?_
  refine RG.op (ok_not (ht rfl)) rfl ?_
  refine RG.op (ok_assign (ht rfl)) rfl ?_
  refine RG.nil ?_
  refine AT.next ?_
  refine CG.ret ?_
  cases so h
  exact AT.ret1 rfl rfl

set_option maxRecDepth 100000 in
theorem f87_ok (s : (List Int)) (f : (Int → Option Bool)) {R : Int} (h : slices_IndexFunc_int_int s f = some R) : Spec Try.prog 87 [tD (rSl (rI .i64)) s, (tFun Try.prog (fun (x : Int) => [tD (rI .i64) x]) (fun (x : Bool) => tD rB x) (fun (x : Int) => f x))] (tD (rI .i64) R) := by
  refine Spec.of Try.func87 rfl rfl rfl fun w0 S0 => ?_
  refine CG.seq ?_
  refine CG.region ?_
  refine RG.op (ok_assign hI) rfl ?_
  refine RG.nil ?_
  refine AT.next ?_
  refine CG.seq ?_
  refine CG.seq ?_
  refine CG.region ?_
  refine RG.op (ok_move (ht rfl)) rfl ?_
  refine RG.op (ok_lenSl Try.underlying25 (ht rfl)) rfl ?_
  refine RG.op (ok_move hI) rfl ?_
  refine RG.nil ?_
  refine AT.next ?_
  refine CG.block ?_
  refine CG.have_len (k := 6) rfl (fun hN => ?_)
  refine CG.loop ?_
  refine LG.sub (LG.list1 (Z := fun ls i  => (s.drop i = ls) ∧ slices_IndexFunc_int_int_l1 f ls i  = some R) (Of := fun _ i  => []) (Gf := fun _ i  => [(0, tD (rSl (rI .i64)) s), (1, (tFun Try.prog (fun (x : Int) => [tD (rI .i64) x]) (fun (x : Bool) => tD rB x) (fun (x : Int) => f x))), (7, tD (rI .i64) (s.length : Int)), (8, tD (rI .i64) (i : Int))]) (fun i  h => ?_) (fun e tl ih i  h => ?_) s 0  ⟨rfl, h⟩) ⟨rfl, rfl, rfl, rfl, trivial⟩
  · obtain ⟨hx, h⟩ := h
    refine LG.unfold ?_
    refine CG.seq ?_
    refine CG.region ?_
    refine RG.op (ok_lss (ht rfl) (ht rfl)) rfl ?_
    refine RG.nil ?_
    refine AT.next ?_
    refine CG.seq ?_
    refine CG.condF (ht rfl) (dropF hx) ?_
    refine CG.exit ?_
    refine AT.then_exit (AT.then_exit (AT.in_exit ?_))
    refine AT.next ?_
    refine CG.seq ?_
    refine CG.region ?_
    refine RG.op (ok_assign hI) rfl ?_
    refine RG.nil ?_
    refine AT.next ?_
    refine CG.ret ?_
    cases so h
    exact AT.ret1 rfl rfl
  · obtain ⟨hx, h⟩ := h
    refine LG.unfold ?_
    refine CG.seq ?_
    refine CG.region ?_
    refine RG.op (ok_lss (ht rfl) (ht rfl)) rfl ?_
    refine RG.nil ?_
    refine AT.next ?_
    refine CG.seq ?_
    refine CG.condT (ht rfl) (dropT hx) ?_
    refine CG.skip ?_
    refine AT.next ?_
    refine CG.seq ?_
    refine CG.block ?_
    refine CG.seq ?_
    refine CG.region ?_
    refine RG.op (ok_move (ht rfl)) rfl ?_
    refine RG.op (ok_assign (ht rfl)) rfl ?_
    refine RG.nil ?_
    refine AT.next ?_
    refine CG.seq ?_
    refine CG.region ?_
    refine RG.op (ok_move (ht rfl)) rfl ?_
    refine RG.op (ok_move (ht rfl)) rfl ?_
    refine RG.op (ok_move (ht rfl)) rfl ?_
    refine RG.op (ok_indexAddr Try.underlying25 ti3 rfl (ht rfl) (ht rfl) (dropI hx)) rfl ?_
    refine RG.op (ok_load ti3 rfl rfl (ht rfl)) rfl ?_
    obtain ⟨r, q_r, h⟩ := bs h
    refine RG.op (ok_callV (args := (fun (x : Int) => [tD (rI .i64) x])) (res := (fun (x : Bool) => tD rB x)) (f := (fun (x : Int) => f x)) (x := ((e) : Int)) (ht rfl) q_r ⟨(ht rfl), trivial⟩) rfl ?_
    refine RG.nil ?_
    refine AT.next ?_
    refine CG.cond (ht rfl) (fun hc => ?_) (fun hc => ?_)
    · have h := ct h hc
      refine CG.seq ?_
      refine CG.region ?_
      refine RG.op (ok_move (ht rfl)) rfl ?_
      refine RG.op (ok_assign (ht rfl)) rfl ?_
      refine RG.nil ?_
      refine AT.next ?_
      refine CG.ret ?_
      refine AT.in_ret (AT.then_ret (AT.then_ret (AT.in_ret (AT.then_ret ?_))))
      cases so h
      exact AT.ret1 rfl rfl
    · have h := cf h hc
      refine CG.skip ?_
      refine AT.in_normal ?_
      refine AT.next ?_
      refine CG.region ?_
      refine RG.op (ok_incN (dropL hx hN) (ht rfl) hI) rfl ?_
      refine RG.op (ok_move (ht rfl)) rfl ?_
      refine RG.nil ?_
      exact AT.round (LG.sub (ih (i + 1)  ⟨dropS hx, h⟩) ⟨rfl, rfl, rfl, rfl, trivial⟩)

set_option maxRecDepth 100000 in
theorem f70_ok (s : (List Int)) (f : (Int → Option Bool)) {R : Bool} (h : slices_ContainsFunc_int_int s f = some R) : Spec Try.prog 70 [tD (rSl (rI .i64)) s, (tFun Try.prog (fun (x : Int) => [tD (rI .i64) x]) (fun (x : Bool) => tD rB x) (fun (x : Int) => f x))] (tD rB R) := by
  refine Spec.of Try.func70 rfl rfl rfl fun w0 S0 => ?_
  refine CG.seq ?_
  refine CG.region ?_
  refine RG.op (ok_assign hB) rfl ?_
  refine RG.nil ?_
  refine AT.next ?_
  refine CG.seq ?_
  refine CG.region ?_
  refine RG.op (ok_move (ht rfl)) rfl ?_
  refine RG.op (ok_move (ht rfl)) rfl ?_
  obtain ⟨r, q_r, h⟩ := bs h
  refine RG.op (ok_call cb87 (f87_ok _ _ q_r) ⟨(ht rfl), (ht rfl), trivial⟩) rfl ?_
  refine RG.op (ok_geq (ht rfl) hI) rfl ?_
  refine RG.op (ok_assign (ht rfl)) rfl ?_
  refine RG.nil ?_
  refine AT.next ?_
  refine CG.ret ?_
  cases so h
  exact AT.ret1 rfl rfl

set_option maxRecDepth 100000 in
theorem f40_o (b : Nat) (ix : OI) (c : Dchecker) (n : DLNode) {R : (List Int) × Bool} (h : logic_checker_scan c n = some R) : SpecM Try.prog 40 [tV (bptr b 0), tD rpDLNode n] (ob58 b c ix) (fun _ : OI => tT [tD (rSl (rI .i64)) R.1, tD rB R.2]) (fun _ => (ob58 b c ix)) := by
  refine SpecM.of Try.func40 rfl rfl rfl fun w0 S0 => ?_
  refine (show CG _ _ _ [bx (rH rpDchecker [(1, oslV (ix.h 0).1 (ix.h 0).2 c.kinds.length), (2, oslV (ix.h 1).1 (ix.h 1).2 c.first.length)]) 58 b c, tip (rSl (rI .i64)) 25 (ix.h 0).1 (ix.h 0).2 c.kinds, tip (rI .i64) 3 (ix.h 1).1 (ix.h 1).2 c.first] _ from ?_)
  refine CG.seq ?_
  refine CG.region ?_
  refine RG.op (ok_box (ht rfl)) rfl ?_
  refine RG.op (ok_assign (show HasTy _ _ _ (tD (rSl (rI .i64)) ([])) from hNil)) rfl ?_
  refine RG.op (ok_assign hB) rfl ?_
  refine RG.nil ?_
  refine AT.next ?_
  refine CG.seq ?_
  refine CG.region ?_
  refine RG.op (ok_assign (show HasTy _ _ _ ((tFun Try.prog (fun (x : Int) => [tD (rI .i64) x]) (fun (x : Bool) => tD rB x) (fun (x : Int) => logic_checker_scan_1 x))) from (hFn cb68 fun x y h => f68_ok _ h))) rfl ?_
  refine RG.nil ?_
  refine AT.next ?_
  refine CG.seq ?_
  refine CG.region ?_
  refine RG.op (ok_fieldAddr fd33_3 rfl flDLNode_3 rfl (ht rfl)) rfl ?_
  refine RG.op (ok_load ti3 rfl rfl (ht rfl)) rfl ?_
  refine RG.op (ok_geq (ht rfl) hI) rfl ?_
  refine RG.op (ok_move (ht rfl)) rfl ?_
  refine RG.opGt rfl rfl rfl rfl (fun hg => ok_fieldAddr fd33_3 rfl flDLNode_3 rfl (ht rfl)) ?_
  refine RG.opGt rfl rfl rfl rfl (fun hg => ok_load ti3 rfl rfl (htO rfl hg)) ?_
  refine RG.opGt rfl rfl rfl rfl (fun hg => ok_lss (htO rfl hg) hI) ?_
  refine RG.op (ok_pickAnd (ht rfl) (fun hb => (htO rfl hb))) rfl ?_
  refine RG.op (ok_move (ht rfl)) rfl ?_
  refine RG.opGt rfl rfl rfl rfl (fun hg => ok_fieldAddr fd33_4 rfl flDLNode_4 rfl (ht rfl)) ?_
  refine RG.opGt rfl rfl rfl rfl (fun hg => ok_load ti25 rfl rfl (htO rfl hg)) ?_
  refine RG.opGt rfl rfl rfl rfl (fun hg => ok_lenSl Try.underlying25 (htO rfl hg)) ?_
  refine RG.opGt rfl rfl rfl rfl (fun hg => ok_geq (htO rfl hg) hI) ?_
  refine RG.op (ok_pickAnd (ht rfl) (fun hb => (htO rfl hb))) rfl ?_
  refine RG.op (ok_move (ht rfl)) rfl ?_
  refine RG.opGt rfl rfl rfl rfl (fun hg => ok_fieldAddr fd33_4 rfl flDLNode_4 rfl (ht rfl)) ?_
  refine RG.opGt rfl rfl rfl rfl (fun hg => ok_load ti25 rfl rfl (htO rfl hg)) ?_
  refine RG.opGt rfl rfl rfl rfl (fun hg => ok_lenSl Try.underlying25 (htO rfl hg)) ?_
  refine RG.opGt rfl rfl rfl rfl (fun hg => ok_leq (htO rfl hg) hI) ?_
  refine RG.op (ok_pickAnd (ht rfl) (fun hb => (htO rfl hb))) rfl ?_
  refine RG.op (ok_assign (ht rfl)) rfl ?_
  refine RG.nil ?_
  refine AT.next ?_
  refine CG.seq ?_
  obtain ⟨t, q_t, h⟩ := bs h
  obtain ⟨r, h1t, h0t⟩ := og q_t
  have q_rg := fun hb => (h1t hb).1
  refine CG.draw (ts := [tPtr (rSl (rI .i64)) n.Kinds, tD (rSl (rI .i64)) n.Kinds, tD rB ((((decide ((0 : Int) ≤ n.Table)) && (decide (n.Table < (4 : Int)))) && (decide ((1 : Int) ≤ (n.Kinds.length : Int)))) && (decide ((n.Kinds.length : Int) ≤ (4 : Int)))), tD rB ((((decide ((0 : Int) ≤ n.Table)) && (decide (n.Table < (4 : Int)))) && (decide ((1 : Int) ≤ (n.Kinds.length : Int)))) && (decide ((n.Kinds.length : Int) ≤ (4 : Int)))), tOpt ((((decide ((0 : Int) ≤ n.Table)) && (decide (n.Table < (4 : Int)))) && (decide ((1 : Int) ≤ (n.Kinds.length : Int)))) && (decide ((n.Kinds.length : Int) ≤ (4 : Int)))) (tPtr (rSl (rI .i64)) n.Kinds), tOpt ((((decide ((0 : Int) ≤ n.Table)) && (decide (n.Table < (4 : Int)))) && (decide ((1 : Int) ≤ (n.Kinds.length : Int)))) && (decide ((n.Kinds.length : Int) ≤ (4 : Int)))) (tD (rSl (rI .i64)) n.Kinds), tOpt ((((decide ((0 : Int) ≤ n.Table)) && (decide (n.Table < (4 : Int)))) && (decide ((1 : Int) ≤ (n.Kinds.length : Int)))) && (decide ((n.Kinds.length : Int) ≤ (4 : Int)))) ((tFun Try.prog (fun (x : Int) => [tD (rI .i64) x]) (fun (x : Bool) => tD rB x) (fun (x : Int) => logic_checker_scan_1 x))), tOpt ((((decide ((0 : Int) ≤ n.Table)) && (decide (n.Table < (4 : Int)))) && (decide ((1 : Int) ≤ (n.Kinds.length : Int)))) && (decide ((n.Kinds.length : Int) ≤ (4 : Int)))) (tD rB r), tOpt ((((decide ((0 : Int) ≤ n.Table)) && (decide (n.Table < (4 : Int)))) && (decide ((1 : Int) ≤ (n.Kinds.length : Int)))) && (decide ((n.Kinds.length : Int) ≤ (4 : Int)))) (tD rB (!r)), tD rB t, tD (rSl (rI .i64)) n.Kinds, tD rB t]) mixed rfl rfl
    ⟨⟨[⟨3, _, none⟩], _, rfl, ⟨rfl, trivial⟩, rfl, rfl, OpG.plain rfl (ok_fieldAddr fd33_4 rfl flDLNode_4 rfl (ht rfl))⟩,
    ⟨⟨[⟨28, _, some 0⟩], _, rfl, ⟨rfl, trivial⟩, rfl, rfl, OpG.plain rfl (ok_load ti25 rfl rfl (ht rfl))⟩,
    ⟨⟨[⟨7, _, none⟩], _, rfl, ⟨rfl, trivial⟩, rfl, rfl, OpG.plain rfl (ok_move (ht rfl))⟩,
    ⟨⟨[⟨30, _, some 2⟩], _, rfl, ⟨rfl, trivial⟩, rfl, rfl, OpG.plain rfl (ok_move (ht rfl))⟩,
    ⟨⟨[⟨3, _, none⟩, ⟨31, _, some 3⟩], _, rfl, ⟨rfl, rfl, trivial⟩, rfl, rfl, OpG.gt rfl rfl rfl rfl (fun hg => ok_fieldAddr fd33_4 rfl flDLNode_4 rfl (ht rfl))⟩,
    ⟨⟨[⟨32, _, some 4⟩, ⟨31, _, some 3⟩], _, rfl, ⟨rfl, rfl, trivial⟩, rfl, rfl, OpG.gt rfl rfl rfl rfl (fun hg => ok_load ti25 rfl rfl (htO rfl hg))⟩,
    ⟨⟨[⟨6, _, none⟩, ⟨31, _, some 3⟩], _, rfl, ⟨rfl, rfl, trivial⟩, rfl, rfl, OpG.gt rfl rfl rfl rfl (fun hg => ok_move (ht rfl))⟩,
    ⟨⟨[⟨33, _, some 5⟩, ⟨34, _, some 6⟩, ⟨31, _, some 3⟩], _, rfl, ⟨rfl, rfl, rfl, trivial⟩, rfl, rfl, OpG.gt rfl rfl rfl rfl (fun hg => ok_call cb70 (f70_ok _ _ (q_rg hg)) ⟨(htO rfl hg), (htO rfl hg), trivial⟩)⟩,
    ⟨⟨[⟨35, _, some 7⟩, ⟨31, _, some 3⟩], _, rfl, ⟨rfl, rfl, trivial⟩, rfl, rfl, OpG.gt rfl rfl rfl rfl (fun hg => ok_not (htO rfl hg))⟩,
    ⟨⟨[⟨31, _, some 3⟩, ⟨36, _, some 8⟩], _, rfl, ⟨rfl, rfl, trivial⟩, rfl, rfl, OpG.plain rfl (ok_pickAndM (ht rfl) (fun hb => (htO rfl hb)) (fun hb => (h1t hb).2) h0t)⟩,
    ⟨⟨[⟨29, _, some 1⟩], _, rfl, ⟨rfl, trivial⟩, rfl, rfl, OpG.plain rfl (ok_assign (ht rfl))⟩,
    ⟨⟨[⟨37, _, some 9⟩], _, rfl, ⟨rfl, trivial⟩, rfl, rfl, OpG.plain rfl (ok_assign (ht rfl))⟩,
    trivial⟩⟩⟩⟩⟩⟩⟩⟩⟩⟩⟩⟩ ?_
  refine AT.next ?_
  refine CG.ret ?_
  refine AT.front2 ?_
  refine AT.front2 ?_
  refine AT.front2 ?_
  cases so h
  exact AT.retML (ts := [tD (rSl (rI .i64)) n.Kinds, tD rB t]) (rvs := [.tmp 4, .tmp 5]) rfl rfl ⟨res_tmp rfl, res_tmp rfl, trivial⟩ zoi rfl rfl

set_option maxRecDepth 100000 in
theorem f88_own (n : Int) {R : (List Int)} (h : slices_Grow_int_int n = some R) : SpecO Try.prog 88 [tV (.slice none 0 0), tD (rI .i64) n] false (rI .i64) 3 R := by
  refine SpecO.of Try.func88 rfl rfl rfl fun w0 S0 => ?_
  refine CG.seq ?_
  refine CG.region ?_
  refine RG.fresh false (rI .i64) 3 ?_
  refine RG.op (ok_assign hVn) rfl ?_
  refine RG.nil ?_
  refine AT.next ?_
  refine CG.sjoin0 (Z := slices_Grow_int_int_k1 n = some R) (Of := []) (Gf := [(0, tV (.slice none 0 0)), (1, tD (rI .i64) n)]) (fun h => ?_) (fun K => ?_)
  · skip
    refine CG.sjoin3 (Z := fun s l c => slices_Grow_int_int_k2 s = some R) (Of := fun s l c => [arr (rI .i64) 3 l c s]) (Gf := fun s l c => [(0, tV (oslV l c s.length))]) (fun s l c h => ?_) (fun K1 => ?_)
    · skip
      refine CG.seq ?_
      refine CG.region ?_
      refine RG.op (ok_move (ht rfl)) rfl ?_
      refine RG.op (ok_assign (ht rfl)) rfl ?_
      refine RG.nil ?_
      refine AT.next ?_
      refine CG.ret ?_
      cases so h
      exact AT.retO rfl rfl
    · skip
      refine CG.seq ?_
      refine CG.region ?_
      refine RG.op (ok_move (ht rfl)) rfl ?_
      refine RG.op (ok_move (ht rfl)) rfl ?_
      refine RG.op (ok_capNil Try.underlying25 (ht rfl)) rfl ?_
      refine RG.op (ok_move (ht rfl)) rfl ?_
      refine RG.op (ok_lenNil Try.underlying25 (ht rfl)) rfl ?_
      refine RG.op (ok_sub (ht rfl) (ht rfl)) rfl ?_
      refine RG.op (ok_sub (ht rfl) (ht rfl)) rfl ?_
      refine RG.op (ok_assign (ht rfl)) rfl ?_
      refine RG.nil ?_
      refine AT.next ?_
      refine CG.seq ?_
      refine CG.region ?_
      refine RG.op (ok_move (ht rfl)) rfl ?_
      refine RG.op (ok_gtr (ht rfl) hI) rfl ?_
      refine RG.nil ?_
      refine AT.next ?_
      refine CG.cond (ht rfl) (fun hc => ?_) (fun hc => ?_)
      · have h := ct h hc
        refine CG.region ?_
        refine RG.op (ok_move (ht rfl)) rfl ?_
        refine RG.op (ok_move (ht rfl)) rfl ?_
        refine RG.op (ok_capNil Try.underlying25 (ht rfl)) rfl ?_
        refine RG.op (ok_sliceNil Try.underlying25 ti3 (ht rfl) (ht rfl)) rfl ?_
        refine RG.op (ok_move (ht rfl)) rfl ?_
        obtain ⟨u, q_u, h⟩ := bs h
        obtain ⟨mk, q_mk, h⟩ := bs h
        refine RG.eff (eff_appendZ (r := (rI .i64)) (x := (0 : Int)) ti3 rfl rfl rfl rfl Try.underlying25 Try.underlying3 (fun _ => rfl) (ht rfl) (ht rfl) (gt0_some q_u) q_mk) rfl (fun i => ?_)
        refine RG.op (ok_move (ht rfl)) rfl ?_
        refine RG.op (ok_lenNil Try.underlying25 (ht rfl)) rfl ?_
        obtain ⟨y, q_y, h⟩ := bs h
        refine RG.op (ok_sliceHiO Try.underlying25 ti3 rfl (.head _) (ht rfl) (ht rfl) q_y) rfl ?_
        refine RG.cut q_y ?_
        refine RG.op (ok_assign (ht rfl)) rfl ?_
        refine RG.nil ?_
        exact AT.sub (K1 y (i.h 0).1 (i.h 0).2 h) ⟨rfl, trivial⟩
      · have h := cf h hc
        refine CG.skip ?_
        refine AT.fresh false (rI .i64) 3 ?_
        exact AT.sub (K1 ([] : List Int) none 0 h) ⟨rfl, trivial⟩
  · skip
    refine CG.seq ?_
    refine CG.region ?_
    refine RG.op (ok_move (ht rfl)) rfl ?_
    refine RG.op (ok_lss (ht rfl) hI) rfl ?_
    refine RG.nil ?_
    refine AT.next ?_
    refine CG.cond (ht rfl) (fun hc => ?_) (fun hc => ?_)
    · have h := ct h hc
      refine CG.region ?_
      exact (nn h).elim
    · have h := cf h hc
      refine CG.skip ?_
      refine AT.drop ?_
      exact AT.sub (K h) ⟨rfl, rfl, trivial⟩
set_option maxRecDepth 100000 in
theorem f71_own (slices : (List (List Int))) {R : (List Int)} (h : slices_Concat_int_int slices = some R) : SpecO Try.prog 71 [tD (rSl (rSl (rI .i64))) slices] false (rI .i64) 3 R := by
  refine SpecO.of Try.func71 rfl rfl rfl fun w0 S0 => ?_
  refine CG.seq ?_
  refine CG.region ?_
  refine RG.fresh false (rI .i64) 3 ?_
  refine RG.op (ok_assign hVn) rfl ?_
  refine RG.nil ?_
  refine AT.next ?_
  refine CG.seq ?_
  refine CG.region ?_
  refine RG.op (ok_assign hI) rfl ?_
  refine RG.nil ?_
  refine AT.next ?_
  refine CG.seq ?_
  refine CG.seq ?_
  refine CG.region ?_
  refine RG.op (ok_move (ht rfl)) rfl ?_
  refine RG.op (ok_lenSl Try.underlying56 (ht rfl)) rfl ?_
  refine RG.op (ok_move hI) rfl ?_
  refine RG.nil ?_
  refine AT.next ?_
  refine CG.block ?_
  refine CG.have_len (k := 9) rfl (fun hN => ?_)
  refine CG.loop ?_
  refine LG.drop ?_
  refine LG.sub (LG.list2 (Z := fun ls i size => (slices.drop i = ls) ∧ slices_Concat_int_int_l1 slices ls size = some R) (Of := fun _ i size => []) (Gf := fun _ i size => [(0, tD (rSl (rSl (rI .i64))) slices), (3, tD (rI .i64) size), (9, tD (rSl (rSl (rI .i64))) slices), (10, tD (rI .i64) (slices.length : Int)), (11, tD (rI .i64) (i : Int))]) (fun i size h => ?_) (fun e tl ih i size h => ?_) slices 0 (0 : Int) ⟨rfl, h⟩) ⟨rfl, rfl, rfl, rfl, rfl, trivial⟩
  · obtain ⟨hx, h⟩ := h
    refine LG.unfold ?_
    refine CG.seq ?_
    refine CG.region ?_
    refine RG.op (ok_lss (ht rfl) (ht rfl)) rfl ?_
    refine RG.nil ?_
    refine AT.next ?_
    refine CG.seq ?_
    refine CG.condF (ht rfl) (dropF hx) ?_
    refine CG.exit ?_
    refine AT.then_exit (AT.then_exit (AT.in_exit ?_))
    refine AT.next ?_
    refine CG.seq ?_
    refine CG.region ?_
    refine RG.op (ok_move (ht rfl)) rfl ?_
    obtain ⟨r, q_r, h⟩ := bs h
    refine RG.callO cb88 (f88_own _ q_r) ⟨hV, (ht rfl), trivial⟩ rfl (fun l c => ?_)
    refine RG.op (ok_assign (ht rfl)) rfl ?_
    refine RG.nil ?_
    refine AT.next ?_
    refine CG.seq ?_
    refine CG.seq ?_
    refine CG.region ?_
    refine RG.op (ok_move (ht rfl)) rfl ?_
    refine RG.op (ok_lenSl Try.underlying56 (ht rfl)) rfl ?_
    refine RG.op (ok_move hI) rfl ?_
    refine RG.nil ?_
    refine AT.next ?_
    refine CG.block ?_
    refine CG.have_len (k := 25) rfl (fun hN1 => ?_)
    refine CG.loop ?_
    refine LG.sub (LG.list4 (Z := fun ls1 i1 newslice l1 c1 => (slices.drop i1 = ls1) ∧ slices_Concat_int_int_l2 ls1 newslice = some R) (Of := fun _ i1 newslice l1 c1 => [arr (rI .i64) 3 l1 c1 newslice]) (Gf := fun _ i1 newslice l1 c1 => [(6, tV (oslV l1 c1 newslice.length)), (25, tD (rSl (rSl (rI .i64))) slices), (26, tD (rI .i64) (slices.length : Int)), (27, tD (rI .i64) (i1 : Int))]) (fun i1 newslice l1 c1 h => ?_) (fun e1 tl1 ih1 i1 newslice l1 c1 h => ?_) slices 0 r l c ⟨rfl, h⟩) ⟨rfl, rfl, rfl, rfl, trivial⟩
    · obtain ⟨hx1, h⟩ := h
      refine LG.unfold ?_
      refine CG.seq ?_
      refine CG.region ?_
      refine RG.op (ok_lss (ht rfl) (ht rfl)) rfl ?_
      refine RG.nil ?_
      refine AT.next ?_
      refine CG.seq ?_
      refine CG.condF (ht rfl) (dropF hx1) ?_
      refine CG.exit ?_
      refine AT.then_exit (AT.then_exit (AT.in_exit ?_))
      refine AT.next ?_
      refine CG.seq ?_
      refine CG.region ?_
      refine RG.op (ok_move (ht rfl)) rfl ?_
      refine RG.op (ok_assign (ht rfl)) rfl ?_
      refine RG.nil ?_
      refine AT.next ?_
      refine CG.ret ?_
      cases so h
      exact AT.retO rfl rfl
    · obtain ⟨hx1, h⟩ := h
      refine LG.unfold ?_
      refine CG.seq ?_
      refine CG.region ?_
      refine RG.op (ok_lss (ht rfl) (ht rfl)) rfl ?_
      refine RG.nil ?_
      refine AT.next ?_
      refine CG.seq ?_
      refine CG.condT (ht rfl) (dropT hx1) ?_
      refine CG.skip ?_
      refine AT.next ?_
      refine CG.seq ?_
      refine CG.block ?_
      refine CG.seq ?_
      refine CG.region ?_
      refine RG.op (ok_indexAddr Try.underlying56 ti25 rfl (ht rfl) (ht rfl) (dropI hx1)) rfl ?_
      refine RG.op (ok_load ti25 rfl rfl (ht rfl)) rfl ?_
      refine RG.op (ok_assign (ht rfl)) rfl ?_
      refine RG.nil ?_
      refine AT.next ?_
      refine CG.region ?_
      refine RG.op (ok_move (ht rfl)) rfl ?_
      refine RG.op (ok_move (ht rfl)) rfl ?_
      obtain ⟨newslice1, q_newslice1, h⟩ := bs h
      refine RG.append ti3 rfl rfl rfl rfl Try.underlying25 rfl rfl (ht rfl) (ht rfl) q_newslice1 (fun l2 c2 => ?_)
      refine RG.op (ok_assign (ht rfl)) rfl ?_
      refine RG.nil ?_
      refine AT.in_normal ?_
      refine AT.next ?_
      refine CG.region ?_
      refine RG.op (ok_incN (dropL hx1 hN1) (ht rfl) hI) rfl ?_
      refine RG.op (ok_move (ht rfl)) rfl ?_
      refine RG.nil ?_
      exact AT.round (LG.sub (ih1 (i1 + 1) newslice1 l2 c2 ⟨dropS hx1, h⟩) ⟨rfl, rfl, rfl, rfl, trivial⟩)
  · obtain ⟨hx, h⟩ := h
    refine LG.unfold ?_
    refine CG.seq ?_
    refine CG.region ?_
    refine RG.op (ok_lss (ht rfl) (ht rfl)) rfl ?_
    refine RG.nil ?_
    refine AT.next ?_
    refine CG.seq ?_
    refine CG.condT (ht rfl) (dropT hx) ?_
    refine CG.skip ?_
    refine AT.next ?_
    refine CG.seq ?_
    refine CG.block ?_
    refine CG.seq ?_
    refine CG.region ?_
    refine RG.op (ok_indexAddr Try.underlying56 ti25 rfl (ht rfl) (ht rfl) (dropI hx)) rfl ?_
    refine RG.op (ok_load ti25 rfl rfl (ht rfl)) rfl ?_
    refine RG.op (ok_assign (ht rfl)) rfl ?_
    refine RG.nil ?_
    refine AT.next ?_
    refine CG.seq ?_
    refine CG.region ?_
    refine RG.op (ok_move (ht rfl)) rfl ?_
    refine RG.op (ok_move (ht rfl)) rfl ?_
    refine RG.op (ok_lenSl Try.underlying25 (ht rfl)) rfl ?_
    refine RG.op (ok_add (ht rfl) (ht rfl)) rfl ?_
    refine RG.op (ok_assign (ht rfl)) rfl ?_
    refine RG.nil ?_
    refine AT.next ?_
    refine CG.seq ?_
    refine CG.region ?_
    refine RG.op (ok_move (ht rfl)) rfl ?_
    refine RG.op (ok_lss (ht rfl) hI) rfl ?_
    refine RG.nil ?_
    refine AT.next ?_
    refine CG.cond (ht rfl) (fun hc => ?_) (fun hc => ?_)
    · have h := ct h hc
      refine CG.region ?_
      exact (nn h).elim
    · have h := cf h hc
      refine CG.skip ?_
      refine AT.in_normal ?_
      refine AT.next ?_
      refine CG.region ?_
      refine RG.op (ok_incN (dropL hx hN) (ht rfl) hI) rfl ?_
      refine RG.op (ok_move (ht rfl)) rfl ?_
      refine RG.nil ?_
      exact AT.round (LG.sub (ih (i + 1) (IntKind.i64.wrap (size + (e.length : Int))) ⟨dropS hx, h⟩) ⟨rfl, rfl, rfl, rfl, rfl, trivial⟩)
theorem f71_ok (slices : (List (List Int))) {R : (List Int)} (h : slices_Concat_int_int slices = some R) : Spec Try.prog 71 [tD (rSl (rSl (rI .i64))) slices] (tD (rSl (rI .i64)) R) := (f71_own _ h).spec

set_option maxRecDepth 100000 in
theorem f79_ok (tag : Int) {R : Int} (h : expr_parts tag = some R) : Spec Try.prog 79 [tD (rI .i64) tag] (tD (rI .i64) R) := by
  refine Spec.of Try.func79 rfl rfl rfl fun w0 S0 => ?_
  refine CG.seq ?_
  refine CG.region ?_
  refine RG.op (ok_assign hI) rfl ?_
  refine RG.nil ?_
  refine AT.next ?_
  refine CG.seq ?_
  refine CG.block ?_
  refine CG.seq ?_
  refine CG.region ?_
  refine RG.op (ok_move (ht rfl)) rfl ?_
  refine RG.op (ok_eqlI (ht rfl) hI) rfl ?_
  refine RG.op (ok_move (ht rfl)) rfl ?_
  refine RG.opGf rfl rfl rfl rfl (fun hg => ok_move (ht rfl)) ?_
  refine RG.opGf rfl rfl rfl rfl (fun hg => ok_eqlI (htO rfl hg) hI) ?_
  refine RG.op (ok_pickOr (ht rfl) (fun hb => (htO rfl (noti hb)))) rfl ?_
  refine RG.op (ok_assign (ht rfl)) rfl ?_
  refine RG.nil ?_
  refine AT.next ?_
  refine CG.cond (ht rfl) (fun hc => ?_) (fun hc => ?_)
  · have h := ct h hc
    refine CG.seq ?_
    refine CG.region ?_
    refine RG.op (ok_assign hI) rfl ?_
    refine RG.nil ?_
    refine AT.next ?_
    refine CG.ret ?_
    refine AT.in_ret (AT.then_ret ?_)
    cases so h
    exact AT.ret1 rfl rfl
  · have h := cf h hc
    refine CG.seq ?_
    refine CG.region ?_
    refine RG.op (ok_move (ht rfl)) rfl ?_
    refine RG.op (ok_geq (ht rfl) hI) rfl ?_
    refine RG.op (ok_move (ht rfl)) rfl ?_
    refine RG.opGt rfl rfl rfl rfl (fun hg => ok_move (ht rfl)) ?_
    refine RG.opGt rfl rfl rfl rfl (fun hg => ok_leq (htO rfl hg) hI) ?_
    refine RG.op (ok_pickAnd (ht rfl) (fun hb => (htO rfl hb))) rfl ?_
    refine RG.op (ok_assign (ht rfl)) rfl ?_
    refine RG.nil ?_
    refine AT.next ?_
    refine CG.cond (ht rfl) (fun hc => ?_) (fun hc => ?_)
    · have h := ct h hc
      refine CG.seq ?_
      refine CG.region ?_
      refine RG.op (ok_assign hI) rfl ?_
      refine RG.nil ?_
      refine AT.next ?_
      refine CG.ret ?_
      refine AT.in_ret (AT.then_ret ?_)
      cases so h
      exact AT.ret1 rfl rfl
    · have h := cf h hc
      refine CG.seq ?_
      refine CG.region ?_
      refine RG.op (ok_move (ht rfl)) rfl ?_
      refine RG.op (ok_geq (ht rfl) hI) rfl ?_
      refine RG.op (ok_move (ht rfl)) rfl ?_
      refine RG.opGt rfl rfl rfl rfl (fun hg => ok_move (ht rfl)) ?_
      refine RG.opGt rfl rfl rfl rfl (fun hg => ok_leq (htO rfl hg) hI) ?_
      refine RG.op (ok_pickAnd (ht rfl) (fun hb => (htO rfl hb))) rfl ?_
      refine RG.op (ok_assign (ht rfl)) rfl ?_
      refine RG.nil ?_
      refine AT.next ?_
      refine CG.cond (ht rfl) (fun hc => ?_) (fun hc => ?_)
      · have h := ct h hc
        refine CG.seq ?_
        refine CG.region ?_
        refine RG.op (ok_assign hI) rfl ?_
        refine RG.nil ?_
        refine AT.next ?_
        refine CG.ret ?_
        refine AT.in_ret (AT.then_ret ?_)
        cases so h
        exact AT.ret1 rfl rfl
      · have h := cf h hc
        refine CG.skip ?_
        refine AT.in_normal ?_
        refine AT.next ?_
        refine CG.seq ?_
        refine CG.region ?_
        refine RG.op (ok_assign hI) rfl ?_
        refine RG.nil ?_
        refine AT.next ?_
        refine CG.ret ?_
        cases so h
        exact AT.ret1 rfl rfl

set_option maxRecDepth 100000 in
theorem f98_ok (v : DValue) {R : DValue} (h : value_blank v = some R) : Spec Try.prog 98 [tD rpDValue v] (tD rpDValue R) := by
  refine Spec.of Try.func98 rfl rfl rfl fun w0 S0 => ?_
  refine CG.seq ?_
  refine CG.region ?_
  refine RG.boxO (ht rfl) rfl (fun b => ?_)
  refine RG.alloc (r := rpDValue) (x := (⟨(0 : Int), (0 : Int), (0 : Int), []⟩ : DValue)) ti62 (fun _ => zrDValue _) rfl (fun b1 => ?_)
  refine RG.nil ?_
  refine AT.next ?_
  refine CG.seq ?_
  refine CG.seq ?_
  refine CG.region ?_
  refine RG.op (ok_fieldAddrC (n := 0) fd62_0 rfl (ht rfl) rfl) rfl ?_
  refine RG.op (ok_loadB ti3 rfl rfl flDValue_0 (.tail _ (.head _)) (ht rfl)) rfl ?_
  refine RG.nil ?_
  refine AT.next ?_
  refine CG.bjoin1 (Z := fun v1 => value_blank_k1 v1 = some R) (Of := fun v1 => [bx rpDValue 62 b v1, bx rpDValue 62 b1 (⟨(0 : Int), (0 : Int), (0 : Int), []⟩ : DValue)]) (Gf := fun v1 => [(1, tV (bptr b 0)), (2, tV (bptr b1 0))]) (fun v1 h => ?_) (fun K => ?_)
  · skip
    refine AT.next ?_
    refine CG.seq ?_
    refine CG.region ?_
    refine RG.op (ok_loadB ti62 rfl rfl fld_whole (.head _) (ht rfl)) rfl ?_
    refine RG.front1 ?_
    refine RG.storeB ti62 rfl sfld_whole rfl (ht rfl) (ht rfl) ?_
    refine RG.settleB 2 rfl ?_
    refine RG.nil ?_
    refine AT.next ?_
    refine CG.ret ?_
    refine AT.drop ?_
    cases so h
    exact AT.ret1c rfl ti62 rfl rfl rfl
  · skip
    refine CG.seq ?_
    refine CG.block ?_
    refine CG.seq ?_
    refine CG.block ?_
    refine CG.seq ?_
    refine CG.bjoin1 (Z := fun v2 => value_blank_k2 v2 = some R) (Of := fun v2 => [bx rpDValue 62 b v2, bx rpDValue 62 b1 (⟨(0 : Int), (0 : Int), (0 : Int), []⟩ : DValue)]) (Gf := fun v2 => [(1, tV (bptr b 0)), (2, tV (bptr b1 0))]) (fun v2 h => ?_) (fun K1 => ?_)
    · skip
      refine AT.next ?_
      refine CG.seq ?_
      refine CG.region ?_
      refine RG.op (ok_fieldAddrC (n := 0) fd62_0 rfl (ht rfl) rfl) rfl ?_
      refine RG.storeB ti3 rfl sfDValue_0 rfl (ht rfl) hI ?_
      refine RG.nil ?_
      refine AT.next ?_
      refine CG.exit ?_
      refine AT.in_exit_ne rfl (AT.then_exit (AT.in_exit_ne rfl (AT.then_exit (AT.in_exit ?_))))
      exact AT.sub (K (DValue.mk (0 : Int) v2.N v2.U v2.S) h) ⟨rfl, rfl, trivial⟩
    · skip
      refine CG.seq ?_
      refine CG.bjoin0 (Z := value_blank_k3 v = some R) (Of := [bx rpDValue 62 b v, bx rpDValue 62 b1 (⟨(0 : Int), (0 : Int), (0 : Int), []⟩ : DValue)]) (Gf := [(1, tV (bptr b 0)), (2, tV (bptr b1 0))]) (fun h => ?_) (fun K2 => ?_)
      · skip
        refine AT.next ?_
        refine CG.region ?_
        refine RG.op (ok_fieldAddrC (n := 1) fd62_1 rfl (ht rfl) rfl) rfl ?_
        refine RG.storeB ti2 rfl sfDValue_1 rfl (ht rfl) hI ?_
        refine RG.nil ?_
        refine AT.in_normal ?_
        exact AT.sub (K1 (DValue.mk v.Kind (0 : Int) v.U v.S) h) ⟨rfl, rfl, trivial⟩
      · skip
        refine CG.seq ?_
        refine CG.block ?_
        refine CG.seq ?_
        refine CG.seq ?_
        refine CG.seq ?_
        refine CG.region ?_
        refine RG.op (ok_eqlI (ht rfl) hI) rfl ?_
        refine RG.op (ok_assign (ht rfl)) rfl ?_
        refine RG.nil ?_
        refine AT.next ?_
        refine CG.cond (ht rfl) (fun hc => ?_) (fun hc => ?_)
        · have h := ct h hc
          refine CG.exit ?_
          refine AT.then_exit (AT.then_exit (AT.in_exit ?_))
          refine AT.next ?_
          refine CG.seq ?_
          refine CG.region ?_
          refine RG.op (ok_fieldAddrC (n := 1) fd62_1 rfl (ht rfl) rfl) rfl ?_
          refine RG.op (ok_loadB ti2 rfl rfl flDValue_1 (.tail _ (.head _)) (ht rfl)) rfl ?_
          refine RG.op (ok_neqI (ht rfl) hI) rfl ?_
          refine RG.op (ok_move (ht rfl)) rfl ?_
          refine RG.opGt rfl rfl rfl rfl (fun hg => ok_fieldAddrC (n := 1) fd62_1 rfl (ht rfl) rfl) ?_
          refine RG.opGt rfl rfl rfl rfl (fun hg => ok_loadB ti2 rfl rfl flDValue_1 (.tail _ (.head _)) (htO rfl hg)) ?_
          refine RG.opGt rfl rfl rfl rfl (fun hg => ok_neqI (htO rfl hg) hI) ?_
          refine RG.op (ok_pickAnd (ht rfl) (fun hb => (htO rfl hb))) rfl ?_
          refine RG.nil ?_
          refine AT.next ?_
          refine CG.cond (ht rfl) (fun hc => ?_) (fun hc => ?_)
          · have h := ct h hc
            refine CG.exit ?_
            refine AT.in_exit_ne rfl (AT.then_exit (AT.in_exit_ne rfl (AT.then_exit (AT.in_exit_ne rfl (AT.then_exit (AT.in_exit_ne rfl (AT.then_exit (AT.in_exit ?_))))))))
            refine AT.front1 ?_
            exact AT.sub (K v h) ⟨rfl, rfl, trivial⟩
          · have h := cf h hc
            refine CG.skip ?_
            refine AT.in_normal ?_
            refine AT.front1 ?_
            exact AT.sub (K2 h) ⟨rfl, rfl, trivial⟩
        · have h := cf h hc
          refine CG.skip ?_
          refine AT.next ?_
          refine CG.seq ?_
          refine CG.seq ?_
          refine CG.region ?_
          refine RG.op (ok_eqlI (ht rfl) hI) rfl ?_
          refine RG.op (ok_assign (ht rfl)) rfl ?_
          refine RG.nil ?_
          refine AT.next ?_
          refine CG.cond (ht rfl) (fun hc => ?_) (fun hc => ?_)
          · have h := ct h hc
            refine CG.exit ?_
            refine AT.then_exit (AT.then_exit (AT.in_exit_ne rfl (AT.then_exit (AT.in_exit ?_))))
            refine AT.front1 ?_
            exact AT.sub (K2 h) ⟨rfl, rfl, trivial⟩
          · have h := cf h hc
            refine CG.skip ?_
            refine AT.next ?_
            refine CG.seq ?_
            refine CG.seq ?_
            refine CG.region ?_
            refine RG.op (ok_eqlI (ht rfl) hI) rfl ?_
            refine RG.op (ok_assign (ht rfl)) rfl ?_
            refine RG.nil ?_
            refine AT.next ?_
            refine CG.cond (ht rfl) (fun hc => ?_) (fun hc => ?_)
            · have h := ct h hc
              refine CG.exit ?_
              refine AT.then_exit (AT.then_exit (AT.in_exit_ne rfl (AT.then_exit (AT.in_exit_ne rfl (AT.then_exit (AT.in_exit ?_))))))
              refine AT.front1 ?_
              exact AT.sub (K1 v h) ⟨rfl, rfl, trivial⟩
            · have h := cf h hc
              refine CG.skip ?_
              refine AT.next ?_
              refine CG.seq ?_
              refine CG.seq ?_
              refine CG.region ?_
              refine RG.op (ok_eqlI (ht rfl) hI) rfl ?_
              refine RG.op (ok_assign (ht rfl)) rfl ?_
              refine RG.nil ?_
              refine AT.next ?_
              refine CG.cond (ht rfl) (fun hc => ?_) (fun hc => ?_)
              · have h := ct h hc
                refine CG.exit ?_
                refine AT.then_exit (AT.then_exit (AT.in_exit_ne rfl (AT.then_exit (AT.in_exit_ne rfl (AT.then_exit (AT.in_exit_ne rfl (AT.then_exit (AT.in_exit ?_))))))))
                refine AT.next ?_
                refine CG.sjoin1 (Z := fun v3 => value_blank_k4 v3 = some R) (Of := fun v3 => [bx rpDValue 62 b v3, bx rpDValue 62 b1 (⟨(0 : Int), (0 : Int), (0 : Int), []⟩ : DValue)]) (Gf := fun v3 => [(1, tV (bptr b 0)), (2, tV (bptr b1 0))]) (fun v3 h => ?_) (fun K3 => ?_)
                · skip
                  refine CG.exit ?_
                  refine AT.in_exit_ne rfl (AT.then_exit (AT.in_exit ?_))
                  exact AT.sub (K v3 h) ⟨rfl, rfl, trivial⟩
                · skip
                  refine CG.seq ?_
                  refine CG.region ?_
                  refine RG.op (ok_fieldAddrC (n := 3) fd62_3 rfl (ht rfl) rfl) rfl ?_
                  refine RG.op (ok_loadB ti9 rfl rfl flDValue_3 (.tail _ (.head _)) (ht rfl)) rfl ?_
                  refine RG.op (ok_lenS Try.underlying9 (ht rfl)) rfl ?_
                  refine RG.op (ok_leq (ht rfl) hI) rfl ?_
                  refine RG.nil ?_
                  refine AT.next ?_
                  refine CG.cond (ht rfl) (fun hc => ?_) (fun hc => ?_)
                  · have h := ct h hc
                    refine CG.region ?_
                    refine RG.op (ok_fieldAddrC (n := 0) fd62_0 rfl (ht rfl) rfl) rfl ?_
                    refine RG.front1 ?_
                    refine RG.storeB ti3 rfl sfDValue_0 rfl (ht rfl) hI ?_
                    refine RG.op (ok_fieldAddrC (n := 3) fd62_3 rfl (ht rfl) rfl) rfl ?_
                    refine RG.storeB ti9 rfl sfDValue_3 rfl (ht rfl) hS ?_
                    refine RG.nil ?_
                    exact AT.sub (K3 (DValue.mk (0 : Int) v.N v.U ([])) h) ⟨rfl, rfl, trivial⟩
                  · have h := cf h hc
                    refine CG.skip ?_
                    refine AT.front1 ?_
                    exact AT.sub (K3 v h) ⟨rfl, rfl, trivial⟩
              · have h := cf h hc
                refine CG.skip ?_
                refine AT.next ?_
                refine CG.seq ?_
                refine CG.region ?_
                refine RG.op (ok_eqlI (ht rfl) hI) rfl ?_
                refine RG.op (ok_assign (ht rfl)) rfl ?_
                refine RG.nil ?_
                refine AT.next ?_
                refine CG.cond (ht rfl) (fun hc => ?_) (fun hc => ?_)
                · have h := ct h hc
                  refine CG.exit ?_
                  refine AT.then_exit (AT.in_exit_ne rfl (AT.then_exit (AT.in_exit_ne rfl (AT.then_exit (AT.in_exit_ne rfl (AT.then_exit (AT.in_exit_ne rfl (AT.then_exit (AT.in_exit ?_)))))))))
                  refine AT.next ?_
                  refine CG.seq ?_
                  refine CG.region ?_
                  refine RG.op (ok_fieldAddrC (n := 0) fd62_0 rfl (ht rfl) rfl) rfl ?_
                  refine RG.front1 ?_
                  refine RG.storeB ti3 rfl sfDValue_0 rfl (ht rfl) hI ?_
                  refine RG.op (ok_fieldAddrC (n := 1) fd62_1 rfl (ht rfl) rfl) rfl ?_
                  refine RG.storeB ti2 rfl sfDValue_1 rfl (ht rfl) hI ?_
                  refine RG.op (ok_fieldAddrC (n := 2) fd62_2 rfl (ht rfl) rfl) rfl ?_
                  refine RG.storeB ti60 rfl sfDValue_2 rfl (ht rfl) hI ?_
                  refine RG.nil ?_
                  refine AT.next ?_
                  refine CG.exit ?_
                  refine AT.in_exit ?_
                  exact AT.sub (K (DValue.mk (0 : Int) (0 : Int) (0 : Int) v.S) h) ⟨rfl, rfl, trivial⟩
                · have h := cf h hc
                  refine CG.skip ?_
                  refine AT.next ?_
                  refine CG.exit ?_
                  refine AT.in_exit_ne rfl (AT.then_exit (AT.in_exit_ne rfl (AT.then_exit (AT.in_exit_ne rfl (AT.then_exit (AT.in_exit_ne rfl (AT.then_exit (AT.in_exit_ne rfl (AT.then_exit (AT.in_exit ?_))))))))))
                  refine AT.front1 ?_
                  exact AT.sub (K v h) ⟨rfl, rfl, trivial⟩

set_option maxRecDepth 100000 in
theorem f97_ok (v : DValue) {R : Int} (h : value_Check v = some R) : Spec Try.prog 97 [tD rpDValue v] (tD (rI .i64) R) := by
  refine Spec.of Try.func97 rfl rfl rfl fun w0 S0 => ?_
  refine CG.seq ?_
  refine CG.region ?_
  refine RG.op (ok_box (ht rfl)) rfl ?_
  refine RG.op (ok_assign hI) rfl ?_
  refine RG.nil ?_
  refine AT.next ?_
  refine CG.seq ?_
  refine CG.seq ?_
  refine CG.region ?_
  refine RG.op (ok_load ti62 rfl rfl (ht rfl)) rfl ?_
  obtain ⟨r, q_r, h⟩ := bs h
  refine RG.op (ok_call cb98 (f98_ok _ q_r) ⟨(ht rfl), trivial⟩) rfl ?_
  refine RG.op (ok_build (y := (⟨(0 : Int), (0 : Int), (0 : Int), []⟩ : DValue)) ti62 fs62 zrDValue (rfl)) rfl ?_
  refine RG.op (ok_neqD eq62 (ht rfl) (ht rfl)) rfl ?_
  refine RG.nil ?_
  refine AT.next ?_
  refine CG.cond (ht rfl) (fun hc => ?_) (fun hc => ?_)
  · have h := ct h hc
    refine CG.seq ?_
    refine CG.region ?_
    refine RG.op (ok_assign hI) rfl ?_
    refine RG.nil ?_
    refine AT.next ?_
    refine CG.ret ?_
    refine AT.then_ret ?_
    cases so h
    exact AT.ret1 rfl rfl
  · have h := cf h hc
    refine CG.skip ?_
    refine AT.next ?_
    refine CG.seq ?_
    refine CG.region ?_
    refine RG.op (ok_assign hI) rfl ?_
    refine RG.nil ?_
    refine AT.next ?_
    refine CG.ret ?_
    cases so h
    exact AT.ret1 rfl rfl

set_option maxRecDepth 100000 in
theorem f94_ok (v : DValue) {R : Bool} (h : value_Plain v = some R) : Spec Try.prog 94 [tD rpDValue v] (tD rB R) := by
  refine Spec.of Try.func94 rfl rfl rfl fun w0 S0 => ?_
  refine CG.seq ?_
  refine CG.region ?_
  refine RG.op (ok_box (ht rfl)) rfl ?_
  refine RG.op (ok_assign hB) rfl ?_
  refine RG.nil ?_
  refine AT.next ?_
  refine CG.seq ?_
  refine CG.region ?_
  refine RG.op (ok_load ti62 rfl rfl (ht rfl)) rfl ?_
  obtain ⟨r, q_r, h⟩ := bs h
  refine RG.op (ok_call cb97 (f97_ok _ q_r) ⟨(ht rfl), trivial⟩) rfl ?_
  refine RG.op (ok_eqlI (ht rfl) hI) rfl ?_
  refine RG.op (ok_move (ht rfl)) rfl ?_
  refine RG.opGt rfl rfl rfl rfl (fun hg => ok_fieldAddr fd62_0 rfl flDValue_0 rfl (ht rfl)) ?_
  refine RG.opGt rfl rfl rfl rfl (fun hg => ok_load ti3 rfl rfl (htO rfl hg)) ?_
  refine RG.opGt rfl rfl rfl rfl (fun hg => ok_neqI (htO rfl hg) hI) ?_
  refine RG.op (ok_pickAnd (ht rfl) (fun hb => (htO rfl hb))) rfl ?_
  refine RG.op (ok_assign (ht rfl)) rfl ?_
  refine RG.nil ?_
  refine AT.next ?_
  refine CG.ret ?_
  cases so h
  exact AT.ret1 rfl rfl

set_option maxRecDepth 100000 in
theorem f80_ok (n : DENode) {R : Bool} (h : expr_counts n = some R) : Spec Try.prog 80 [tD rpDENode n] (tD rB R) := by
  refine Spec.of Try.func80 rfl rfl rfl fun w0 S0 => ?_
  refine CG.seq ?_
  refine CG.region ?_
  refine RG.op (ok_box (ht rfl)) rfl ?_
  refine RG.op (ok_assign hB) rfl ?_
  refine RG.nil ?_
  refine AT.next ?_
  refine CG.seq ?_
  refine CG.seq ?_
  refine CG.region ?_
  refine RG.op (ok_fieldAddr fd64_0 rfl flDENode_0 rfl (ht rfl)) rfl ?_
  refine RG.op (ok_load ti3 rfl rfl (ht rfl)) rfl ?_
  refine RG.nil ?_
  refine AT.next ?_
  refine CG.block ?_
  refine CG.seq ?_
  refine CG.region ?_
  refine RG.op (ok_eqlI (ht rfl) hI) rfl ?_
  refine RG.op (ok_assign (ht rfl)) rfl ?_
  refine RG.nil ?_
  refine AT.next ?_
  refine CG.cond (ht rfl) (fun hc => ?_) (fun hc => ?_)
  · have h := ct h hc
    refine CG.seq ?_
    refine CG.region ?_
    refine RG.op (ok_fieldAddr fd64_4 rfl flDENode_4 rfl (ht rfl)) rfl ?_
    refine RG.op (ok_load ti62 rfl rfl (ht rfl)) rfl ?_
    obtain ⟨r, q_r, h⟩ := bs h
    refine RG.op (ok_call cb94 (f94_ok _ q_r) ⟨(ht rfl), trivial⟩) rfl ?_
    refine RG.op (ok_move (ht rfl)) rfl ?_
    refine RG.opGt rfl rfl rfl rfl (fun hg => ok_fieldAddr fd64_3 rfl flDENode_3 rfl (ht rfl)) ?_
    refine RG.opGt rfl rfl rfl rfl (fun hg => ok_load ti3 rfl rfl (htO rfl hg)) ?_
    refine RG.opGt rfl rfl rfl rfl (fun hg => ok_eqlI (htO rfl hg) hI) ?_
    refine RG.op (ok_pickAnd (ht rfl) (fun hb => (htO rfl hb))) rfl ?_
    refine RG.op (ok_assign (ht rfl)) rfl ?_
    refine RG.nil ?_
    refine AT.next ?_
    refine CG.ret ?_
    refine AT.in_ret (AT.then_ret ?_)
    cases so h
    exact AT.ret1 rfl rfl
  · have h := cf h hc
    refine CG.seq ?_
    refine CG.region ?_
    refine RG.op (ok_eqlI (ht rfl) hI) rfl ?_
    refine RG.op (ok_assign (ht rfl)) rfl ?_
    refine RG.nil ?_
    refine AT.next ?_
    refine CG.cond (ht rfl) (fun hc => ?_) (fun hc => ?_)
    · have h := ct h hc
      refine CG.seq ?_
      refine CG.region ?_
      refine RG.op (ok_fieldAddr fd64_4 rfl flDENode_4 rfl (ht rfl)) rfl ?_
      refine RG.op (ok_load ti62 rfl rfl (ht rfl)) rfl ?_
      refine RG.op (ok_build (y := (⟨(0 : Int), (0 : Int), (0 : Int), []⟩ : DValue)) ti62 fs62 zrDValue (rfl)) rfl ?_
      refine RG.op (ok_eqlD eq62 (ht rfl) (ht rfl)) rfl ?_
      refine RG.op (ok_move (ht rfl)) rfl ?_
      refine RG.opGt rfl rfl rfl rfl (fun hg => ok_fieldAddr fd64_3 rfl flDENode_3 rfl (ht rfl)) ?_
      refine RG.opGt rfl rfl rfl rfl (fun hg => ok_load ti3 rfl rfl (htO rfl hg)) ?_
      refine RG.opGt rfl rfl rfl rfl (fun hg => ok_geq (htO rfl hg) hI) ?_
      refine RG.op (ok_pickAnd (ht rfl) (fun hb => (htO rfl hb))) rfl ?_
      refine RG.op (ok_move (ht rfl)) rfl ?_
      refine RG.opGt rfl rfl rfl rfl (fun hg => ok_fieldAddr fd64_3 rfl flDENode_3 rfl (ht rfl)) ?_
      refine RG.opGt rfl rfl rfl rfl (fun hg => ok_load ti3 rfl rfl (htO rfl hg)) ?_
      refine RG.opGt rfl rfl rfl rfl (fun hg => ok_lss (htO rfl hg) hI) ?_
      refine RG.op (ok_pickAnd (ht rfl) (fun hb => (htO rfl hb))) rfl ?_
      refine RG.op (ok_assign (ht rfl)) rfl ?_
      refine RG.nil ?_
      refine AT.next ?_
      refine CG.ret ?_
      refine AT.in_ret (AT.then_ret ?_)
      cases so h
      exact AT.ret1 rfl rfl
    · have h := cf h hc
      refine CG.skip ?_
      refine AT.in_normal ?_
      refine AT.next ?_
      refine CG.seq ?_
      refine CG.region ?_
      refine RG.op (ok_fieldAddr fd64_4 rfl flDENode_4 rfl (ht rfl)) rfl ?_
      refine RG.op (ok_load ti62 rfl rfl (ht rfl)) rfl ?_
      refine RG.op (ok_build (y := (⟨(0 : Int), (0 : Int), (0 : Int), []⟩ : DValue)) ti62 fs62 zrDValue (rfl)) rfl ?_
      refine RG.op (ok_eqlD eq62 (ht rfl) (ht rfl)) rfl ?_
      refine RG.op (ok_move (ht rfl)) rfl ?_
      refine RG.opGt rfl rfl rfl rfl (fun hg => ok_fieldAddr fd64_3 rfl flDENode_3 rfl (ht rfl)) ?_
      refine RG.opGt rfl rfl rfl rfl (fun hg => ok_load ti3 rfl rfl (htO rfl hg)) ?_
      refine RG.opGt rfl rfl rfl rfl (fun hg => ok_eqlI (htO rfl hg) hI) ?_
      refine RG.op (ok_pickAnd (ht rfl) (fun hb => (htO rfl hb))) rfl ?_
      refine RG.op (ok_assign (ht rfl)) rfl ?_
      refine RG.nil ?_
      refine AT.next ?_
      refine CG.ret ?_
      cases so h
      exact AT.ret1 rfl rfl

set_option maxRecDepth 100000 in
theorem f55_ok (e : DExpr) {R : (List Int) × Bool} (h : expr_firsts e = some R) : Spec Try.prog 55 [tD rpDExpr e] (tT [tD (rSl (rI .i64)) R.1, tD rB R.2]) := by
  refine Spec.of Try.func55 rfl rfl rfl fun w0 S0 => ?_
  refine CG.seq ?_
  refine CG.region ?_
  refine RG.op (ok_box (ht rfl)) rfl ?_
  refine RG.op (ok_assign (show HasTy _ _ _ (tD (rSl (rI .i64)) ([])) from hNil)) rfl ?_
  refine RG.op (ok_assign hB) rfl ?_
  refine RG.nil ?_
  refine AT.next ?_
  refine CG.seq ?_
  refine CG.region ?_
  refine RG.fresh false (rI .i64) 3 ?_
  refine RG.op (ok_assign hVn) rfl ?_
  refine RG.fresh false (rI .i64) 3 ?_
  refine RG.op (ok_assign hVn) rfl ?_
  refine RG.nil ?_
  refine AT.next ?_
  refine CG.seq ?_
  refine CG.seq ?_
  refine CG.region ?_
  refine RG.op (ok_fieldAddr fd28_0 rfl flDExpr_0 rfl (ht rfl)) rfl ?_
  refine RG.op (ok_load ti26 rfl rfl (ht rfl)) rfl ?_
  refine RG.op (ok_lenSl Try.underlying26 (ht rfl)) rfl ?_
  refine RG.op (ok_move hI) rfl ?_
  refine RG.nil ?_
  refine AT.next ?_
  refine CG.block ?_
  refine CG.have_len (k := 15) rfl (fun hN => ?_)
  refine CG.loop ?_
  refine LG.front1 ?_
  refine LG.sub (LG.list7 (Z := fun ls i all l c open1 l1 c1 => (e.Nodes.drop i = ls) ∧ expr_firsts_l1 ls i all open1 = some R) (Of := fun _ i all l c open1 l1 c1 => [arr (rI .i64) 3 l c all, arr (rI .i64) 3 l1 c1 open1]) (Gf := fun _ i all l c open1 l1 c1 => [(4, tV (oslV l c all.length)), (5, tV (oslV l1 c1 open1.length)), (15, tD (rSl rpDENode) e.Nodes), (16, tD (rI .i64) (e.Nodes.length : Int)), (17, tD (rI .i64) (i : Int))]) (fun i all l c open1 l1 c1 h => ?_) (fun e1 tl ih i all l c open1 l1 c1 h => ?_) e.Nodes 0 ([] : List Int) none 0 ([] : List Int) none 0 ⟨rfl, h⟩) ⟨rfl, rfl, rfl, rfl, rfl, trivial⟩
  · obtain ⟨hx, h⟩ := h
    refine LG.unfold ?_
    refine CG.seq ?_
    refine CG.region ?_
    refine RG.op (ok_lss (ht rfl) (ht rfl)) rfl ?_
    refine RG.nil ?_
    refine AT.next ?_
    refine CG.seq ?_
    refine CG.condF (ht rfl) (dropF hx) ?_
    refine CG.exit ?_
    refine AT.then_exit (AT.then_exit (AT.in_exit ?_))
    refine AT.next ?_
    refine CG.seq ?_
    refine CG.region ?_
    refine RG.op (ok_move (ht rfl)) rfl ?_
    refine RG.op (ok_move (ht rfl)) rfl ?_
    refine RG.op (ok_lenO Try.underlying25 (.tail _ (.head _)) (ht rfl)) rfl ?_
    refine RG.op (ok_eqlI (ht rfl) hI) rfl ?_
    refine RG.op (ok_move (ht rfl)) rfl ?_
    refine RG.opGt rfl rfl rfl rfl (fun hg => ok_move (ht rfl)) ?_
    refine RG.opGt rfl rfl rfl rfl (fun hg => ok_lenO Try.underlying25 (.head _) (htO rfl hg)) ?_
    refine RG.opGt rfl rfl rfl rfl (fun hg => ok_leq (htO rfl hg) hI) ?_
    refine RG.op (ok_pickAnd (ht rfl) (fun hb => (htO rfl hb))) rfl ?_
    refine RG.op (ok_assign (ht rfl)) rfl ?_
    refine RG.op (ok_assign (ht rfl)) rfl ?_
    refine RG.nil ?_
    refine AT.next ?_
    refine CG.ret ?_
    refine AT.freeze ?_
    refine AT.tipAt 4 rfl ?_
    refine AT.tipAt 84 rfl ?_
    refine AT.tipAt 2 rfl ?_
    refine AT.dataAt 2 rfl ?_
    refine AT.drop ?_
    refine AT.drop ?_
    cases so h
    exact AT.ret2 rfl rfl rfl
  · obtain ⟨hx, h⟩ := h
    refine LG.unfold ?_
    refine CG.seq ?_
    refine CG.region ?_
    refine RG.op (ok_lss (ht rfl) (ht rfl)) rfl ?_
    refine RG.nil ?_
    refine AT.next ?_
    refine CG.seq ?_
    refine CG.condT (ht rfl) (dropT hx) ?_
    refine CG.skip ?_
    refine AT.next ?_
    refine CG.seq ?_
    refine CG.block ?_
    refine CG.seq ?_
    refine CG.region ?_
    refine RG.op (ok_move (ht rfl)) rfl ?_
    refine RG.op (ok_indexAddr Try.underlying26 ti64 rfl (ht rfl) (ht rfl) (dropI hx)) rfl ?_
    refine RG.op (ok_load ti64 rfl rfl (ht rfl)) rfl ?_
    refine RG.alloc (r := rpDENode) (x := (⟨(0 : Int), (0 : Int), (0 : Int), (0 : Int), (⟨(0 : Int), (0 : Int), (0 : Int), []⟩ : DValue)⟩ : DENode)) ti64 (fun _ => zrDENode _) rfl (fun b => ?_)
    refine RG.op (ok_assign (ht rfl)) rfl ?_
    refine RG.storeB ti64 rfl sfld_whole rfl (ht rfl) (ht rfl) ?_
    refine RG.settleB 7 rfl ?_
    refine RG.nil ?_
    refine AT.next ?_
    refine CG.seq ?_
    refine CG.region ?_
    refine RG.op (ok_fieldAddr fd64_0 rfl flDENode_0 rfl (ht rfl)) rfl ?_
    refine RG.op (ok_load ti3 rfl rfl (ht rfl)) rfl ?_
    obtain ⟨r, q_r, h⟩ := bs h
    refine RG.op (ok_call cb79 (f79_ok _ q_r) ⟨(ht rfl), trivial⟩) rfl ?_
    refine RG.op (ok_assign (ht rfl)) rfl ?_
    refine RG.nil ?_
    refine AT.next ?_
    refine CG.seq ?_
    refine CG.seq ?_
    refine CG.region ?_
    refine RG.op (ok_move (ht rfl)) rfl ?_
    refine RG.op (ok_lss (ht rfl) hI) rfl ?_
    refine RG.op (ok_move (ht rfl)) rfl ?_
    refine RG.opGf rfl rfl rfl rfl (fun hg => ok_move (ht rfl)) ?_
    refine RG.opGf rfl rfl rfl rfl (fun hg => ok_move (ht rfl)) ?_
    refine RG.opGf rfl rfl rfl rfl (fun hg => ok_lenO Try.underlying25 (.tail _ (.head _)) (htO rfl hg)) ?_
    refine RG.opGf rfl rfl rfl rfl (fun hg => ok_gtr (htO rfl hg) (htO rfl hg)) ?_
    refine RG.op (ok_pickOr (ht rfl) (fun hb => (htO rfl (noti hb)))) rfl ?_
    refine RG.op (ok_move (ht rfl)) rfl ?_
    obtain ⟨t, q_t, h⟩ := bs h
    refine RG.opGf rfl rfl rfl rfl (fun hg => ok_load ti64 rfl rfl (ht rfl)) ?_
    obtain ⟨r1, h1t, h0t⟩ := og q_t
    have q_r1g := fun hb => (h1t hb).1
    refine RG.opGf rfl rfl rfl rfl (fun hg => ok_call cb80 (f80_ok _ (q_r1g hg)) ⟨(htO rfl hg), trivial⟩) ?_
    refine RG.opGf rfl rfl rfl rfl (fun hg => ok_not (htO rfl hg)) ?_
    refine RG.op (ok_pickOrM (ht rfl) (fun hb => (htO rfl (noti hb))) (fun hb => (h1t hb).2) h0t) rfl ?_
    refine RG.nil ?_
    refine AT.next ?_
    refine CG.cond (ht rfl) (fun hc => ?_) (fun hc => ?_)
    · have h := ct h hc
      refine CG.seq ?_
      refine CG.region ?_
      refine RG.op (ok_assign (show HasTy _ _ _ (tD (rSl (rI .i64)) ([])) from hNil)) rfl ?_
      refine RG.op (ok_assign hB) rfl ?_
      refine RG.nil ?_
      refine AT.next ?_
      refine CG.ret ?_
      refine AT.then_ret (AT.in_ret (AT.then_ret (AT.then_ret (AT.in_ret (AT.then_ret ?_)))))
      refine AT.drop ?_
      refine AT.drop ?_
      cases so h
      exact AT.ret2 rfl rfl rfl
    · have h := cf h hc
      refine CG.skip ?_
      refine AT.next ?_
      refine CG.seq ?_
      refine CG.region ?_
      refine RG.op (ok_move (ht rfl)) rfl ?_
      refine RG.op (ok_move (ht rfl)) rfl ?_
      refine RG.op (ok_lenO Try.underlying25 (.tail _ (.head _)) (ht rfl)) rfl ?_
      refine RG.op (ok_move (ht rfl)) rfl ?_
      refine RG.op (ok_sub (ht rfl) (ht rfl)) rfl ?_
      obtain ⟨y, q_y, h⟩ := bs h
      refine RG.op (ok_sliceLoO Try.underlying25 ti3 rfl (.tail _ (.head _)) (ht rfl) (ht rfl) q_y) rfl ?_
      refine RG.have_view (.tail _ (.head _)) q_y (fun hv => ?_)
      refine RG.op (ok_assign (ht rfl)) rfl ?_
      refine RG.nil ?_
      refine AT.next ?_
      refine CG.seq ?_
      refine CG.region ?_
      refine RG.op (ok_buildA (r := (rI .i64)) (ys := [(-1 : Int), (-1 : Int)]) (xs := [.const (.int .i64 (-1)), .const (.int .i64 (-1))]) Try.underlying121 ti3 rfl ti121 rfl rfl ⟨hI, hI, trivial⟩) rfl ?_
      refine RG.alloc (r := (rArr (rI .i64) 2)) (x := (List.replicate 2 (0 : Int))) ti121 (arr_zero (r := (rI .i64)) 2 (fun _ => rfl)) rfl (fun b1 => ?_)
      refine RG.storeB ti121 rfl sfld_whole rfl (ht rfl) (ht rfl) ?_
      refine RG.nil ?_
      refine AT.next ?_
      refine CG.seq ?_
      refine CG.region ?_
      refine RG.op (ok_move (ht rfl)) rfl ?_
      refine RG.op (ok_assign (ht rfl)) rfl ?_
      refine RG.nil ?_
      refine AT.next ?_
      refine CG.seq ?_
      refine CG.seq ?_
      refine CG.region ?_
      refine RG.op (ok_move (ht rfl)) rfl ?_
      refine RG.op (ok_lenV Try.underlying25 (.tail _ (.tail _ (.head _))) q_y (ht rfl)) rfl ?_
      refine RG.op (ok_move hI) rfl ?_
      refine RG.nil ?_
      refine AT.next ?_
      refine CG.block ?_
      have hN1 := hv.2
      refine CG.loop ?_
      refine LG.front2 ?_
      refine LG.front2 ?_
      refine LG.sub (LG.list3 (Z := fun ls1 i1 first at1 => (y.drop i1 = ls1) ∧ expr_firsts_l2 (expr_firsts_l1 tl) i e1 all open1 r ls1 i1 first at1 = some R) (Of := fun _ i1 first at1 => [arr (rI .i64) 3 l c all, arr (rI .i64) 3 l1 c1 open1, bx (rArr (rI .i64) 2) 121 b1 at1]) (Gf := fun _ i1 first at1 => [(4, tV (oslV l c all.length)), (5, tV (oslV l1 c1 open1.length)), (6, tD (rI .i64) (i : Int)), (7, tPtr rpDENode e1), (8, tD (rI .i64) r), (10, tV (bptr b1 0)), (11, tD (rI .i64) first), (15, tD (rSl rpDENode) e.Nodes), (16, tD (rI .i64) (e.Nodes.length : Int)), (17, tD (rI .i64) (i : Int)), (46, tV (vslV 1 l1 c1 (IntKind.i64.wrap ((open1.length : Int) - r)).toNat y.length)), (47, tD (rI .i64) (y.length : Int)), (48, tD (rI .i64) (i1 : Int))]) (fun i1 first at1 h => ?_) (fun e2 tl1 ih1 i1 first at1 h => ?_) y 0 (i : Int) ([(-1 : Int), (-1 : Int)]) ⟨rfl, h⟩) ⟨rfl, rfl, rfl, rfl, rfl, rfl, rfl, rfl, rfl, rfl, rfl, rfl, rfl, trivial⟩
      · obtain ⟨hx1, h⟩ := h
        refine LG.unfold ?_
        refine CG.seq ?_
        refine CG.region ?_
        refine RG.op (ok_lss (ht rfl) (ht rfl)) rfl ?_
        refine RG.nil ?_
        refine AT.next ?_
        refine CG.seq ?_
        refine CG.condF (ht rfl) (dropF hx1) ?_
        refine CG.exit ?_
        refine AT.then_exit (AT.then_exit (AT.in_exit ?_))
        refine AT.next ?_
        refine CG.seq ?_
        refine CG.seq ?_
        refine CG.region ?_
        refine RG.op (ok_loadB ti121 rfl rfl fld_whole (.tail _ (.tail _ (.head _))) (ht rfl)) rfl ?_
        refine RG.op (ok_fieldAddr fd64_1 rfl flDENode_1 rfl (ht rfl)) rfl ?_
        refine RG.op (ok_load ti3 rfl rfl (ht rfl)) rfl ?_
        refine RG.op (ok_fieldAddr fd64_2 rfl flDENode_2 rfl (ht rfl)) rfl ?_
        refine RG.op (ok_load ti3 rfl rfl (ht rfl)) rfl ?_
        refine RG.op (ok_buildA (r := (rI .i64)) (ys := [e1.L, e1.R]) (xs := [.tmp 65, .tmp 67]) Try.underlying121 ti3 rfl ti121 rfl rfl ⟨(ht rfl), (ht rfl), trivial⟩) rfl ?_
        refine RG.op (ok_neqD eq121 (ht rfl) (ht rfl)) rfl ?_
        refine RG.nil ?_
        refine AT.next ?_
        refine CG.cond (ht rfl) (fun hc => ?_) (fun hc => ?_)
        · have h := ct h hc
          refine CG.seq ?_
          refine CG.region ?_
          refine RG.op (ok_assign (show HasTy _ _ _ (tD (rSl (rI .i64)) ([])) from hNil)) rfl ?_
          refine RG.op (ok_assign hB) rfl ?_
          refine RG.nil ?_
          refine AT.next ?_
          refine CG.ret ?_
          refine AT.then_ret (AT.in_ret (AT.then_ret (AT.then_ret (AT.in_ret (AT.then_ret ?_)))))
          refine AT.drop ?_
          refine AT.drop ?_
          refine AT.drop ?_
          cases so h
          exact AT.ret2 rfl rfl rfl
        · have h := cf h hc
          refine CG.skip ?_
          refine AT.next ?_
          refine CG.seq ?_
          refine CG.region ?_
          refine RG.op (ok_move (ht rfl)) rfl ?_
          refine RG.op (ok_move (ht rfl)) rfl ?_
          refine RG.op (ok_buildSlice (r := (rI .i64)) (ys := [first]) (xs := [.tmp 71]) Try.underlying25 ti3 rfl rfl rfl rfl rfl ⟨(ht rfl), trivial⟩) rfl ?_
          obtain ⟨all1, q_all1, h⟩ := bs h
          refine RG.append ti3 rfl rfl rfl rfl Try.underlying25 rfl rfl (ht rfl) (ht rfl) q_all1 (fun l2 c2 => ?_)
          refine RG.op (ok_assign (ht rfl)) rfl ?_
          refine RG.nil ?_
          refine AT.next ?_
          refine CG.region ?_
          refine RG.op (ok_move (ht rfl)) rfl ?_
          refine RG.op (ok_move (ht rfl)) rfl ?_
          refine RG.op (ok_lenO Try.underlying25 (.tail _ (.head _)) (ht rfl)) rfl ?_
          refine RG.op (ok_move (ht rfl)) rfl ?_
          refine RG.op (ok_sub (ht rfl) (ht rfl)) rfl ?_
          obtain ⟨y1, q_y1, h⟩ := bs h
          refine RG.op (ok_sliceHiO Try.underlying25 ti3 rfl (.tail _ (.head _)) (ht rfl) (ht rfl) q_y1) rfl ?_
          refine RG.op (ok_move (ht rfl)) rfl ?_
          refine RG.op (ok_buildSlice (r := (rI .i64)) (ys := [(i : Int)]) (xs := [.tmp 80]) Try.underlying25 ti3 rfl rfl rfl rfl rfl ⟨(ht rfl), trivial⟩) rfl ?_
          refine RG.front1 ?_
          refine RG.cut q_y1 ?_
          obtain ⟨open2, q_open2, h⟩ := bs h
          refine RG.append ti3 rfl rfl rfl rfl Try.underlying25 rfl rfl (ht rfl) (ht rfl) q_open2 (fun l3 c3 => ?_)
          refine RG.op (ok_assign (ht rfl)) rfl ?_
          refine RG.nil ?_
          refine AT.in_normal ?_
          refine AT.next ?_
          refine CG.region ?_
          refine RG.op (ok_incN (dropL hx hN) (ht rfl) hI) rfl ?_
          refine RG.op (ok_move (ht rfl)) rfl ?_
          refine RG.nil ?_
          refine AT.front2 ?_
          refine AT.drop ?_
          refine AT.front1 ?_
          exact AT.round (LG.sub (ih (i + 1) all1 l2 c2 open2 l3 c3 ⟨dropS hx, h⟩) ⟨rfl, rfl, rfl, rfl, rfl, trivial⟩)
      · obtain ⟨hx1, h⟩ := h
        refine LG.unfold ?_
        refine CG.seq ?_
        refine CG.region ?_
        refine RG.op (ok_lss (ht rfl) (ht rfl)) rfl ?_
        refine RG.nil ?_
        refine AT.next ?_
        refine CG.seq ?_
        refine CG.condT (ht rfl) (dropT hx1) ?_
        refine CG.skip ?_
        refine AT.next ?_
        refine CG.seq ?_
        refine CG.block ?_
        refine CG.seq ?_
        refine CG.region ?_
        refine RG.op (ok_move (ht rfl)) rfl ?_
        refine RG.op (ok_indexAddrV Try.underlying25 ti3 rfl (.tail _ (.head _)) q_y (ht rfl) (ht rfl) (dropI hx1)) rfl ?_
        refine RG.op (ok_loadE (r := (rI .i64)) (i := ((IntKind.i64.wrap ((open1.length : Int) - r)) + (i1 : Int))) (foff := 0) ti3 rfl rfl fld_whole rfl (.tail _ (.head _)) (sliceF_idx q_y (dropI hx1)).1 (ht rfl)) rfl ?_
        refine RG.op (ok_assign (ht rfl)) rfl ?_
        refine RG.op (ok_assign (ht rfl)) rfl ?_
        refine RG.nil ?_
        refine AT.next ?_
        obtain ⟨e3, q_e3, h⟩ := bs h
        obtain ⟨e4, q_e4, h⟩ := bs h
        obtain ⟨ar, q_ar, h⟩ := bs h
        refine CG.drawS 10 [tc (tD (rI .i64) (i1 : Int)), tc (tD (rI .i64) e2), tc (tD (rI .i64) first), tc (tV (oslV l c all.length)), tc (tD (rI .i64) e2), tc (tV (eptr l (e2.toNat * 1 + 0))), tc (tD (rI .i64) e3), tc (tD (rI .i64) (min first e3)), tc (tV (bptr b1 ((i1 : Int).toNat * 1))), tc (tAny)] [false, false, false, false, false, false, false, false, false, true] [fun _ => [arr (rI .i64) 3 l c all, arr (rI .i64) 3 l1 c1 open1, bx (rArr (rI .i64) 2) 121 b1 at1], fun sg => [bx (rArr (rI .i64) 2) 121 b1 ar, arr (rI .i64) 3 l c all, arr (rI .i64) 3 l1 c1 open1]] rfl mixed rfl rfl rfl rfl rfl
          ⟨⟨[⟨12, fun _ => tD (rI .i64) (i1 : Int), none⟩], _, 0, 0, rfl, ⟨(fun _ => rfl), trivial⟩, rfl, rfl, rfl, rfl, rfl, fun _ sg _ _ => OpG.plain rfl (ok_move (ht rfl))⟩,
          ⟨⟨[⟨13, fun _ => tD (rI .i64) e2, none⟩], _, 0, 0, rfl, ⟨(fun _ => rfl), trivial⟩, rfl, rfl, rfl, rfl, rfl, fun _ sg _ _ => OpG.plain rfl (ok_move (ht rfl))⟩,
          ⟨⟨[⟨11, fun _ => tD (rI .i64) first, none⟩], _, 0, 1, rfl, ⟨(fun _ => rfl), trivial⟩, rfl, rfl, rfl, rfl, rfl, fun _ sg _ _ => OpG.plain rfl (ok_move (ht rfl))⟩,
          ⟨⟨[⟨4, fun _ => tV (oslV l c all.length), none⟩], _, 0, 1, rfl, ⟨(fun _ => rfl), trivial⟩, rfl, rfl, rfl, rfl, rfl, fun _ sg _ _ => OpG.plain rfl (ok_move (ht rfl))⟩,
          ⟨⟨[⟨13, fun _ => tD (rI .i64) e2, none⟩], _, 0, 1, rfl, ⟨(fun _ => rfl), trivial⟩, rfl, rfl, rfl, rfl, rfl, fun _ sg _ _ => OpG.plain rfl (ok_move (ht rfl))⟩,
          ⟨⟨[⟨56, fun _ => tV (oslV l c all.length), some 3⟩, ⟨57, fun _ => tD (rI .i64) e2, some 4⟩], _, 0, 1, rfl, ⟨(fun _ => rfl), (fun _ => rfl), trivial⟩, rfl, rfl, rfl, rfl, rfl, winS (fun sg => OpG.plain rfl (ok_indexAddrO Try.underlying25 ti3 (.head _) (ht rfl) (ht rfl) q_e3)) (win1 (fun sg => OpG.plain rfl (ok_indexAddrO Try.underlying25 ti3 (.tail _ (.head _)) (ht rfl) (ht rfl) q_e3)))⟩,
          ⟨⟨[⟨58, fun _ => tV (eptr l (e2.toNat * 1 + 0)), some 5⟩], _, 0, 1, rfl, ⟨(fun _ => rfl), trivial⟩, rfl, rfl, rfl, rfl, rfl, winS (fun sg => OpG.plain rfl (ok_loadE (r := (rI .i64)) (i := e2) (foff := 0) ti3 rfl rfl fld_whole rfl (.head _) q_e3 (ht rfl))) (win1 (fun sg => OpG.plain rfl (ok_loadE (r := (rI .i64)) (i := e2) (foff := 0) ti3 rfl rfl fld_whole rfl (.tail _ (.head _)) q_e3 (ht rfl))))⟩,
          ⟨⟨[⟨55, fun _ => tD (rI .i64) first, some 2⟩, ⟨59, fun _ => tD (rI .i64) e3, some 6⟩], _, 0, 1, rfl, ⟨(fun _ => rfl), (fun _ => rfl), trivial⟩, rfl, rfl, rfl, rfl, rfl, fun _ sg _ _ => OpG.plain rfl (ok_min2 (ht rfl) (ht rfl))⟩,
          ⟨⟨[⟨10, fun _ => tV (bptr b1 0), none⟩, ⟨53, fun _ => tD (rI .i64) (i1 : Int), some 0⟩], _, 0, 0, rfl, ⟨(fun _ => rfl), (fun _ => rfl), trivial⟩, rfl, rfl, rfl, rfl, rfl, win1 (fun sg => OpG.plain rfl (ok_indexAddrX Try.underlying121 ti3 (.tail _ (.tail _ (.head _))) (ht rfl) (ht rfl) q_e4))⟩,
          ⟨⟨[⟨61, fun _ => tV (bptr b1 ((i1 : Int).toNat * 1)), some 8⟩, ⟨54, fun _ => tD (rI .i64) e2, some 1⟩], _, rfl, ⟨(fun _ => rfl), (fun _ => rfl), trivial⟩, rfl, rfl, rfl, fun sg => EffG.plain rfl (EffOK.fr2 (eff_storeA ti3 rfl q_e4 (so q_ar) (ht rfl) (ht rfl)))⟩,
          trivial⟩⟩⟩⟩⟩⟩⟩⟩⟩⟩ (fun sg => ?_)
        refine (show RG _ _ _ _ [bx (rArr (rI .i64) 2) 121 b1 ar, arr (rI .i64) 3 l c all, arr (rI .i64) 3 l1 c1 open1] _ from ?_)
        refine RG.op (ok_assign (ht rfl)) rfl ?_
        refine RG.nil ?_
        refine AT.in_normal ?_
        refine AT.next ?_
        refine CG.region ?_
        refine RG.op (ok_incN (dropL hx1 hN1) (ht rfl) hI) rfl ?_
        refine RG.op (ok_move (ht rfl)) rfl ?_
        refine RG.nil ?_
        refine AT.front2 ?_
        refine AT.front2 ?_
        exact AT.round (LG.sub (ih1 (i1 + 1) (min first e3) ar ⟨dropS hx1, h⟩) ⟨rfl, rfl, rfl, rfl, rfl, rfl, rfl, rfl, rfl, rfl, rfl, rfl, rfl, trivial⟩)

end Go.Proofs.Ytbhkincjkpeaoaa

