/- Facts of this claim: P3. -/
import Derived.Test.YtbhkincjkpeaoaaDoT
import Derived.Test.YtbhkincjkpeaoaaDoP2
namespace Go.Proofs.Ytbhkincjkpeaoaa
open Go

set_option maxRecDepth 100000 in
theorem f77_ok (s : (List DOrd)) (f : (DOrd → Option Bool)) {R : Bool} (h : slices_ContainsFunc_api_Ord_api_Ord s f = some R) : Spec Try.prog 77 [tD (rSl rpDOrd) s, (tFun Try.prog (fun (x : DOrd) => [tD rpDOrd x]) (fun (x : Bool) => tD rB x) (fun (x : DOrd) => f x))] (tD rB R) := by
  refine Spec.of Try.func77 rfl rfl rfl fun w0 S0 => ?_
  refine CG.seq ?_
  refine CG.region ?_
  refine RG.op (ok_assign hB) rfl ?_
  refine RG.nil ?_
  refine AT.next ?_
  refine CG.seq ?_
  refine CG.region ?_
  refine RG.op (ok_move (ht rfl)) rfl ?_
  refine RG.op (ok_move (ht rfl)) rfl ?_
  obtain ⟨r, q_r, h⟩ := bs h
  refine RG.op (ok_call cb93 (f93_ok _ _ q_r) ⟨(ht rfl), (ht rfl), trivial⟩) rfl ?_
  refine RG.op (ok_geq (ht rfl) hI) rfl ?_
  refine RG.op (ok_assign (ht rfl)) rfl ?_
  refine RG.nil ?_
  refine AT.next ?_
  refine CG.ret ?_
  cases so h
  exact AT.ret1 rfl rfl

set_option maxRecDepth 100000 in
theorem f47_o (b : Nat) (ix : OI) (c : Dchecker) (n : DLNode) {R : (List Int) × Bool} (h : logic_checker_order c n = some R) : SpecM Try.prog 47 [tV (bptr b 0), tD rpDLNode n] (ob58 b c ix) (fun _ : OI => tT [tD (rSl (rI .i64)) R.1, tD rB R.2]) (fun _ => (ob58 b c ix)) := by
  refine SpecM.of Try.func47 rfl rfl rfl fun w0 S0 => ?_
  refine (show CG _ _ _ [bx (rH rpDchecker [(1, oslV (ix.h 0).1 (ix.h 0).2 c.kinds.length), (2, oslV (ix.h 1).1 (ix.h 1).2 c.first.length)]) 58 b c, tip (rSl (rI .i64)) 25 (ix.h 0).1 (ix.h 0).2 c.kinds, tip (rI .i64) 3 (ix.h 1).1 (ix.h 1).2 c.first] _ from ?_)
  refine CG.seq ?_
  refine CG.region ?_
  refine RG.op (ok_box (ht rfl)) rfl ?_
  refine RG.op (ok_assign (show HasTy _ _ _ (tD (rSl (rI .i64)) ([])) from hNil)) rfl ?_
  refine RG.op (ok_assign hB) rfl ?_
  refine RG.nil ?_
  refine AT.next ?_
  refine CG.seq ?_
  obtain ⟨e, q_e, h⟩ := bs h
  refine CG.drawS 9 [tc (tV (bptr b 0)), tc (tV (bptr b 0)), tc (tV (bptr b 1)), tc (tO (rSl (rI .i64)) (ix.h 0).1 (ix.h 0).2 c.kinds), tc (tPtr (rI .i64) n.A), tc (tD (rI .i64) n.A), tc (tPtr (rSl (rI .i64)) e), tc (tD (rSl (rI .i64)) e), ([8], fun s => tV (bptr ((s.getD 0 zoi).h 0).2 0))] [false, false, false, false, false, false, false, false, true] [fun _ => [bx (rH rpDchecker [(1, oslV (ix.h 0).1 (ix.h 0).2 c.kinds.length), (2, oslV (ix.h 1).1 (ix.h 1).2 c.first.length)]) 58 b c, tip (rSl (rI .i64)) 25 (ix.h 0).1 (ix.h 0).2 c.kinds, tip (rI .i64) 3 (ix.h 1).1 (ix.h 1).2 c.first], fun sg => [bx (rSl (rI .i64)) 25 ((sg 8).h 0).2 ([]), bx (rH rpDchecker [(1, oslV (ix.h 0).1 (ix.h 0).2 c.kinds.length), (2, oslV (ix.h 1).1 (ix.h 1).2 c.first.length)]) 58 b c, tip (rSl (rI .i64)) 25 (ix.h 0).1 (ix.h 0).2 c.kinds, tip (rI .i64) 3 (ix.h 1).1 (ix.h 1).2 c.first]] rfl mixed rfl rfl rfl rfl rfl
    ⟨⟨[⟨0, fun _ => tV (bptr b 0), none⟩], _, 0, 1, rfl, ⟨(fun _ => rfl), trivial⟩, rfl, rfl, rfl, rfl, rfl, fun _ sg _ _ => OpG.plain rfl (ok_move (ht rfl))⟩,
    ⟨⟨[⟨9, fun _ => tV (bptr b 0), some 0⟩], _, 0, 1, rfl, ⟨(fun _ => rfl), trivial⟩, rfl, rfl, rfl, rfl, rfl, fun _ sg _ _ => OpG.plain rfl (ok_nilB (ht rfl))⟩,
    ⟨⟨[⟨10, fun _ => tV (bptr b 0), some 1⟩], _, 0, 1, rfl, ⟨(fun _ => rfl), trivial⟩, rfl, rfl, rfl, rfl, rfl, fun _ sg _ _ => OpG.plain rfl (ok_fieldAddrC (n := 1) fd58_1 rfl (ht rfl) rfl)⟩,
    ⟨⟨[⟨11, fun _ => tV (bptr b 1), some 2⟩], _, 0, 1, rfl, ⟨(fun _ => rfl), trivial⟩, rfl, rfl, rfl, rfl, rfl, winS (fun sg => OpG.plain rfl (ok_loadT ti56 rfl (.head _) (.tail _ (.head _)) (ht rfl))) (win1 (fun sg => OpG.plain rfl (ok_loadT ti56 rfl (.tail _ (.head _)) (.tail _ (.tail _ (.head _))) (ht rfl))))⟩,
    ⟨⟨[⟨3, fun _ => tPtr rpDLNode n, none⟩], _, 0, 1, rfl, ⟨(fun _ => rfl), trivial⟩, rfl, rfl, rfl, rfl, rfl, fun _ sg _ _ => OpG.plain rfl (ok_fieldAddr fd33_1 rfl flDLNode_1 rfl (ht rfl))⟩,
    ⟨⟨[⟨13, fun _ => tPtr (rI .i64) n.A, some 4⟩], _, 0, 1, rfl, ⟨(fun _ => rfl), trivial⟩, rfl, rfl, rfl, rfl, rfl, fun _ sg _ _ => OpG.plain rfl (ok_load ti3 rfl rfl (ht rfl))⟩,
    ⟨⟨[⟨12, fun _ => tO (rSl (rI .i64)) (ix.h 0).1 (ix.h 0).2 c.kinds, some 3⟩, ⟨14, fun _ => tD (rI .i64) n.A, some 5⟩], _, 0, 1, rfl, ⟨(fun _ => rfl), (fun _ => rfl), trivial⟩, rfl, rfl, rfl, rfl, rfl, fun _ sg _ _ => OpG.plain rfl (ok_indexAddr Try.underlying56 ti25 rfl (tO_d (ht rfl)) (ht rfl) q_e)⟩,
    ⟨⟨[⟨15, fun _ => tPtr (rSl (rI .i64)) e, some 6⟩], _, 0, 1, rfl, ⟨(fun _ => rfl), trivial⟩, rfl, rfl, rfl, rfl, rfl, fun _ sg _ _ => OpG.plain rfl (ok_load ti25 rfl rfl (ht rfl))⟩,
    ⟨⟨[], _, rfl, trivial, rfl, rfl, rfl, fun sg => EffG.plain rfl (eff_alloc (r := (rSl (rI .i64))) (x := []) ti25 (fun _ => ⟨none, 0, rfl, Nat.le_refl _, Nat.zero_le _, .inl rfl⟩))⟩,
    trivial⟩⟩⟩⟩⟩⟩⟩⟩⟩ (fun sg => ?_)
  refine (show RG _ _ _ _ [bx (rSl (rI .i64)) 25 ((sg 8).h 0).2 ([]), bx (rH rpDchecker [(1, oslV (ix.h 0).1 (ix.h 0).2 c.kinds.length), (2, oslV (ix.h 1).1 (ix.h 1).2 c.first.length)]) 58 b c, tip (rSl (rI .i64)) 25 (ix.h 0).1 (ix.h 0).2 c.kinds, tip (rI .i64) 3 (ix.h 1).1 (ix.h 1).2 c.first] _ from ?_)
  refine RG.storeB ti25 rfl sfld_whole rfl (ht rfl) (ht rfl) ?_
  refine RG.settleB 6 rfl ?_
  refine RG.nil ?_
  refine AT.next ?_
  refine CG.seq ?_
  refine CG.region ?_
  refine RG.op ((show OpOK _ _ _ _ ((tFun Try.prog (fun (x : DOrd) => [tD rpDOrd x]) (fun (x : Bool) => tD rB x) (fun (x : DOrd) => (logic_checker_order_1 e) x))) from ok_makeFunc (cts := [tPtr (rSl (rI .i64)) e]) (caps := [.tmp 6]) cb76 ⟨(ht rfl), trivial⟩ (fun x y h => f76_ok _ _ h))) rfl ?_
  refine RG.op (ok_assign (ht rfl)) rfl ?_
  refine RG.nil ?_
  refine AT.next ?_
  refine CG.seq ?_
  refine CG.region ?_
  refine RG.op (ok_fieldAddr fd33_10 rfl flDLNode_10 rfl (ht rfl)) rfl ?_
  refine RG.op (ok_load ti31 rfl rfl (ht rfl)) rfl ?_
  refine RG.op (ok_lenSl Try.underlying31 (ht rfl)) rfl ?_
  refine RG.op (ok_leq (ht rfl) hI) rfl ?_
  refine RG.op (ok_move (ht rfl)) rfl ?_
  obtain ⟨t, q_t, h⟩ := bs h
  refine RG.opGt rfl rfl rfl rfl (fun hg => ok_fieldAddr fd33_10 rfl flDLNode_10 rfl (ht rfl)) ?_
  refine RG.opGt rfl rfl rfl rfl (fun hg => ok_load ti31 rfl rfl (htO rfl hg)) ?_
  refine RG.opGt rfl rfl rfl rfl (fun hg => ok_move (ht rfl)) ?_
  obtain ⟨r, h1t, h0t⟩ := og q_t
  have q_rg := fun hb => (h1t hb).1
  refine RG.opGt rfl rfl rfl rfl (fun hg => ok_call cb77 (f77_ok _ _ (q_rg hg)) ⟨(htO rfl hg), (htO rfl hg), trivial⟩) ?_
  refine RG.opGt rfl rfl rfl rfl (fun hg => ok_not (htO rfl hg)) ?_
  refine RG.op (ok_pickAndM (ht rfl) (fun hb => (htO rfl hb)) (fun hb => (h1t hb).2) h0t) rfl ?_
  refine RG.op (ok_move (ht rfl)) rfl ?_
  refine RG.opGt rfl rfl rfl rfl (fun hg => ok_fieldAddr fd33_11 rfl flDLNode_11 rfl (ht rfl)) ?_
  refine RG.opGt rfl rfl rfl rfl (fun hg => ok_load ti3 rfl rfl (htO rfl hg)) ?_
  refine RG.opGt rfl rfl rfl rfl (fun hg => ok_geq (htO rfl hg) hI) ?_
  refine RG.op (ok_pickAnd (ht rfl) (fun hb => (htO rfl hb))) rfl ?_
  refine RG.op (ok_move (ht rfl)) rfl ?_
  refine RG.opGt rfl rfl rfl rfl (fun hg => ok_fieldAddr fd33_11 rfl flDLNode_11 rfl (ht rfl)) ?_
  refine RG.opGt rfl rfl rfl rfl (fun hg => ok_load ti3 rfl rfl (htO rfl hg)) ?_
  refine RG.opGt rfl rfl rfl rfl (fun hg => ok_leq (htO rfl hg) hI) ?_
  refine RG.op (ok_pickAnd (ht rfl) (fun hb => (htO rfl hb))) rfl ?_
  refine RG.op (ok_assign (ht rfl)) rfl ?_
  refine RG.nil ?_
  refine AT.next ?_
  refine CG.seq ?_
  refine CG.draw (ts := [tD (rSl (rI .i64)) e, tD rB ((t && (decide ((-1 : Int) ≤ n.Limit))) && (decide (n.Limit ≤ (2147483647 : Int)))), tD rB ((t && (decide ((-1 : Int) ≤ n.Limit))) && (decide (n.Limit ≤ (2147483647 : Int)))), tOpt ((t && (decide ((-1 : Int) ≤ n.Limit))) && (decide (n.Limit ≤ (2147483647 : Int)))) (tV (bptr b 0)), tOpt ((t && (decide ((-1 : Int) ≤ n.Limit))) && (decide (n.Limit ≤ (2147483647 : Int)))) (tV (bptr b 0)), tOpt ((t && (decide ((-1 : Int) ≤ n.Limit))) && (decide (n.Limit ≤ (2147483647 : Int)))) (tV (bptr b 1)), tOpt ((t && (decide ((-1 : Int) ≤ n.Limit))) && (decide (n.Limit ≤ (2147483647 : Int)))) (tO (rSl (rI .i64)) (ix.h 0).1 (ix.h 0).2 c.kinds), tOpt ((t && (decide ((-1 : Int) ≤ n.Limit))) && (decide (n.Limit ≤ (2147483647 : Int)))) (tD (rI .i64) (c.kinds.length : Int)), tOpt ((t && (decide ((-1 : Int) ≤ n.Limit))) && (decide (n.Limit ≤ (2147483647 : Int)))) (tV (bptr b 0)), tOpt ((t && (decide ((-1 : Int) ≤ n.Limit))) && (decide (n.Limit ≤ (2147483647 : Int)))) (tV (bptr b 0)), tOpt ((t && (decide ((-1 : Int) ≤ n.Limit))) && (decide (n.Limit ≤ (2147483647 : Int)))) (tV (bptr b 0)), tOpt ((t && (decide ((-1 : Int) ≤ n.Limit))) && (decide (n.Limit ≤ (2147483647 : Int)))) (tV (bptr b 0)), tOpt ((t && (decide ((-1 : Int) ≤ n.Limit))) && (decide (n.Limit ≤ (2147483647 : Int)))) (tD (rSl rpDLNode) c.Logic.Nodes), tOpt ((t && (decide ((-1 : Int) ≤ n.Limit))) && (decide (n.Limit ≤ (2147483647 : Int)))) (tD (rI .i64) (c.Logic.Nodes.length : Int)), tOpt ((t && (decide ((-1 : Int) ≤ n.Limit))) && (decide (n.Limit ≤ (2147483647 : Int)))) (tD (rI .i64) (IntKind.i64.wrap ((c.Logic.Nodes.length : Int) - (1 : Int)))), tOpt ((t && (decide ((-1 : Int) ≤ n.Limit))) && (decide (n.Limit ≤ (2147483647 : Int)))) (tD rB ((c.kinds.length : Int) == (IntKind.i64.wrap ((c.Logic.Nodes.length : Int) - (1 : Int))))), tD rB (((t && (decide ((-1 : Int) ≤ n.Limit))) && (decide (n.Limit ≤ (2147483647 : Int)))) && ((c.kinds.length : Int) == (IntKind.i64.wrap ((c.Logic.Nodes.length : Int) - (1 : Int))))), tD (rSl (rI .i64)) e, tD rB (((t && (decide ((-1 : Int) ≤ n.Limit))) && (decide (n.Limit ≤ (2147483647 : Int)))) && ((c.kinds.length : Int) == (IntKind.i64.wrap ((c.Logic.Nodes.length : Int) - (1 : Int)))))]) mixed rfl rfl
    ⟨⟨[⟨6, _, none⟩], _, rfl, ⟨rfl, trivial⟩, rfl, rfl, OpG.plain rfl (ok_load ti25 rfl rfl (ht rfl))⟩,
    ⟨⟨[⟨8, _, none⟩], _, rfl, ⟨rfl, trivial⟩, rfl, rfl, OpG.plain rfl (ok_move (ht rfl))⟩,
    ⟨⟨[⟨40, _, some 1⟩], _, rfl, ⟨rfl, trivial⟩, rfl, rfl, OpG.plain rfl (ok_move (ht rfl))⟩,
    ⟨⟨[⟨0, _, none⟩, ⟨41, _, some 2⟩], _, rfl, ⟨rfl, rfl, trivial⟩, rfl, rfl, OpG.gt rfl rfl rfl rfl (fun hg => ok_move (ht rfl))⟩,
    ⟨⟨[⟨42, _, some 3⟩, ⟨41, _, some 2⟩], _, rfl, ⟨rfl, rfl, trivial⟩, rfl, rfl, OpG.gt rfl rfl rfl rfl (fun hg => ok_nilB (htO rfl hg))⟩,
    ⟨⟨[⟨43, _, some 4⟩, ⟨41, _, some 2⟩], _, rfl, ⟨rfl, rfl, trivial⟩, rfl, rfl, OpG.gt rfl rfl rfl rfl (fun hg => ok_fieldAddrC (n := 1) fd58_1 rfl (htO rfl hg) rfl)⟩,
    ⟨⟨[⟨44, _, some 5⟩, ⟨41, _, some 2⟩], _, rfl, ⟨rfl, rfl, trivial⟩, rfl, rfl, OpG.gt rfl rfl rfl rfl (fun hg => ok_loadT ti56 rfl (.head _) (.tail _ (.head _)) (htO rfl hg))⟩,
    ⟨⟨[⟨45, _, some 6⟩, ⟨41, _, some 2⟩], _, rfl, ⟨rfl, rfl, trivial⟩, rfl, rfl, OpG.gt rfl rfl rfl rfl (fun hg => ok_lenSl Try.underlying56 (tO_d (htO rfl hg)))⟩,
    ⟨⟨[⟨0, _, none⟩, ⟨41, _, some 2⟩], _, rfl, ⟨rfl, rfl, trivial⟩, rfl, rfl, OpG.gt rfl rfl rfl rfl (fun hg => ok_move (ht rfl))⟩,
    ⟨⟨[⟨47, _, some 8⟩, ⟨41, _, some 2⟩], _, rfl, ⟨rfl, rfl, trivial⟩, rfl, rfl, OpG.gt rfl rfl rfl rfl (fun hg => ok_nilB (htO rfl hg))⟩,
    ⟨⟨[⟨48, _, some 9⟩, ⟨41, _, some 2⟩], _, rfl, ⟨rfl, rfl, trivial⟩, rfl, rfl, OpG.gt rfl rfl rfl rfl (fun hg => ok_fieldAddrC (n := 0) fd58_0 rfl (htO rfl hg) rfl)⟩,
    ⟨⟨[⟨49, _, some 10⟩, ⟨41, _, some 2⟩], _, rfl, ⟨rfl, rfl, trivial⟩, rfl, rfl, OpG.gt rfl rfl rfl rfl (fun hg => ok_fieldAddrC (n := 0) fd24_0 rfl (htO rfl hg) rfl)⟩,
    ⟨⟨[⟨50, _, some 11⟩, ⟨41, _, some 2⟩], _, rfl, ⟨rfl, rfl, trivial⟩, rfl, rfl, OpG.gt rfl rfl rfl rfl (fun hg => ok_loadB (r := rH rpDchecker [(1, oslV (ix.h 0).1 (ix.h 0).2 c.kinds.length), (2, oslV (ix.h 1).1 (ix.h 1).2 c.first.length)]) (x := c) ti22 rfl rfl (fldH (fld_comp flDchecker_0 flDLogic_0)) (.head _) (htO rfl hg))⟩,
    ⟨⟨[⟨51, _, some 12⟩, ⟨41, _, some 2⟩], _, rfl, ⟨rfl, rfl, trivial⟩, rfl, rfl, OpG.gt rfl rfl rfl rfl (fun hg => ok_lenSl Try.underlying22 (htO rfl hg))⟩,
    ⟨⟨[⟨52, _, some 13⟩, ⟨41, _, some 2⟩], _, rfl, ⟨rfl, rfl, trivial⟩, rfl, rfl, OpG.gt rfl rfl rfl rfl (fun hg => ok_sub (htO rfl hg) hI)⟩,
    ⟨⟨[⟨46, _, some 7⟩, ⟨53, _, some 14⟩, ⟨41, _, some 2⟩], _, rfl, ⟨rfl, rfl, rfl, trivial⟩, rfl, rfl, OpG.gt rfl rfl rfl rfl (fun hg => ok_eqlI (htO rfl hg) (htO rfl hg))⟩,
    ⟨⟨[⟨41, _, some 2⟩, ⟨54, _, some 15⟩], _, rfl, ⟨rfl, rfl, trivial⟩, rfl, rfl, OpG.plain rfl (ok_pickAnd (ht rfl) (fun hb => (htO rfl hb)))⟩,
    ⟨⟨[⟨39, _, some 0⟩], _, rfl, ⟨rfl, trivial⟩, rfl, rfl, OpG.plain rfl (ok_assign (ht rfl))⟩,
    ⟨⟨[⟨55, _, some 16⟩], _, rfl, ⟨rfl, trivial⟩, rfl, rfl, OpG.plain rfl (ok_assign (ht rfl))⟩,
    trivial⟩⟩⟩⟩⟩⟩⟩⟩⟩⟩⟩⟩⟩⟩⟩⟩⟩⟩⟩ ?_
  refine AT.next ?_
  refine CG.ret ?_
  refine AT.front2 ?_
  refine AT.front2 ?_
  refine AT.front2 ?_
  cases so h
  exact AT.retML (ts := [tD (rSl (rI .i64)) e, tD rB (((t && (decide ((-1 : Int) ≤ n.Limit))) && (decide (n.Limit ≤ (2147483647 : Int)))) && ((c.kinds.length : Int) == (IntKind.i64.wrap ((c.Logic.Nodes.length : Int) - (1 : Int)))))]) (rvs := [.tmp 4, .tmp 5]) rfl rfl ⟨res_tmp rfl, res_tmp rfl, trivial⟩ zoi rfl rfl

set_option maxRecDepth 100000 in
theorem f48_ok (n : DLNode) {R : Bool} (h : logic_zero n = some R) : Spec Try.prog 48 [tD rpDLNode n] (tD rB R) := by
  refine Spec.of Try.func48 rfl rfl rfl fun w0 S0 => ?_
  refine CG.seq ?_
  refine CG.region ?_
  refine RG.op (ok_box (ht rfl)) rfl ?_
  refine RG.op (ok_assign hB) rfl ?_
  refine RG.nil ?_
  refine AT.next ?_
  refine CG.seq ?_
  refine CG.region ?_
  refine RG.op (ok_fieldAddr fd33_3 rfl flDLNode_3 rfl (ht rfl)) rfl ?_
  refine RG.op (ok_load ti3 rfl rfl (ht rfl)) rfl ?_
  refine RG.op (ok_eqlI (ht rfl) hI) rfl ?_
  refine RG.op (ok_move (ht rfl)) rfl ?_
  refine RG.opGt rfl rfl rfl rfl (fun hg => ok_fieldAddr fd33_4 rfl flDLNode_4 rfl (ht rfl)) ?_
  refine RG.opGt rfl rfl rfl rfl (fun hg => ok_load ti25 rfl rfl (htO rfl hg)) ?_
  refine RG.opGt rfl rfl rfl rfl (fun hg => ok_lenSl Try.underlying25 (htO rfl hg)) ?_
  refine RG.opGt rfl rfl rfl rfl (fun hg => ok_eqlI (htO rfl hg) hI) ?_
  refine RG.op (ok_pickAnd (ht rfl) (fun hb => (htO rfl hb))) rfl ?_
  refine RG.op (ok_move (ht rfl)) rfl ?_
  refine RG.opGt rfl rfl rfl rfl (fun hg => ok_fieldAddr fd33_5 rfl flDLNode_5 rfl (ht rfl)) ?_
  refine RG.opGt rfl rfl rfl rfl (fun hg => ok_load ti4 rfl rfl (htO rfl hg)) ?_
  refine RG.opGt rfl rfl rfl rfl (fun hg => ok_not (htO rfl hg)) ?_
  refine RG.op (ok_pickAnd (ht rfl) (fun hb => (htO rfl hb))) rfl ?_
  refine RG.op (ok_move (ht rfl)) rfl ?_
  refine RG.opGt rfl rfl rfl rfl (fun hg => ok_fieldAddr fd33_6 rfl flDLNode_6 rfl (ht rfl)) ?_
  refine RG.opGt rfl rfl rfl rfl (fun hg => ok_fieldAddr fd28_0 rfl flDExpr_0 rfl (htO rfl hg)) ?_
  refine RG.opGt rfl rfl rfl rfl (fun hg => ok_load ti26 rfl rfl (htO rfl hg)) ?_
  refine RG.opGt rfl rfl rfl rfl (fun hg => ok_lenSl Try.underlying26 (htO rfl hg)) ?_
  refine RG.opGt rfl rfl rfl rfl (fun hg => ok_eqlI (htO rfl hg) hI) ?_
  refine RG.op (ok_pickAnd (ht rfl) (fun hb => (htO rfl hb))) rfl ?_
  refine RG.op (ok_move (ht rfl)) rfl ?_
  refine RG.opGt rfl rfl rfl rfl (fun hg => ok_fieldAddr fd33_7 rfl flDLNode_7 rfl (ht rfl)) ?_
  refine RG.opGt rfl rfl rfl rfl (fun hg => ok_load ti25 rfl rfl (htO rfl hg)) ?_
  refine RG.opGt rfl rfl rfl rfl (fun hg => ok_lenSl Try.underlying25 (htO rfl hg)) ?_
  refine RG.opGt rfl rfl rfl rfl (fun hg => ok_eqlI (htO rfl hg) hI) ?_
  refine RG.op (ok_pickAnd (ht rfl) (fun hb => (htO rfl hb))) rfl ?_
  refine RG.op (ok_move (ht rfl)) rfl ?_
  refine RG.opGt rfl rfl rfl rfl (fun hg => ok_fieldAddr fd33_8 rfl flDLNode_8 rfl (ht rfl)) ?_
  refine RG.opGt rfl rfl rfl rfl (fun hg => ok_load ti29 rfl rfl (htO rfl hg)) ?_
  refine RG.opGt rfl rfl rfl rfl (fun hg => ok_lenSl Try.underlying29 (htO rfl hg)) ?_
  refine RG.opGt rfl rfl rfl rfl (fun hg => ok_eqlI (htO rfl hg) hI) ?_
  refine RG.op (ok_pickAnd (ht rfl) (fun hb => (htO rfl hb))) rfl ?_
  refine RG.op (ok_move (ht rfl)) rfl ?_
  refine RG.opGt rfl rfl rfl rfl (fun hg => ok_fieldAddr fd33_9 rfl flDLNode_9 rfl (ht rfl)) ?_
  refine RG.opGt rfl rfl rfl rfl (fun hg => ok_load ti30 rfl rfl (htO rfl hg)) ?_
  refine RG.opGt rfl rfl rfl rfl (fun hg => ok_lenSl Try.underlying30 (htO rfl hg)) ?_
  refine RG.opGt rfl rfl rfl rfl (fun hg => ok_eqlI (htO rfl hg) hI) ?_
  refine RG.op (ok_pickAnd (ht rfl) (fun hb => (htO rfl hb))) rfl ?_
  refine RG.op (ok_move (ht rfl)) rfl ?_
  refine RG.opGt rfl rfl rfl rfl (fun hg => ok_fieldAddr fd33_10 rfl flDLNode_10 rfl (ht rfl)) ?_
  refine RG.opGt rfl rfl rfl rfl (fun hg => ok_load ti31 rfl rfl (htO rfl hg)) ?_
  refine RG.opGt rfl rfl rfl rfl (fun hg => ok_lenSl Try.underlying31 (htO rfl hg)) ?_
  refine RG.opGt rfl rfl rfl rfl (fun hg => ok_eqlI (htO rfl hg) hI) ?_
  refine RG.op (ok_pickAnd (ht rfl) (fun hb => (htO rfl hb))) rfl ?_
  refine RG.op (ok_move (ht rfl)) rfl ?_
  refine RG.opGt rfl rfl rfl rfl (fun hg => ok_fieldAddr fd33_11 rfl flDLNode_11 rfl (ht rfl)) ?_
  refine RG.opGt rfl rfl rfl rfl (fun hg => ok_load ti3 rfl rfl (htO rfl hg)) ?_
  refine RG.opGt rfl rfl rfl rfl (fun hg => ok_eqlI (htO rfl hg) hI) ?_
  refine RG.op (ok_pickAnd (ht rfl) (fun hb => (htO rfl hb))) rfl ?_
  refine RG.op (ok_assign (ht rfl)) rfl ?_
  refine RG.nil ?_
  refine AT.next ?_
  refine CG.ret ?_
  cases so h
  exact AT.ret1 rfl rfl

set_option maxRecDepth 100000 in
theorem f49_ok (n : DLNode) {R : DLNode} (h : logic_bare n = some R) : Spec Try.prog 49 [tD rpDLNode n] (tD rpDLNode R) := by
  refine Spec.of Try.func49 rfl rfl rfl fun w0 S0 => ?_
  refine CG.seq ?_
  refine CG.region ?_
  refine RG.boxO (ht rfl) rfl (fun b => ?_)
  refine RG.alloc (r := rpDLNode) (x := (⟨(0 : Int), (0 : Int), (0 : Int), (0 : Int), [], false, (⟨[]⟩ : DExpr), [], [], [], [], (0 : Int)⟩ : DLNode)) ti33 (fun _ => zrDLNode _) rfl (fun b1 => ?_)
  refine RG.nil ?_
  refine AT.next ?_
  refine CG.seq ?_
  refine CG.seq ?_
  refine CG.region ?_
  refine RG.op (ok_fieldAddrC (n := 0) fd33_0 rfl (ht rfl) rfl) rfl ?_
  refine RG.op (ok_loadB ti3 rfl rfl flDLNode_0 (.tail _ (.head _)) (ht rfl)) rfl ?_
  refine RG.nil ?_
  refine AT.next ?_
  refine CG.block ?_
  refine CG.seq ?_
  refine CG.region ?_
  refine RG.op (ok_eqlI (ht rfl) hI) rfl ?_
  refine RG.op (ok_assign (ht rfl)) rfl ?_
  refine RG.nil ?_
  refine AT.next ?_
  refine CG.cond (ht rfl) (fun hc => ?_) (fun hc => ?_)
  · have h := ct h hc
    refine CG.region ?_
    refine RG.op (ok_fieldAddrC (n := 3) fd33_3 rfl (ht rfl) rfl) rfl ?_
    refine RG.front1 ?_
    refine RG.storeB ti3 rfl sfDLNode_3 rfl (ht rfl) hI ?_
    refine RG.op (ok_fieldAddrC (n := 4) fd33_4 rfl (ht rfl) rfl) rfl ?_
    refine RG.storeB ti25 rfl sfDLNode_4 rfl (ht rfl) hNil ?_
    refine RG.nil ?_
    refine AT.in_normal ?_
    refine AT.next ?_
    refine CG.seq ?_
    refine CG.region ?_
    refine RG.op (ok_loadB ti33 rfl rfl fld_whole (.head _) (ht rfl)) rfl ?_
    refine RG.front1 ?_
    refine RG.storeB ti33 rfl sfld_whole rfl (ht rfl) (ht rfl) ?_
    refine RG.settleB 2 rfl ?_
    refine RG.nil ?_
    refine AT.next ?_
    refine CG.ret ?_
    refine AT.drop ?_
    cases so h
    exact AT.ret1c rfl ti33 rfl rfl rfl
  · have h := cf h hc
    refine CG.seq ?_
    refine CG.region ?_
    refine RG.op (ok_eqlI (ht rfl) hI) rfl ?_
    refine RG.op (ok_assign (ht rfl)) rfl ?_
    refine RG.nil ?_
    refine AT.next ?_
    refine CG.cond (ht rfl) (fun hc => ?_) (fun hc => ?_)
    · have h := ct h hc
      refine CG.region ?_
      refine RG.op (ok_build (y := (⟨[]⟩ : DExpr)) ti28 fs28 zrDExpr (rfl)) rfl ?_
      refine RG.op (ok_fieldAddrC (n := 5) fd33_5 rfl (ht rfl) rfl) rfl ?_
      refine RG.front1 ?_
      refine RG.storeB ti4 rfl sfDLNode_5 rfl (ht rfl) hB ?_
      refine RG.op (ok_fieldAddrC (n := 6) fd33_6 rfl (ht rfl) rfl) rfl ?_
      refine RG.storeB ti28 rfl sfDLNode_6 rfl (ht rfl) (ht rfl) ?_
      refine RG.nil ?_
      refine AT.in_normal ?_
      refine AT.next ?_
      refine CG.seq ?_
      refine CG.region ?_
      refine RG.op (ok_loadB ti33 rfl rfl fld_whole (.head _) (ht rfl)) rfl ?_
      refine RG.front1 ?_
      refine RG.storeB ti33 rfl sfld_whole rfl (ht rfl) (ht rfl) ?_
      refine RG.settleB 2 rfl ?_
      refine RG.nil ?_
      refine AT.next ?_
      refine CG.ret ?_
      refine AT.drop ?_
      cases so h
      exact AT.ret1c rfl ti33 rfl rfl rfl
    · have h := cf h hc
      refine CG.seq ?_
      refine CG.region ?_
      refine RG.op (ok_eqlI (ht rfl) hI) rfl ?_
      refine RG.op (ok_assign (ht rfl)) rfl ?_
      refine RG.nil ?_
      refine AT.next ?_
      refine CG.cond (ht rfl) (fun hc => ?_) (fun hc => ?_)
      · have h := ct h hc
        refine CG.region ?_
        refine RG.op (ok_build (y := (⟨[]⟩ : DExpr)) ti28 fs28 zrDExpr (rfl)) rfl ?_
        refine RG.op (ok_fieldAddrC (n := 6) fd33_6 rfl (ht rfl) rfl) rfl ?_
        refine RG.front1 ?_
        refine RG.storeB ti28 rfl sfDLNode_6 rfl (ht rfl) (ht rfl) ?_
        refine RG.nil ?_
        refine AT.in_normal ?_
        refine AT.next ?_
        refine CG.seq ?_
        refine CG.region ?_
        refine RG.op (ok_loadB ti33 rfl rfl fld_whole (.head _) (ht rfl)) rfl ?_
        refine RG.front1 ?_
        refine RG.storeB ti33 rfl sfld_whole rfl (ht rfl) (ht rfl) ?_
        refine RG.settleB 2 rfl ?_
        refine RG.nil ?_
        refine AT.next ?_
        refine CG.ret ?_
        refine AT.drop ?_
        cases so h
        exact AT.ret1c rfl ti33 rfl rfl rfl
      · have h := cf h hc
        refine CG.seq ?_
        refine CG.region ?_
        refine RG.op (ok_eqlI (ht rfl) hI) rfl ?_
        refine RG.op (ok_assign (ht rfl)) rfl ?_
        refine RG.nil ?_
        refine AT.next ?_
        refine CG.cond (ht rfl) (fun hc => ?_) (fun hc => ?_)
        · have h := ct h hc
          refine CG.region ?_
          refine RG.op (ok_fieldAddrC (n := 7) fd33_7 rfl (ht rfl) rfl) rfl ?_
          refine RG.front1 ?_
          refine RG.storeB ti25 rfl sfDLNode_7 rfl (ht rfl) hNil ?_
          refine RG.op (ok_fieldAddrC (n := 8) fd33_8 rfl (ht rfl) rfl) rfl ?_
          refine RG.storeB ti29 rfl sfDLNode_8 rfl (ht rfl) hNil ?_
          refine RG.nil ?_
          refine AT.in_normal ?_
          refine AT.next ?_
          refine CG.seq ?_
          refine CG.region ?_
          refine RG.op (ok_loadB ti33 rfl rfl fld_whole (.head _) (ht rfl)) rfl ?_
          refine RG.front1 ?_
          refine RG.storeB ti33 rfl sfld_whole rfl (ht rfl) (ht rfl) ?_
          refine RG.settleB 2 rfl ?_
          refine RG.nil ?_
          refine AT.next ?_
          refine CG.ret ?_
          refine AT.drop ?_
          cases so h
          exact AT.ret1c rfl ti33 rfl rfl rfl
        · have h := cf h hc
          refine CG.seq ?_
          refine CG.region ?_
          refine RG.op (ok_eqlI (ht rfl) hI) rfl ?_
          refine RG.op (ok_assign (ht rfl)) rfl ?_
          refine RG.nil ?_
          refine AT.next ?_
          refine CG.cond (ht rfl) (fun hc => ?_) (fun hc => ?_)
          · have h := ct h hc
            refine CG.region ?_
            refine RG.op (ok_fieldAddrC (n := 9) fd33_9 rfl (ht rfl) rfl) rfl ?_
            refine RG.front1 ?_
            refine RG.storeB ti30 rfl sfDLNode_9 rfl (ht rfl) hNil ?_
            refine RG.nil ?_
            refine AT.in_normal ?_
            refine AT.next ?_
            refine CG.seq ?_
            refine CG.region ?_
            refine RG.op (ok_loadB ti33 rfl rfl fld_whole (.head _) (ht rfl)) rfl ?_
            refine RG.front1 ?_
            refine RG.storeB ti33 rfl sfld_whole rfl (ht rfl) (ht rfl) ?_
            refine RG.settleB 2 rfl ?_
            refine RG.nil ?_
            refine AT.next ?_
            refine CG.ret ?_
            refine AT.drop ?_
            cases so h
            exact AT.ret1c rfl ti33 rfl rfl rfl
          · have h := cf h hc
            refine CG.seq ?_
            refine CG.region ?_
            refine RG.op (ok_eqlI (ht rfl) hI) rfl ?_
            refine RG.op (ok_assign (ht rfl)) rfl ?_
            refine RG.nil ?_
            refine AT.next ?_
            refine CG.cond (ht rfl) (fun hc => ?_) (fun hc => ?_)
            · have h := ct h hc
              refine CG.region ?_
              refine RG.op (ok_fieldAddrC (n := 10) fd33_10 rfl (ht rfl) rfl) rfl ?_
              refine RG.front1 ?_
              refine RG.storeB ti31 rfl sfDLNode_10 rfl (ht rfl) hNil ?_
              refine RG.op (ok_fieldAddrC (n := 11) fd33_11 rfl (ht rfl) rfl) rfl ?_
              refine RG.storeB ti3 rfl sfDLNode_11 rfl (ht rfl) hI ?_
              refine RG.nil ?_
              refine AT.in_normal ?_
              refine AT.next ?_
              refine CG.seq ?_
              refine CG.region ?_
              refine RG.op (ok_loadB ti33 rfl rfl fld_whole (.head _) (ht rfl)) rfl ?_
              refine RG.front1 ?_
              refine RG.storeB ti33 rfl sfld_whole rfl (ht rfl) (ht rfl) ?_
              refine RG.settleB 2 rfl ?_
              refine RG.nil ?_
              refine AT.next ?_
              refine CG.ret ?_
              refine AT.drop ?_
              cases so h
              exact AT.ret1c rfl ti33 rfl rfl rfl
            · have h := cf h hc
              refine CG.skip ?_
              refine AT.in_normal ?_
              refine AT.next ?_
              refine CG.seq ?_
              refine CG.region ?_
              refine RG.op (ok_loadB ti33 rfl rfl fld_whole (.tail _ (.head _)) (ht rfl)) rfl ?_
              refine RG.storeB ti33 rfl sfld_whole rfl (ht rfl) (ht rfl) ?_
              refine RG.settleB 2 rfl ?_
              refine RG.nil ?_
              refine AT.next ?_
              refine CG.ret ?_
              refine AT.drop ?_
              cases so h
              exact AT.ret1c rfl ti33 rfl rfl rfl

set_option maxRecDepth 100000 in
theorem f78_ok (op : Int) {R : Int} (h : logic_parts op = some R) : Spec Try.prog 78 [tD (rI .i64) op] (tD (rI .i64) R) := by
  refine Spec.of Try.func78 rfl rfl rfl fun w0 S0 => ?_
  refine CG.seq ?_
  refine CG.region ?_
  refine RG.op (ok_assign hI) rfl ?_
  refine RG.nil ?_
  refine AT.next ?_
  refine CG.seq ?_
  refine CG.seq ?_
  refine CG.region ?_
  refine RG.op (ok_move (ht rfl)) rfl ?_
  refine RG.nil ?_
  refine AT.next ?_
  refine CG.block ?_
  refine CG.seq ?_
  refine CG.region ?_
  refine RG.op (ok_eqlI (ht rfl) hI) rfl ?_
  refine RG.op (ok_assign (ht rfl)) rfl ?_
  refine RG.nil ?_
  refine AT.next ?_
  refine CG.cond (ht rfl) (fun hc => ?_) (fun hc => ?_)
  · have h := ct h hc
    refine CG.seq ?_
    refine CG.region ?_
    refine RG.op (ok_assign hI) rfl ?_
    refine RG.nil ?_
    refine AT.next ?_
    refine CG.ret ?_
    refine AT.in_ret (AT.then_ret ?_)
    cases so h
    exact AT.ret1 rfl rfl
  · have h := cf h hc
    refine CG.sjoin1 (Z := fun x => logic_parts_k1 x = some R) (Of := fun x => []) (Gf := fun x => [(6, tD rB x)]) (fun x h => ?_) (fun K => ?_)
    · skip
      refine CG.cond (ht rfl) (fun hc => ?_) (fun hc => ?_)
      · have h := ct h hc
        refine CG.seq ?_
        refine CG.region ?_
        refine RG.op (ok_assign hI) rfl ?_
        refine RG.nil ?_
        refine AT.next ?_
        refine CG.ret ?_
        refine AT.in_ret (AT.then_ret ?_)
        cases so h
        exact AT.ret1 rfl rfl
      · have h := cf h hc
        refine CG.skip ?_
        refine AT.in_normal ?_
        refine AT.next ?_
        refine CG.seq ?_
        refine CG.region ?_
        refine RG.op (ok_assign hI) rfl ?_
        refine RG.nil ?_
        refine AT.next ?_
        refine CG.ret ?_
        cases so h
        exact AT.ret1 rfl rfl
    · skip
      refine CG.seq ?_
      refine CG.region ?_
      refine RG.op (ok_eqlI (ht rfl) hI) rfl ?_
      refine RG.op (ok_assign (ht rfl)) rfl ?_
      refine RG.nil ?_
      refine AT.next ?_
      refine CG.cond (ht rfl) (fun hc => ?_) (fun hc => ?_)
      · have h := ct h hc
        refine CG.skip ?_
        exact AT.sub (K (op == (2 : Int)) h) ⟨rfl, trivial⟩
      · have h := cf h hc
        refine CG.region ?_
        refine RG.op (ok_eqlI (ht rfl) hI) rfl ?_
        refine RG.op (ok_assign (ht rfl)) rfl ?_
        refine RG.nil ?_
        exact AT.sub (K (op == (7 : Int)) h) ⟨rfl, trivial⟩

set_option maxRecDepth 100000 in
theorem f50_o (b : Nat) (ix : OI) (c : Dchecker) (i : Int) {R : Int × Bool} (h : logic_checker_below c i = some R) : SpecM Try.prog 50 [tV (bptr b 0), tD (rI .i64) i] (ob58 b c ix) (fun _ : OI => tT [tD (rI .i64) R.1, tD rB R.2]) (fun _ => (ob58 b c ix)) := by
  refine SpecM.of Try.func50 rfl rfl rfl fun w0 S0 => ?_
  refine (show CG _ _ _ [bx (rH rpDchecker [(1, oslV (ix.h 0).1 (ix.h 0).2 c.kinds.length), (2, oslV (ix.h 1).1 (ix.h 1).2 c.first.length)]) 58 b c, tip (rSl (rI .i64)) 25 (ix.h 0).1 (ix.h 0).2 c.kinds, tip (rI .i64) 3 (ix.h 1).1 (ix.h 1).2 c.first] _ from ?_)
  refine CG.seq ?_
  refine CG.region ?_
  refine RG.op (ok_assign hI) rfl ?_
  refine RG.op (ok_assign hB) rfl ?_
  refine RG.nil ?_
  refine AT.next ?_
  refine CG.seq ?_
  refine CG.region ?_
  refine RG.op (ok_move (ht rfl)) rfl ?_
  refine RG.op (ok_nilB (ht rfl)) rfl ?_
  refine RG.op (ok_fieldAddrC (n := 0) fd58_0 rfl (ht rfl) rfl) rfl ?_
  refine RG.op (ok_fieldAddrC (n := 0) fd24_0 rfl (ht rfl) rfl) rfl ?_
  refine RG.op (ok_loadB (r := rH rpDchecker [(1, oslV (ix.h 0).1 (ix.h 0).2 c.kinds.length), (2, oslV (ix.h 1).1 (ix.h 1).2 c.first.length)]) (x := c) ti22 rfl rfl (fldH (fld_comp flDchecker_0 flDLogic_0)) (.head _) (ht rfl)) rfl ?_
  refine RG.op (ok_move (ht rfl)) rfl ?_
  obtain ⟨e, q_e, h⟩ := bs h
  refine RG.op (ok_indexAddr Try.underlying22 ti33 rfl (ht rfl) (ht rfl) q_e) rfl ?_
  refine RG.op (ok_load ti33 rfl rfl (ht rfl)) rfl ?_
  refine RG.alloc (r := rpDLNode) (x := (⟨(0 : Int), (0 : Int), (0 : Int), (0 : Int), [], false, (⟨[]⟩ : DExpr), [], [], [], [], (0 : Int)⟩ : DLNode)) ti33 (fun _ => zrDLNode _) rfl (fun b1 => ?_)
  refine RG.storeB ti33 rfl sfld_whole rfl (ht rfl) (ht rfl) ?_
  refine RG.settleB 6 rfl ?_
  refine RG.nil ?_
  refine AT.next ?_
  refine CG.seq ?_
  refine CG.seq ?_
  refine CG.region ?_
  refine RG.op (ok_fieldAddr fd33_0 rfl flDLNode_0 rfl (ht rfl)) rfl ?_
  refine RG.op (ok_load ti3 rfl rfl (ht rfl)) rfl ?_
  obtain ⟨r, q_r, h⟩ := bs h
  refine RG.op (ok_call cb78 (f78_ok _ q_r) ⟨(ht rfl), trivial⟩) rfl ?_
  refine RG.nil ?_
  refine AT.next ?_
  refine CG.block ?_
  refine CG.seq ?_
  refine CG.region ?_
  refine RG.op (ok_eqlI (ht rfl) hI) rfl ?_
  refine RG.op (ok_assign (ht rfl)) rfl ?_
  refine RG.nil ?_
  refine AT.next ?_
  refine CG.cond (ht rfl) (fun hc => ?_) (fun hc => ?_)
  · have h := ct h hc
    refine CG.seq ?_
    refine CG.draw (ts := [tD (rI .i64) i, tPtr (rI .i64) e.A, tD (rI .i64) e.A, tD rB (e.A == (-1 : Int)), tD rB (e.A == (-1 : Int)), tOpt (e.A == (-1 : Int)) (tPtr (rI .i64) e.B), tOpt (e.A == (-1 : Int)) (tD (rI .i64) e.B), tOpt (e.A == (-1 : Int)) (tD rB (e.B == (-1 : Int))), tD rB ((e.A == (-1 : Int)) && (e.B == (-1 : Int))), tD (rI .i64) i, tD rB ((e.A == (-1 : Int)) && (e.B == (-1 : Int)))]) mixed rfl rfl
      ⟨⟨[⟨1, _, none⟩], _, rfl, ⟨rfl, trivial⟩, rfl, rfl, OpG.plain rfl (ok_move (ht rfl))⟩,
      ⟨⟨[⟨6, _, none⟩], _, rfl, ⟨rfl, trivial⟩, rfl, rfl, OpG.plain rfl (ok_fieldAddr fd33_1 rfl flDLNode_1 rfl (ht rfl))⟩,
      ⟨⟨[⟨21, _, some 1⟩], _, rfl, ⟨rfl, trivial⟩, rfl, rfl, OpG.plain rfl (ok_load ti3 rfl rfl (ht rfl))⟩,
      ⟨⟨[⟨22, _, some 2⟩], _, rfl, ⟨rfl, trivial⟩, rfl, rfl, OpG.plain rfl (ok_eqlI (ht rfl) hI)⟩,
      ⟨⟨[⟨23, _, some 3⟩], _, rfl, ⟨rfl, trivial⟩, rfl, rfl, OpG.plain rfl (ok_move (ht rfl))⟩,
      ⟨⟨[⟨6, _, none⟩, ⟨24, _, some 4⟩], _, rfl, ⟨rfl, rfl, trivial⟩, rfl, rfl, OpG.gt rfl rfl rfl rfl (fun hg => ok_fieldAddr fd33_2 rfl flDLNode_2 rfl (ht rfl))⟩,
      ⟨⟨[⟨25, _, some 5⟩, ⟨24, _, some 4⟩], _, rfl, ⟨rfl, rfl, trivial⟩, rfl, rfl, OpG.gt rfl rfl rfl rfl (fun hg => ok_load ti3 rfl rfl (htO rfl hg))⟩,
      ⟨⟨[⟨26, _, some 6⟩, ⟨24, _, some 4⟩], _, rfl, ⟨rfl, rfl, trivial⟩, rfl, rfl, OpG.gt rfl rfl rfl rfl (fun hg => ok_eqlI (htO rfl hg) hI)⟩,
      ⟨⟨[⟨24, _, some 4⟩, ⟨27, _, some 7⟩], _, rfl, ⟨rfl, rfl, trivial⟩, rfl, rfl, OpG.plain rfl (ok_pickAnd (ht rfl) (fun hb => (htO rfl hb)))⟩,
      ⟨⟨[⟨20, _, some 0⟩], _, rfl, ⟨rfl, trivial⟩, rfl, rfl, OpG.plain rfl (ok_assign (ht rfl))⟩,
      ⟨⟨[⟨28, _, some 8⟩], _, rfl, ⟨rfl, trivial⟩, rfl, rfl, OpG.plain rfl (ok_assign (ht rfl))⟩,
      trivial⟩⟩⟩⟩⟩⟩⟩⟩⟩⟩⟩ ?_
    refine AT.next ?_
    refine CG.ret ?_
    refine AT.in_ret (AT.then_ret ?_)
    refine AT.front2 ?_
    refine AT.front2 ?_
    refine AT.front2 ?_
    cases so h
    exact AT.retML (ts := [tD (rI .i64) i, tD rB ((e.A == (-1 : Int)) && (e.B == (-1 : Int)))]) (rvs := [.tmp 4, .tmp 5]) rfl rfl ⟨res_tmp rfl, res_tmp rfl, trivial⟩ zoi rfl rfl
  · have h := cf h hc
    refine CG.seq ?_
    refine CG.region ?_
    refine RG.op (ok_eqlI (ht rfl) hI) rfl ?_
    refine RG.op (ok_assign (ht rfl)) rfl ?_
    refine RG.nil ?_
    refine AT.next ?_
    refine CG.cond (ht rfl) (fun hc => ?_) (fun hc => ?_)
    · have h := ct h hc
      refine CG.seq ?_
      refine CG.seq ?_
      refine CG.region ?_
      refine RG.op (ok_fieldAddr fd33_1 rfl flDLNode_1 rfl (ht rfl)) rfl ?_
      refine RG.op (ok_load ti3 rfl rfl (ht rfl)) rfl ?_
      refine RG.op (ok_move (ht rfl)) rfl ?_
      refine RG.op (ok_sub (ht rfl) hI) rfl ?_
      refine RG.op (ok_neqI (ht rfl) (ht rfl)) rfl ?_
      refine RG.op (ok_move (ht rfl)) rfl ?_
      refine RG.opGf rfl rfl rfl rfl (fun hg => ok_fieldAddr fd33_2 rfl flDLNode_2 rfl (ht rfl)) ?_
      refine RG.opGf rfl rfl rfl rfl (fun hg => ok_load ti3 rfl rfl (htO rfl hg)) ?_
      refine RG.opGf rfl rfl rfl rfl (fun hg => ok_neqI (htO rfl hg) hI) ?_
      refine RG.op (ok_pickOr (ht rfl) (fun hb => (htO rfl (noti hb)))) rfl ?_
      refine RG.op (ok_move (ht rfl)) rfl ?_
      refine RG.opGf rfl rfl rfl rfl (fun hg => ok_move (ht rfl)) ?_
      refine RG.opGf rfl rfl rfl rfl (fun hg => ok_eqlI (htO rfl hg) hI) ?_
      refine RG.op (ok_pickOr (ht rfl) (fun hb => (htO rfl (noti hb)))) rfl ?_
      refine RG.nil ?_
      refine AT.next ?_
      refine CG.cond (ht rfl) (fun hc => ?_) (fun hc => ?_)
      · have h := ct h hc
        refine CG.seq ?_
        refine CG.region ?_
        refine RG.op (ok_assign hI) rfl ?_
        refine RG.op (ok_assign hB) rfl ?_
        refine RG.nil ?_
        refine AT.next ?_
        refine CG.ret ?_
        refine AT.then_ret (AT.in_ret (AT.then_ret ?_))
        refine AT.front2 ?_
        refine AT.front2 ?_
        refine AT.front2 ?_
        cases so h
        exact AT.retML (ts := [tD (rI .i64) (0 : Int), tD rB false]) (rvs := [.tmp 4, .tmp 5]) rfl rfl ⟨res_tmp rfl, res_tmp rfl, trivial⟩ zoi rfl rfl
      · have h := cf h hc
        refine CG.skip ?_
        refine AT.next ?_
        refine CG.seq ?_
        obtain ⟨e1, q_e1, h⟩ := bs h
        refine CG.draw (ts := [tV (bptr b 0), tV (bptr b 0), tV (bptr b 2), tO (rI .i64) (ix.h 1).1 (ix.h 1).2 c.first, tPtr (rI .i64) e.A, tD (rI .i64) e.A, tPtr (rI .i64) e1, tD (rI .i64) e1, tD (rI .i64) e1, tD rB true]) mixed rfl rfl
          ⟨⟨[⟨0, _, none⟩], _, rfl, ⟨rfl, trivial⟩, rfl, rfl, OpG.plain rfl (ok_move (ht rfl))⟩,
          ⟨⟨[⟨45, _, some 0⟩], _, rfl, ⟨rfl, trivial⟩, rfl, rfl, OpG.plain rfl (ok_nilB (ht rfl))⟩,
          ⟨⟨[⟨46, _, some 1⟩], _, rfl, ⟨rfl, trivial⟩, rfl, rfl, OpG.plain rfl (ok_fieldAddrC (n := 2) fd58_2 rfl (ht rfl) rfl)⟩,
          ⟨⟨[⟨47, _, some 2⟩], _, rfl, ⟨rfl, trivial⟩, rfl, rfl, OpG.plain rfl (ok_loadT ti25 rfl (.head _) (.tail _ (.tail _ (.head _))) (ht rfl))⟩,
          ⟨⟨[⟨6, _, none⟩], _, rfl, ⟨rfl, trivial⟩, rfl, rfl, OpG.plain rfl (ok_fieldAddr fd33_1 rfl flDLNode_1 rfl (ht rfl))⟩,
          ⟨⟨[⟨49, _, some 4⟩], _, rfl, ⟨rfl, trivial⟩, rfl, rfl, OpG.plain rfl (ok_load ti3 rfl rfl (ht rfl))⟩,
          ⟨⟨[⟨48, _, some 3⟩, ⟨50, _, some 5⟩], _, rfl, ⟨rfl, rfl, trivial⟩, rfl, rfl, OpG.plain rfl (ok_indexAddr Try.underlying25 ti3 rfl (tO_d (ht rfl)) (ht rfl) q_e1)⟩,
          ⟨⟨[⟨51, _, some 6⟩], _, rfl, ⟨rfl, trivial⟩, rfl, rfl, OpG.plain rfl (ok_load ti3 rfl rfl (ht rfl))⟩,
          ⟨⟨[⟨52, _, some 7⟩], _, rfl, ⟨rfl, trivial⟩, rfl, rfl, OpG.plain rfl (ok_assign (ht rfl))⟩,
          ⟨⟨[], _, rfl, trivial, rfl, rfl, OpG.plain rfl (ok_assign hB)⟩,
          trivial⟩⟩⟩⟩⟩⟩⟩⟩⟩⟩ ?_
        refine AT.next ?_
        refine CG.ret ?_
        refine AT.in_ret (AT.then_ret ?_)
        refine AT.front2 ?_
        refine AT.front2 ?_
        refine AT.front2 ?_
        cases so h
        exact AT.retML (ts := [tD (rI .i64) e1, tD rB true]) (rvs := [.tmp 4, .tmp 5]) rfl rfl ⟨res_tmp rfl, res_tmp rfl, trivial⟩ zoi rfl rfl
    · have h := cf h hc
      refine CG.skip ?_
      refine AT.in_normal ?_
      refine AT.next ?_
      refine CG.seq ?_
      refine CG.seq ?_
      obtain ⟨t, q_t, h⟩ := bs h
      obtain ⟨e2, h1t, h0t⟩ := og q_t
      have q_e2g := fun hb => (h1t hb).1
      refine CG.draw (ts := [tPtr (rI .i64) e.B, tD (rI .i64) e.B, tD (rI .i64) i, tD (rI .i64) (IntKind.i64.wrap (i - (1 : Int))), tD rB (e.B != (IntKind.i64.wrap (i - (1 : Int)))), tD rB (e.B != (IntKind.i64.wrap (i - (1 : Int)))), tOpt (!(e.B != (IntKind.i64.wrap (i - (1 : Int))))) (tD (rI .i64) i), tOpt (!(e.B != (IntKind.i64.wrap (i - (1 : Int))))) (tD rB (i == (0 : Int))), tD rB ((e.B != (IntKind.i64.wrap (i - (1 : Int)))) || (i == (0 : Int))), tD rB ((e.B != (IntKind.i64.wrap (i - (1 : Int)))) || (i == (0 : Int))), tOpt (!((e.B != (IntKind.i64.wrap (i - (1 : Int)))) || (i == (0 : Int)))) (tPtr (rI .i64) e.A), tOpt (!((e.B != (IntKind.i64.wrap (i - (1 : Int)))) || (i == (0 : Int)))) (tD (rI .i64) e.A), tOpt (!((e.B != (IntKind.i64.wrap (i - (1 : Int)))) || (i == (0 : Int)))) (tV (bptr b 0)), tOpt (!((e.B != (IntKind.i64.wrap (i - (1 : Int)))) || (i == (0 : Int)))) (tV (bptr b 0)), tOpt (!((e.B != (IntKind.i64.wrap (i - (1 : Int)))) || (i == (0 : Int)))) (tV (bptr b 2)), tOpt (!((e.B != (IntKind.i64.wrap (i - (1 : Int)))) || (i == (0 : Int)))) (tO (rI .i64) (ix.h 1).1 (ix.h 1).2 c.first), tOpt (!((e.B != (IntKind.i64.wrap (i - (1 : Int)))) || (i == (0 : Int)))) (tPtr (rI .i64) e.B), tOpt (!((e.B != (IntKind.i64.wrap (i - (1 : Int)))) || (i == (0 : Int)))) (tD (rI .i64) e.B), tOpt (!((e.B != (IntKind.i64.wrap (i - (1 : Int)))) || (i == (0 : Int)))) (tPtr (rI .i64) e2), tOpt (!((e.B != (IntKind.i64.wrap (i - (1 : Int)))) || (i == (0 : Int)))) (tD (rI .i64) e2), tOpt (!((e.B != (IntKind.i64.wrap (i - (1 : Int)))) || (i == (0 : Int)))) (tD (rI .i64) (IntKind.i64.wrap (e2 - (1 : Int)))), tOpt (!((e.B != (IntKind.i64.wrap (i - (1 : Int)))) || (i == (0 : Int)))) (tD rB (e.A != (IntKind.i64.wrap (e2 - (1 : Int))))), tD rB t, tD rB t, tOpt (!t) (tPtr (rI .i64) e.A), tOpt (!t) (tD (rI .i64) e.A), tOpt (!t) (tD rB (decide (e.A < (0 : Int)))), tD rB (t || (decide (e.A < (0 : Int))))]) mixed rfl rfl
        ⟨⟨[⟨6, _, none⟩], _, rfl, ⟨rfl, trivial⟩, rfl, rfl, OpG.plain rfl (ok_fieldAddr fd33_2 rfl flDLNode_2 rfl (ht rfl))⟩,
        ⟨⟨[⟨53, _, some 0⟩], _, rfl, ⟨rfl, trivial⟩, rfl, rfl, OpG.plain rfl (ok_load ti3 rfl rfl (ht rfl))⟩,
        ⟨⟨[⟨1, _, none⟩], _, rfl, ⟨rfl, trivial⟩, rfl, rfl, OpG.plain rfl (ok_move (ht rfl))⟩,
        ⟨⟨[⟨55, _, some 2⟩], _, rfl, ⟨rfl, trivial⟩, rfl, rfl, OpG.plain rfl (ok_sub (ht rfl) hI)⟩,
        ⟨⟨[⟨54, _, some 1⟩, ⟨56, _, some 3⟩], _, rfl, ⟨rfl, rfl, trivial⟩, rfl, rfl, OpG.plain rfl (ok_neqI (ht rfl) (ht rfl))⟩,
        ⟨⟨[⟨57, _, some 4⟩], _, rfl, ⟨rfl, trivial⟩, rfl, rfl, OpG.plain rfl (ok_move (ht rfl))⟩,
        ⟨⟨[⟨1, _, none⟩, ⟨58, _, some 5⟩], _, rfl, ⟨rfl, rfl, trivial⟩, rfl, rfl, OpG.gf rfl rfl rfl rfl (fun hg => ok_move (ht rfl))⟩,
        ⟨⟨[⟨59, _, some 6⟩, ⟨58, _, some 5⟩], _, rfl, ⟨rfl, rfl, trivial⟩, rfl, rfl, OpG.gf rfl rfl rfl rfl (fun hg => ok_eqlI (htO rfl hg) hI)⟩,
        ⟨⟨[⟨58, _, some 5⟩, ⟨60, _, some 7⟩], _, rfl, ⟨rfl, rfl, trivial⟩, rfl, rfl, OpG.plain rfl (ok_pickOr (ht rfl) (fun hb => (htO rfl (noti hb))))⟩,
        ⟨⟨[⟨61, _, some 8⟩], _, rfl, ⟨rfl, trivial⟩, rfl, rfl, OpG.plain rfl (ok_move (ht rfl))⟩,
        ⟨⟨[⟨6, _, none⟩, ⟨62, _, some 9⟩], _, rfl, ⟨rfl, rfl, trivial⟩, rfl, rfl, OpG.gf rfl rfl rfl rfl (fun hg => ok_fieldAddr fd33_1 rfl flDLNode_1 rfl (ht rfl))⟩,
        ⟨⟨[⟨63, _, some 10⟩, ⟨62, _, some 9⟩], _, rfl, ⟨rfl, rfl, trivial⟩, rfl, rfl, OpG.gf rfl rfl rfl rfl (fun hg => ok_load ti3 rfl rfl (htO rfl hg))⟩,
        ⟨⟨[⟨0, _, none⟩, ⟨62, _, some 9⟩], _, rfl, ⟨rfl, rfl, trivial⟩, rfl, rfl, OpG.gf rfl rfl rfl rfl (fun hg => ok_move (ht rfl))⟩,
        ⟨⟨[⟨65, _, some 12⟩, ⟨62, _, some 9⟩], _, rfl, ⟨rfl, rfl, trivial⟩, rfl, rfl, OpG.gf rfl rfl rfl rfl (fun hg => ok_nilB (htO rfl hg))⟩,
        ⟨⟨[⟨66, _, some 13⟩, ⟨62, _, some 9⟩], _, rfl, ⟨rfl, rfl, trivial⟩, rfl, rfl, OpG.gf rfl rfl rfl rfl (fun hg => ok_fieldAddrC (n := 2) fd58_2 rfl (htO rfl hg) rfl)⟩,
        ⟨⟨[⟨67, _, some 14⟩, ⟨62, _, some 9⟩], _, rfl, ⟨rfl, rfl, trivial⟩, rfl, rfl, OpG.gf rfl rfl rfl rfl (fun hg => ok_loadT ti25 rfl (.head _) (.tail _ (.tail _ (.head _))) (htO rfl hg))⟩,
        ⟨⟨[⟨6, _, none⟩, ⟨62, _, some 9⟩], _, rfl, ⟨rfl, rfl, trivial⟩, rfl, rfl, OpG.gf rfl rfl rfl rfl (fun hg => ok_fieldAddr fd33_2 rfl flDLNode_2 rfl (ht rfl))⟩,
        ⟨⟨[⟨69, _, some 16⟩, ⟨62, _, some 9⟩], _, rfl, ⟨rfl, rfl, trivial⟩, rfl, rfl, OpG.gf rfl rfl rfl rfl (fun hg => ok_load ti3 rfl rfl (htO rfl hg))⟩,
        ⟨⟨[⟨68, _, some 15⟩, ⟨70, _, some 17⟩, ⟨62, _, some 9⟩], _, rfl, ⟨rfl, rfl, rfl, trivial⟩, rfl, rfl, OpG.gf rfl rfl rfl rfl (fun hg => ok_indexAddr Try.underlying25 ti3 rfl (tO_d (htO rfl hg)) (htO rfl hg) (q_e2g hg))⟩,
        ⟨⟨[⟨71, _, some 18⟩, ⟨62, _, some 9⟩], _, rfl, ⟨rfl, rfl, trivial⟩, rfl, rfl, OpG.gf rfl rfl rfl rfl (fun hg => ok_load ti3 rfl rfl (htO rfl hg))⟩,
        ⟨⟨[⟨72, _, some 19⟩, ⟨62, _, some 9⟩], _, rfl, ⟨rfl, rfl, trivial⟩, rfl, rfl, OpG.gf rfl rfl rfl rfl (fun hg => ok_sub (htO rfl hg) hI)⟩,
        ⟨⟨[⟨64, _, some 11⟩, ⟨73, _, some 20⟩, ⟨62, _, some 9⟩], _, rfl, ⟨rfl, rfl, rfl, trivial⟩, rfl, rfl, OpG.gf rfl rfl rfl rfl (fun hg => ok_neqI (htO rfl hg) (htO rfl hg))⟩,
        ⟨⟨[⟨62, _, some 9⟩, ⟨74, _, some 21⟩], _, rfl, ⟨rfl, rfl, trivial⟩, rfl, rfl, OpG.plain rfl (ok_pickOrM (ht rfl) (fun hb => (htO rfl (noti hb))) (fun hb => (h1t hb).2) h0t)⟩,
        ⟨⟨[⟨75, _, some 22⟩], _, rfl, ⟨rfl, trivial⟩, rfl, rfl, OpG.plain rfl (ok_move (ht rfl))⟩,
        ⟨⟨[⟨6, _, none⟩, ⟨76, _, some 23⟩], _, rfl, ⟨rfl, rfl, trivial⟩, rfl, rfl, OpG.gf rfl rfl rfl rfl (fun hg => ok_fieldAddr fd33_1 rfl flDLNode_1 rfl (ht rfl))⟩,
        ⟨⟨[⟨77, _, some 24⟩, ⟨76, _, some 23⟩], _, rfl, ⟨rfl, rfl, trivial⟩, rfl, rfl, OpG.gf rfl rfl rfl rfl (fun hg => ok_load ti3 rfl rfl (htO rfl hg))⟩,
        ⟨⟨[⟨78, _, some 25⟩, ⟨76, _, some 23⟩], _, rfl, ⟨rfl, rfl, trivial⟩, rfl, rfl, OpG.gf rfl rfl rfl rfl (fun hg => ok_lss (htO rfl hg) hI)⟩,
        ⟨⟨[⟨76, _, some 23⟩, ⟨79, _, some 26⟩], _, rfl, ⟨rfl, rfl, trivial⟩, rfl, rfl, OpG.plain rfl (ok_pickOr (ht rfl) (fun hb => (htO rfl (noti hb))))⟩,
        trivial⟩⟩⟩⟩⟩⟩⟩⟩⟩⟩⟩⟩⟩⟩⟩⟩⟩⟩⟩⟩⟩⟩⟩⟩⟩⟩⟩⟩ ?_
      refine AT.next ?_
      refine CG.cond (ht rfl) (fun hc => ?_) (fun hc => ?_)
      · have h := ct h hc
        refine CG.seq ?_
        refine CG.region ?_
        refine RG.op (ok_assign hI) rfl ?_
        refine RG.op (ok_assign hB) rfl ?_
        refine RG.nil ?_
        refine AT.next ?_
        refine CG.ret ?_
        refine AT.then_ret ?_
        refine AT.front2 ?_
        refine AT.front2 ?_
        refine AT.front2 ?_
        cases so h
        exact AT.retML (ts := [tD (rI .i64) (0 : Int), tD rB false]) (rvs := [.tmp 4, .tmp 5]) rfl rfl ⟨res_tmp rfl, res_tmp rfl, trivial⟩ zoi rfl rfl
      · have h := cf h hc
        refine CG.skip ?_
        refine AT.next ?_
        refine CG.seq ?_
        obtain ⟨e3, q_e3, h⟩ := bs h
        refine CG.draw (ts := [tV (bptr b 0), tV (bptr b 0), tV (bptr b 2), tO (rI .i64) (ix.h 1).1 (ix.h 1).2 c.first, tPtr (rI .i64) e.A, tD (rI .i64) e.A, tPtr (rI .i64) e3, tD (rI .i64) e3, tD (rI .i64) e3, tD rB true]) mixed rfl rfl
          ⟨⟨[⟨0, _, none⟩], _, rfl, ⟨rfl, trivial⟩, rfl, rfl, OpG.plain rfl (ok_move (ht rfl))⟩,
          ⟨⟨[⟨81, _, some 0⟩], _, rfl, ⟨rfl, trivial⟩, rfl, rfl, OpG.plain rfl (ok_nilB (ht rfl))⟩,
          ⟨⟨[⟨82, _, some 1⟩], _, rfl, ⟨rfl, trivial⟩, rfl, rfl, OpG.plain rfl (ok_fieldAddrC (n := 2) fd58_2 rfl (ht rfl) rfl)⟩,
          ⟨⟨[⟨83, _, some 2⟩], _, rfl, ⟨rfl, trivial⟩, rfl, rfl, OpG.plain rfl (ok_loadT ti25 rfl (.head _) (.tail _ (.tail _ (.head _))) (ht rfl))⟩,
          ⟨⟨[⟨6, _, none⟩], _, rfl, ⟨rfl, trivial⟩, rfl, rfl, OpG.plain rfl (ok_fieldAddr fd33_1 rfl flDLNode_1 rfl (ht rfl))⟩,
          ⟨⟨[⟨85, _, some 4⟩], _, rfl, ⟨rfl, trivial⟩, rfl, rfl, OpG.plain rfl (ok_load ti3 rfl rfl (ht rfl))⟩,
          ⟨⟨[⟨84, _, some 3⟩, ⟨86, _, some 5⟩], _, rfl, ⟨rfl, rfl, trivial⟩, rfl, rfl, OpG.plain rfl (ok_indexAddr Try.underlying25 ti3 rfl (tO_d (ht rfl)) (ht rfl) q_e3)⟩,
          ⟨⟨[⟨87, _, some 6⟩], _, rfl, ⟨rfl, trivial⟩, rfl, rfl, OpG.plain rfl (ok_load ti3 rfl rfl (ht rfl))⟩,
          ⟨⟨[⟨88, _, some 7⟩], _, rfl, ⟨rfl, trivial⟩, rfl, rfl, OpG.plain rfl (ok_assign (ht rfl))⟩,
          ⟨⟨[], _, rfl, trivial, rfl, rfl, OpG.plain rfl (ok_assign hB)⟩,
          trivial⟩⟩⟩⟩⟩⟩⟩⟩⟩⟩ ?_
        refine AT.next ?_
        refine CG.ret ?_
        refine AT.front2 ?_
        refine AT.front2 ?_
        refine AT.front2 ?_
        cases so h
        exact AT.retML (ts := [tD (rI .i64) e3, tD rB true]) (rvs := [.tmp 4, .tmp 5]) rfl rfl ⟨res_tmp rfl, res_tmp rfl, trivial⟩ zoi rfl rfl

set_option maxRecDepth 100000 in
theorem f39_itx (b : Nat) (ix : OI) (c : Dchecker) : ItSpecX Try.prog 39 (fun (x : Int × Bool) => [tD (rI .i64) x.1, tD rB x.2]) (fun _ => logic_checker_all_1 c) (ob58 b) (ob58 b c ix) [tPtr (rT (tV (bptr b 0))) ()] := by
  refine ItSpecX.of Try.func39 rfl rfl rfl fun Sg yld s R h I yv hy e he w0 S0 B hB => ?_
  replace h : logic_checker_all_1 c yld s = some R := h
  refine (show CG _ _ _ [e, bx (rH rpDchecker [(1, oslV (ix.h 0).1 (ix.h 0).2 c.kinds.length), (2, oslV (ix.h 1).1 (ix.h 1).2 c.first.length)]) 58 b c, tip (rSl (rI .i64)) 25 (ix.h 0).1 (ix.h 0).2 c.kinds, tip (rI .i64) 3 (ix.h 1).1 (ix.h 1).2 c.first] _ from ?_)
  refine CG.seq ?_
  refine CG.region ?_
  refine RG.makeMap (mvY (fun y : (Dchecker → DLNode → Option (((List Int) × Bool) × Dchecker)) => tMeth Try.prog (fun (x : DLNode) => [tD rpDLNode x]) (ob58 b) (fun (x : (List Int) × Bool) => tT [tD (rSl (rI .i64)) x.1, tD rB x.2]) y)) (kvI .i64) rfl (fun b1 => ?_)
  refine RG.op (ok_loadR ti52 (ht rfl)) rfl ?_
  refine RG.op ((show OpOK _ _ _ _ (tMeth Try.prog (fun (x : DLNode) => [tD rpDLNode x]) (ob58 b) (fun (x : (List Int) × Bool) => tT [tD (rSl (rI .i64)) x.1, tD rB x.2]) (fun (mc : Dchecker) (mx : DLNode) => (logic_checker_scan mc mx).map fun mr => (mr, mc))) from ok_makeM cb40 (ht rfl) (fun c x R h i => by
      obtain ⟨r, h1, rfl⟩ := Option.map_eq_some_iff.1 h
      exact SpecM.fix (Ob := fun j => ob58 b c j) (i := i) (f40_o _ i c _ h1)))) rfl ?_
  refine RG.insY (γ := (fun y : (Dchecker → DLNode → Option (((List Int) × Bool) × Dchecker)) => tMeth Try.prog (fun (x : DLNode) => [tD rpDLNode x]) (ob58 b) (fun (x : (List Int) × Bool) => tT [tD (rSl (rI .i64)) x.1, tD rB x.2]) y)) (y := (fun (mc : Dchecker) (mx : DLNode) => (logic_checker_scan mc mx).map fun mr => (mr, mc))) Try.underlying87 (key_int Try.underlying3) (ht rfl) (keyI hI) (ht rfl) (fun os => ?_)
  refine RG.op (ok_loadR ti52 (ht rfl)) rfl ?_
  refine RG.op ((show OpOK _ _ _ _ (tMeth Try.prog (fun (x : DLNode) => [tD rpDLNode x]) (ob58 b) (fun (x : (List Int) × Bool) => tT [tD (rSl (rI .i64)) x.1, tD rB x.2]) (fun (mc : Dchecker) (mx : DLNode) => (logic_checker_join mc mx).map fun mr => (mr, mc))) from ok_makeM cb41 (ht rfl) (fun c x R h i => by
      obtain ⟨r, h1, rfl⟩ := Option.map_eq_some_iff.1 h
      exact SpecM.fix (Ob := fun j => ob58 b c j) (i := i) (f41_o _ i c _ h1)))) rfl ?_
  refine RG.insY (γ := (fun y : (Dchecker → DLNode → Option (((List Int) × Bool) × Dchecker)) => tMeth Try.prog (fun (x : DLNode) => [tD rpDLNode x]) (ob58 b) (fun (x : (List Int) × Bool) => tT [tD (rSl (rI .i64)) x.1, tD rB x.2]) y)) (y := (fun (mc : Dchecker) (mx : DLNode) => (logic_checker_join mc mx).map fun mr => (mr, mc))) Try.underlying87 (key_int Try.underlying3) (ht rfl) (keyI hI) (ht rfl) (fun os1 => ?_)
  refine RG.op (ok_loadR ti52 (ht rfl)) rfl ?_
  refine RG.op ((show OpOK _ _ _ _ (tMeth Try.prog (fun (x : DLNode) => [tD rpDLNode x]) (ob58 b) (fun (x : (List Int) × Bool) => tT [tD (rSl (rI .i64)) x.1, tD rB x.2]) (fun (mc : Dchecker) (mx : DLNode) => (logic_checker_filter mc mx).map fun mr => (mr, mc))) from ok_makeM cb42 (ht rfl) (fun c x R h i => by
      obtain ⟨r, h1, rfl⟩ := Option.map_eq_some_iff.1 h
      exact SpecM.fix (Ob := fun j => ob58 b c j) (i := i) (f42_o _ i c _ h1)))) rfl ?_
  refine RG.insY (γ := (fun y : (Dchecker → DLNode → Option (((List Int) × Bool) × Dchecker)) => tMeth Try.prog (fun (x : DLNode) => [tD rpDLNode x]) (ob58 b) (fun (x : (List Int) × Bool) => tT [tD (rSl (rI .i64)) x.1, tD rB x.2]) y)) (y := (fun (mc : Dchecker) (mx : DLNode) => (logic_checker_filter mc mx).map fun mr => (mr, mc))) Try.underlying87 (key_int Try.underlying3) (ht rfl) (keyI hI) (ht rfl) (fun os2 => ?_)
  refine RG.op (ok_loadR ti52 (ht rfl)) rfl ?_
  refine RG.op ((show OpOK _ _ _ _ (tMeth Try.prog (fun (x : DLNode) => [tD rpDLNode x]) (ob58 b) (fun (x : (List Int) × Bool) => tT [tD (rSl (rI .i64)) x.1, tD rB x.2]) (fun (mc : Dchecker) (mx : DLNode) => (logic_checker_group mc mx).map fun mr => (mr, mc))) from ok_makeM cb43 (ht rfl) (fun c x R h i => by
      obtain ⟨r, h1, rfl⟩ := Option.map_eq_some_iff.1 h
      exact SpecM.fix (Ob := fun j => ob58 b c j) (i := i) (f43_o _ i c _ h1)))) rfl ?_
  refine RG.insY (γ := (fun y : (Dchecker → DLNode → Option (((List Int) × Bool) × Dchecker)) => tMeth Try.prog (fun (x : DLNode) => [tD rpDLNode x]) (ob58 b) (fun (x : (List Int) × Bool) => tT [tD (rSl (rI .i64)) x.1, tD rB x.2]) y)) (y := (fun (mc : Dchecker) (mx : DLNode) => (logic_checker_group mc mx).map fun mr => (mr, mc))) Try.underlying87 (key_int Try.underlying3) (ht rfl) (keyI hI) (ht rfl) (fun os3 => ?_)
  refine RG.op (ok_loadR ti52 (ht rfl)) rfl ?_
  refine RG.op ((show OpOK _ _ _ _ (tMeth Try.prog (fun (x : DLNode) => [tD rpDLNode x]) (ob58 b) (fun (x : (List Int) × Bool) => tT [tD (rSl (rI .i64)) x.1, tD rB x.2]) (fun (mc : Dchecker) (mx : DLNode) => (logic_checker_project mc mx).map fun mr => (mr, mc))) from ok_makeM cb44 (ht rfl) (fun c x R h i => by
      obtain ⟨r, h1, rfl⟩ := Option.map_eq_some_iff.1 h
      exact SpecM.fix (Ob := fun j => ob58 b c j) (i := i) (f44_o _ i c _ h1)))) rfl ?_
  refine RG.insY (γ := (fun y : (Dchecker → DLNode → Option (((List Int) × Bool) × Dchecker)) => tMeth Try.prog (fun (x : DLNode) => [tD rpDLNode x]) (ob58 b) (fun (x : (List Int) × Bool) => tT [tD (rSl (rI .i64)) x.1, tD rB x.2]) y)) (y := (fun (mc : Dchecker) (mx : DLNode) => (logic_checker_project mc mx).map fun mr => (mr, mc))) Try.underlying87 (key_int Try.underlying3) (ht rfl) (keyI hI) (ht rfl) (fun os4 => ?_)
  refine RG.op (ok_loadR ti52 (ht rfl)) rfl ?_
  refine RG.op ((show OpOK _ _ _ _ (tMeth Try.prog (fun (x : DLNode) => [tD rpDLNode x]) (ob58 b) (fun (x : (List Int) × Bool) => tT [tD (rSl (rI .i64)) x.1, tD rB x.2]) (fun (mc : Dchecker) (mx : DLNode) => (logic_checker_distinct mc mx).map fun mr => (mr, mc))) from ok_makeM cb45 (ht rfl) (fun c x R h i => by
      obtain ⟨r, h1, rfl⟩ := Option.map_eq_some_iff.1 h
      exact SpecM.fix (Ob := fun j => ob58 b c j) (i := i) (f45_o _ i c _ h1)))) rfl ?_
  refine RG.insY (γ := (fun y : (Dchecker → DLNode → Option (((List Int) × Bool) × Dchecker)) => tMeth Try.prog (fun (x : DLNode) => [tD rpDLNode x]) (ob58 b) (fun (x : (List Int) × Bool) => tT [tD (rSl (rI .i64)) x.1, tD rB x.2]) y)) (y := (fun (mc : Dchecker) (mx : DLNode) => (logic_checker_distinct mc mx).map fun mr => (mr, mc))) Try.underlying87 (key_int Try.underlying3) (ht rfl) (keyI hI) (ht rfl) (fun os5 => ?_)
  refine RG.op (ok_loadR ti52 (ht rfl)) rfl ?_
  refine RG.op ((show OpOK _ _ _ _ (tMeth Try.prog (fun (x : DLNode) => [tD rpDLNode x]) (ob58 b) (fun (x : (List Int) × Bool) => tT [tD (rSl (rI .i64)) x.1, tD rB x.2]) (fun (mc : Dchecker) (mx : DLNode) => (logic_checker_union mc mx).map fun mr => (mr, mc))) from ok_makeM cb46 (ht rfl) (fun c x R h i => by
      obtain ⟨r, h1, rfl⟩ := Option.map_eq_some_iff.1 h
      exact SpecM.fix (Ob := fun j => ob58 b c j) (i := i) (f46_o _ i c _ h1)))) rfl ?_
  refine RG.insY (γ := (fun y : (Dchecker → DLNode → Option (((List Int) × Bool) × Dchecker)) => tMeth Try.prog (fun (x : DLNode) => [tD rpDLNode x]) (ob58 b) (fun (x : (List Int) × Bool) => tT [tD (rSl (rI .i64)) x.1, tD rB x.2]) y)) (y := (fun (mc : Dchecker) (mx : DLNode) => (logic_checker_union mc mx).map fun mr => (mr, mc))) Try.underlying87 (key_int Try.underlying3) (ht rfl) (keyI hI) (ht rfl) (fun os6 => ?_)
  refine RG.op (ok_loadR ti52 (ht rfl)) rfl ?_
  refine RG.op ((show OpOK _ _ _ _ (tMeth Try.prog (fun (x : DLNode) => [tD rpDLNode x]) (ob58 b) (fun (x : (List Int) × Bool) => tT [tD (rSl (rI .i64)) x.1, tD rB x.2]) (fun (mc : Dchecker) (mx : DLNode) => (logic_checker_order mc mx).map fun mr => (mr, mc))) from ok_makeM cb47 (ht rfl) (fun c x R h i => by
      obtain ⟨r, h1, rfl⟩ := Option.map_eq_some_iff.1 h
      exact SpecM.fix (Ob := fun j => ob58 b c j) (i := i) (f47_o _ i c _ h1)))) rfl ?_
  refine RG.insY (γ := (fun y : (Dchecker → DLNode → Option (((List Int) × Bool) × Dchecker)) => tMeth Try.prog (fun (x : DLNode) => [tD rpDLNode x]) (ob58 b) (fun (x : (List Int) × Bool) => tT [tD (rSl (rI .i64)) x.1, tD rB x.2]) y)) (y := (fun (mc : Dchecker) (mx : DLNode) => (logic_checker_order mc mx).map fun mr => (mr, mc))) Try.underlying87 (key_int Try.underlying3) (ht rfl) (keyI hI) (ht rfl) (fun os7 => ?_)
  refine RG.op (ok_move (ht rfl)) rfl ?_
  refine RG.op (ok_assign (ht rfl)) rfl ?_
  refine RG.nil ?_
  refine AT.next ?_
  refine CG.seq ?_
  refine CG.region ?_
  refine RG.op (ok_loadR ti52 (ht rfl)) rfl ?_
  refine RG.op (ok_nilB (ht rfl)) rfl ?_
  refine RG.op (ok_fieldAddrC (n := 0) fd58_0 rfl (ht rfl) rfl) rfl ?_
  refine RG.op (ok_fieldAddrC (n := 0) fd24_0 rfl (ht rfl) rfl) rfl ?_
  refine RG.op (ok_loadB (r := rH rpDchecker [(1, oslV (ix.h 0).1 (ix.h 0).2 c.kinds.length), (2, oslV (ix.h 1).1 (ix.h 1).2 c.first.length)]) (x := c) ti22 rfl rfl (fldH (fld_comp flDchecker_0 flDLogic_0)) (.tail _ (.tail _ (.head _))) (ht rfl)) rfl ?_
  refine RG.op (ok_lenSl Try.underlying22 (ht rfl)) rfl ?_
  refine RG.op (ok_move hI) rfl ?_
  refine RG.nil ?_
  refine AT.next ?_
  refine CG.block ?_
  refine CG.have_len (k := 33) rfl (fun hN => ?_)
  refine CG.loop ?_
  refine LG.front4 ?_
  refine LG.front4 ?_
  refine LG.front4 ?_
  refine LG.front3 ?_
  refine LG.front4 ?_
  refine LG.sub (LG.list8 (Z := fun ls i e1 s1 ob l c1 l1 c2 => (c.Logic.Nodes.drop i = ls) ∧ I s1 e1 ∧ logic_checker_all_1_l1 yld ls i s1 ob = some R) (Of := fun _ i e1 s1 ob l c1 l1 c2 => [e1, mapO (mvY (fun y : (Dchecker → DLNode → Option (((List Int) × Bool) × Dchecker)) => tMeth Try.prog (fun (x : DLNode) => [tD rpDLNode x]) (ob58 b) (fun (x : (List Int) × Bool) => tT [tD (rSl (rI .i64)) x.1, tD rB x.2]) y)) (kvI .i64) b1 none os7 (mset (mset (mset (mset (mset (mset (mset (mset ([] : List (Int × (Dchecker → DLNode → Option (((List Int) × Bool) × Dchecker)))) (1 : Int) (fun (mc : Dchecker) (mx : DLNode) => (logic_checker_scan mc mx).map fun mr => (mr, mc))) (2 : Int) (fun (mc : Dchecker) (mx : DLNode) => (logic_checker_join mc mx).map fun mr => (mr, mc))) (3 : Int) (fun (mc : Dchecker) (mx : DLNode) => (logic_checker_filter mc mx).map fun mr => (mr, mc))) (4 : Int) (fun (mc : Dchecker) (mx : DLNode) => (logic_checker_group mc mx).map fun mr => (mr, mc))) (5 : Int) (fun (mc : Dchecker) (mx : DLNode) => (logic_checker_project mc mx).map fun mr => (mr, mc))) (6 : Int) (fun (mc : Dchecker) (mx : DLNode) => (logic_checker_distinct mc mx).map fun mr => (mr, mc))) (7 : Int) (fun (mc : Dchecker) (mx : DLNode) => (logic_checker_union mc mx).map fun mr => (mr, mc))) (8 : Int) (fun (mc : Dchecker) (mx : DLNode) => (logic_checker_order mc mx).map fun mr => (mr, mc))), bx (rH rpDchecker [(1, oslV l c1 ob.kinds.length), (2, oslV l1 c2 ob.first.length)]) 58 b ob, tip (rSl (rI .i64)) 25 l c1 ob.kinds, tip (rI .i64) 3 l1 c2 ob.first]) (Gf := fun _ i e1 s1 ob l c1 l1 c2 => [(0, tV yv), (1, tPtr (rT (tV (bptr b 0))) ()), (3, tV (mapV b1)), (33, tD (rSl rpDLNode) c.Logic.Nodes), (34, tD (rI .i64) (c.Logic.Nodes.length : Int)), (35, tD (rI .i64) (i : Int))]) (fun i e1 s1 ob l c1 l1 c2 h => ?_) (fun e2 tl ih i e1 s1 ob l c1 l1 c2 h => ?_) c.Logic.Nodes 0 e s c (ix.h 0).1 (ix.h 0).2 (ix.h 1).1 (ix.h 1).2 ⟨rfl, ⟨he, h⟩⟩) ⟨rfl, rfl, rfl, rfl, rfl, rfl, trivial⟩
  · obtain ⟨hx, h⟩ := h
    obtain ⟨he1, h⟩ := h
    refine LG.unfold ?_
    refine CG.seq ?_
    refine CG.region ?_
    refine RG.op (ok_lss (ht rfl) (ht rfl)) rfl ?_
    refine RG.nil ?_
    refine AT.next ?_
    refine CG.seq ?_
    refine CG.condF (ht rfl) (dropF hx) ?_
    refine CG.exit ?_
    refine AT.then_exit (AT.then_exit (AT.in_exit ?_))
    refine AT.front1 ?_
    refine AT.drop ?_
    refine AT.front3 ?_
    refine AT.front3 ?_
    refine AT.front3 ?_
    refine AT.front3 ?_
    cases so h
    exact AT.normIX rfl he1 (oiL [(l, c1), (l1, c2)]) rfl
  · obtain ⟨hx, h⟩ := h
    obtain ⟨he1, h⟩ := h
    refine LG.unfold ?_
    refine CG.seq ?_
    refine CG.region ?_
    refine RG.op (ok_lss (ht rfl) (ht rfl)) rfl ?_
    refine RG.nil ?_
    refine AT.next ?_
    refine CG.seq ?_
    refine CG.condT (ht rfl) (dropT hx) ?_
    refine CG.skip ?_
    refine AT.next ?_
    refine CG.seq ?_
    refine CG.block ?_
    refine CG.seq ?_
    refine CG.region ?_
    refine RG.op (ok_move (ht rfl)) rfl ?_
    refine RG.op (ok_indexAddr Try.underlying22 ti33 rfl (ht rfl) (ht rfl) (dropI hx)) rfl ?_
    refine RG.op (ok_load ti33 rfl rfl (ht rfl)) rfl ?_
    refine RG.alloc (r := rpDLNode) (x := (⟨(0 : Int), (0 : Int), (0 : Int), (0 : Int), [], false, (⟨[]⟩ : DExpr), [], [], [], [], (0 : Int)⟩ : DLNode)) ti33 (fun _ => zrDLNode _) rfl (fun b2 => ?_)
    refine RG.op (ok_assign (ht rfl)) rfl ?_
    refine RG.storeB ti33 rfl sfld_whole rfl (ht rfl) (ht rfl) ?_
    refine RG.settleB 5 rfl ?_
    refine RG.nil ?_
    refine AT.next ?_
    refine CG.seq ?_
    refine CG.region ?_
    refine RG.op (ok_move (ht rfl)) rfl ?_
    refine RG.op (ok_fieldAddr fd33_0 rfl flDLNode_0 rfl (ht rfl)) rfl ?_
    refine RG.op (ok_load ti3 rfl rfl (ht rfl)) rfl ?_
    refine RG.op (ok_lookupY2 (γ := (fun y : (Dchecker → DLNode → Option (((List Int) × Bool) × Dchecker)) => tMeth Try.prog (fun (x : DLNode) => [tD rpDLNode x]) (ob58 b) (fun (x : (List Int) × Bool) => tT [tD (rSl (rI .i64)) x.1, tD rB x.2]) y)) (z := fun _ _ => none) Try.underlying87 (key_int Try.underlying3) zv86 (fun _ => tMeth_nil) (.tail _ (.head _)) (ht rfl) (keyI (ht rfl))) rfl ?_
    refine RG.op (ok_move (ht rfl)) rfl ?_
    refine RG.op (ok_extract rfl (ht rfl)) rfl ?_
    refine RG.op (ok_extract rfl (ht rfl)) rfl ?_
    refine RG.op (ok_assign (ht rfl)) rfl ?_
    refine RG.op (ok_assign (ht rfl)) rfl ?_
    refine RG.nil ?_
    refine AT.next ?_
    refine CG.seq ?_
    refine CG.region ?_
    refine RG.op (ok_move (ht rfl)) rfl ?_
    refine RG.op (ok_move (ht rfl)) rfl ?_
    obtain ⟨t, q_t, h⟩ := bs h
    refine RG.opGt rfl rfl rfl rfl (fun hg => ok_load ti33 rfl rfl (ht rfl)) ?_
    obtain ⟨r, h1t, h0t⟩ := og q_t
    have q_rg := fun hb => (h1t hb).1
    refine RG.opGt rfl rfl rfl rfl (fun hg => ok_call cb49 (f49_ok _ (q_rg hg)) ⟨(htO rfl hg), trivial⟩) ?_
    obtain ⟨r1, h1t⟩ := og2 (fun hb => (h1t hb).2)
    have q_r1g := fun hb => (h1t hb).1
    refine RG.opGt rfl rfl rfl rfl (fun hg => ok_call cb48 (f48_ok _ (q_r1g hg)) ⟨(htO rfl hg), trivial⟩) ?_
    refine RG.op (ok_pickAndM (ht rfl) (fun hb => (htO rfl hb)) (fun hb => (h1t hb).2) h0t) rfl ?_
    refine RG.op (ok_assign (ht rfl)) rfl ?_
    refine RG.nil ?_
    refine AT.next ?_
    refine CG.sjoin6 (Z := fun ok ob1 l2 c3 l3 c4 => logic_checker_all_1_k1 yld (logic_checker_all_1_l1 yld tl) i e2 s1 ok ob1 = some R) (Of := fun ok ob1 l2 c3 l3 c4 => [e1, mapO (mvY (fun y : (Dchecker → DLNode → Option (((List Int) × Bool) × Dchecker)) => tMeth Try.prog (fun (x : DLNode) => [tD rpDLNode x]) (ob58 b) (fun (x : (List Int) × Bool) => tT [tD (rSl (rI .i64)) x.1, tD rB x.2]) y)) (kvI .i64) b1 none os7 (mset (mset (mset (mset (mset (mset (mset (mset ([] : List (Int × (Dchecker → DLNode → Option (((List Int) × Bool) × Dchecker)))) (1 : Int) (fun (mc : Dchecker) (mx : DLNode) => (logic_checker_scan mc mx).map fun mr => (mr, mc))) (2 : Int) (fun (mc : Dchecker) (mx : DLNode) => (logic_checker_join mc mx).map fun mr => (mr, mc))) (3 : Int) (fun (mc : Dchecker) (mx : DLNode) => (logic_checker_filter mc mx).map fun mr => (mr, mc))) (4 : Int) (fun (mc : Dchecker) (mx : DLNode) => (logic_checker_group mc mx).map fun mr => (mr, mc))) (5 : Int) (fun (mc : Dchecker) (mx : DLNode) => (logic_checker_project mc mx).map fun mr => (mr, mc))) (6 : Int) (fun (mc : Dchecker) (mx : DLNode) => (logic_checker_distinct mc mx).map fun mr => (mr, mc))) (7 : Int) (fun (mc : Dchecker) (mx : DLNode) => (logic_checker_union mc mx).map fun mr => (mr, mc))) (8 : Int) (fun (mc : Dchecker) (mx : DLNode) => (logic_checker_order mc mx).map fun mr => (mr, mc))), bx (rH rpDchecker [(1, oslV l2 c3 ob1.kinds.length), (2, oslV l3 c4 ob1.first.length)]) 58 b ob1, tip (rSl (rI .i64)) 25 l2 c3 ob1.kinds, tip (rI .i64) 3 l3 c4 ob1.first]) (Gf := fun ok ob1 l2 c3 l3 c4 => [(0, tV yv), (1, tPtr (rT (tV (bptr b 0))) ()), (3, tV (mapV b1)), (4, tD (rI .i64) (i : Int)), (5, tPtr rpDLNode e2), (6, tMeth Try.prog (fun (x : DLNode) => [tD rpDLNode x]) (ob58 b) (fun (x : (List Int) × Bool) => tT [tD (rSl (rI .i64)) x.1, tD rB x.2]) ((mget (mset (mset (mset (mset (mset (mset (mset (mset ([] : List (Int × (Dchecker → DLNode → Option (((List Int) × Bool) × Dchecker)))) (1 : Int) (fun (mc : Dchecker) (mx : DLNode) => (logic_checker_scan mc mx).map fun mr => (mr, mc))) (2 : Int) (fun (mc : Dchecker) (mx : DLNode) => (logic_checker_join mc mx).map fun mr => (mr, mc))) (3 : Int) (fun (mc : Dchecker) (mx : DLNode) => (logic_checker_filter mc mx).map fun mr => (mr, mc))) (4 : Int) (fun (mc : Dchecker) (mx : DLNode) => (logic_checker_group mc mx).map fun mr => (mr, mc))) (5 : Int) (fun (mc : Dchecker) (mx : DLNode) => (logic_checker_project mc mx).map fun mr => (mr, mc))) (6 : Int) (fun (mc : Dchecker) (mx : DLNode) => (logic_checker_distinct mc mx).map fun mr => (mr, mc))) (7 : Int) (fun (mc : Dchecker) (mx : DLNode) => (logic_checker_union mc mx).map fun mr => (mr, mc))) (8 : Int) (fun (mc : Dchecker) (mx : DLNode) => (logic_checker_order mc mx).map fun mr => (mr, mc))) e2.Op).getD (fun _ _ => none))), (8, tD rB ok), (33, tD (rSl rpDLNode) c.Logic.Nodes), (34, tD (rI .i64) (c.Logic.Nodes.length : Int)), (35, tD (rI .i64) (i : Int))]) (fun ok ob1 l2 c3 l3 c4 h => ?_) (fun K => ?_)
    · skip
      refine CG.seq ?_
      refine CG.region ?_
      refine RG.op (ok_assign (show HasTy _ _ _ (tD (rSl (rI .i64)) ([])) from hNil)) rfl ?_
      refine RG.nil ?_
      refine AT.next ?_
      refine CG.sjoin7 (Z := fun ok1 kinds ob2 l4 c5 l5 c6 => logic_checker_all_1_k2 yld (logic_checker_all_1_l1 yld tl) i s1 ok1 kinds ob2 = some R) (Of := fun ok1 kinds ob2 l4 c5 l5 c6 => [e1, mapO (mvY (fun y : (Dchecker → DLNode → Option (((List Int) × Bool) × Dchecker)) => tMeth Try.prog (fun (x : DLNode) => [tD rpDLNode x]) (ob58 b) (fun (x : (List Int) × Bool) => tT [tD (rSl (rI .i64)) x.1, tD rB x.2]) y)) (kvI .i64) b1 none os7 (mset (mset (mset (mset (mset (mset (mset (mset ([] : List (Int × (Dchecker → DLNode → Option (((List Int) × Bool) × Dchecker)))) (1 : Int) (fun (mc : Dchecker) (mx : DLNode) => (logic_checker_scan mc mx).map fun mr => (mr, mc))) (2 : Int) (fun (mc : Dchecker) (mx : DLNode) => (logic_checker_join mc mx).map fun mr => (mr, mc))) (3 : Int) (fun (mc : Dchecker) (mx : DLNode) => (logic_checker_filter mc mx).map fun mr => (mr, mc))) (4 : Int) (fun (mc : Dchecker) (mx : DLNode) => (logic_checker_group mc mx).map fun mr => (mr, mc))) (5 : Int) (fun (mc : Dchecker) (mx : DLNode) => (logic_checker_project mc mx).map fun mr => (mr, mc))) (6 : Int) (fun (mc : Dchecker) (mx : DLNode) => (logic_checker_distinct mc mx).map fun mr => (mr, mc))) (7 : Int) (fun (mc : Dchecker) (mx : DLNode) => (logic_checker_union mc mx).map fun mr => (mr, mc))) (8 : Int) (fun (mc : Dchecker) (mx : DLNode) => (logic_checker_order mc mx).map fun mr => (mr, mc))), bx (rH rpDchecker [(1, oslV l4 c5 ob2.kinds.length), (2, oslV l5 c6 ob2.first.length)]) 58 b ob2, tip (rSl (rI .i64)) 25 l4 c5 ob2.kinds, tip (rI .i64) 3 l5 c6 ob2.first]) (Gf := fun ok1 kinds ob2 l4 c5 l5 c6 => [(0, tV yv), (1, tPtr (rT (tV (bptr b 0))) ()), (3, tV (mapV b1)), (4, tD (rI .i64) (i : Int)), (8, tD rB ok1), (10, tD (rSl (rI .i64)) kinds), (33, tD (rSl rpDLNode) c.Logic.Nodes), (34, tD (rI .i64) (c.Logic.Nodes.length : Int)), (35, tD (rI .i64) (i : Int))]) (fun ok1 kinds ob2 l4 c5 l5 c6 h => ?_) (fun K1 => ?_)
      · skip
        refine CG.seq ?_
        refine CG.region ?_
        refine RG.op (ok_move (ht rfl)) rfl ?_
        refine RG.op (ok_move (ht rfl)) rfl ?_
        refine RG.opGt rfl rfl rfl rfl (fun hg => ok_move (ht rfl)) ?_
        refine RG.opGt rfl rfl rfl rfl (fun hg => ok_lenSl Try.underlying25 (htO rfl hg)) ?_
        refine RG.opGt rfl rfl rfl rfl (fun hg => ok_leq (htO rfl hg) hI) ?_
        refine RG.op (ok_pickAnd (ht rfl) (fun hb => (htO rfl hb))) rfl ?_
        refine RG.op (ok_assign (ht rfl)) rfl ?_
        refine RG.nil ?_
        refine AT.next ?_
        refine CG.seq ?_
        obtain ⟨l6, q_l6, h⟩ := bs h
        refine CG.drawS 8 [tc (tV (bptr b 0)), tc (tV (bptr b 0)), tc (tV (bptr b 0)), tc (tV (bptr b 1)), tc (tO (rSl (rI .i64)) l4 c5 ob2.kinds), tc (tD (rSl (rI .i64)) kinds), tc (tD (rSl (rSl (rI .i64))) ([kinds])), ([7], fun s => tO (rSl (rI .i64)) ((s.getD 0 zoi).h 0).1 ((s.getD 0 zoi).h 0).2 l6)] [false, false, false, false, false, false, false, true] [fun _ => [e1, mapO (mvY (fun y : (Dchecker → DLNode → Option (((List Int) × Bool) × Dchecker)) => tMeth Try.prog (fun (x : DLNode) => [tD rpDLNode x]) (ob58 b) (fun (x : (List Int) × Bool) => tT [tD (rSl (rI .i64)) x.1, tD rB x.2]) y)) (kvI .i64) b1 none os7 (mset (mset (mset (mset (mset (mset (mset (mset ([] : List (Int × (Dchecker → DLNode → Option (((List Int) × Bool) × Dchecker)))) (1 : Int) (fun (mc : Dchecker) (mx : DLNode) => (logic_checker_scan mc mx).map fun mr => (mr, mc))) (2 : Int) (fun (mc : Dchecker) (mx : DLNode) => (logic_checker_join mc mx).map fun mr => (mr, mc))) (3 : Int) (fun (mc : Dchecker) (mx : DLNode) => (logic_checker_filter mc mx).map fun mr => (mr, mc))) (4 : Int) (fun (mc : Dchecker) (mx : DLNode) => (logic_checker_group mc mx).map fun mr => (mr, mc))) (5 : Int) (fun (mc : Dchecker) (mx : DLNode) => (logic_checker_project mc mx).map fun mr => (mr, mc))) (6 : Int) (fun (mc : Dchecker) (mx : DLNode) => (logic_checker_distinct mc mx).map fun mr => (mr, mc))) (7 : Int) (fun (mc : Dchecker) (mx : DLNode) => (logic_checker_union mc mx).map fun mr => (mr, mc))) (8 : Int) (fun (mc : Dchecker) (mx : DLNode) => (logic_checker_order mc mx).map fun mr => (mr, mc))), bx (rH rpDchecker [(1, oslV l4 c5 ob2.kinds.length), (2, oslV l5 c6 ob2.first.length)]) 58 b ob2, tip (rSl (rI .i64)) 25 l4 c5 ob2.kinds, tip (rI .i64) 3 l5 c6 ob2.first], fun sg => [tip (rSl (rI .i64)) 25 ((sg 7).h 0).1 ((sg 7).h 0).2 l6, e1, mapO (mvY (fun y : (Dchecker → DLNode → Option (((List Int) × Bool) × Dchecker)) => tMeth Try.prog (fun (x : DLNode) => [tD rpDLNode x]) (ob58 b) (fun (x : (List Int) × Bool) => tT [tD (rSl (rI .i64)) x.1, tD rB x.2]) y)) (kvI .i64) b1 none os7 (mset (mset (mset (mset (mset (mset (mset (mset ([] : List (Int × (Dchecker → DLNode → Option (((List Int) × Bool) × Dchecker)))) (1 : Int) (fun (mc : Dchecker) (mx : DLNode) => (logic_checker_scan mc mx).map fun mr => (mr, mc))) (2 : Int) (fun (mc : Dchecker) (mx : DLNode) => (logic_checker_join mc mx).map fun mr => (mr, mc))) (3 : Int) (fun (mc : Dchecker) (mx : DLNode) => (logic_checker_filter mc mx).map fun mr => (mr, mc))) (4 : Int) (fun (mc : Dchecker) (mx : DLNode) => (logic_checker_group mc mx).map fun mr => (mr, mc))) (5 : Int) (fun (mc : Dchecker) (mx : DLNode) => (logic_checker_project mc mx).map fun mr => (mr, mc))) (6 : Int) (fun (mc : Dchecker) (mx : DLNode) => (logic_checker_distinct mc mx).map fun mr => (mr, mc))) (7 : Int) (fun (mc : Dchecker) (mx : DLNode) => (logic_checker_union mc mx).map fun mr => (mr, mc))) (8 : Int) (fun (mc : Dchecker) (mx : DLNode) => (logic_checker_order mc mx).map fun mr => (mr, mc))), bx (rH rpDchecker [(1, oslV l4 c5 ob2.kinds.length), (2, oslV l5 c6 ob2.first.length)]) 58 b ob2, tip (rI .i64) 3 l5 c6 ob2.first]] rfl mixed rfl rfl rfl rfl rfl
          ⟨⟨[⟨1, fun _ => tPtr (rT (tV (bptr b 0))) (), none⟩], _, 0, 1, rfl, ⟨(fun _ => rfl), trivial⟩, rfl, rfl, rfl, rfl, rfl, fun _ sg _ _ => OpG.plain rfl (ok_loadR ti52 (ht rfl))⟩,
          ⟨⟨[⟨1, fun _ => tPtr (rT (tV (bptr b 0))) (), none⟩], _, 0, 0, rfl, ⟨(fun _ => rfl), trivial⟩, rfl, rfl, rfl, rfl, rfl, fun _ sg _ _ => OpG.plain rfl (ok_loadR ti52 (ht rfl))⟩,
          ⟨⟨[⟨84, fun _ => tV (bptr b 0), some 1⟩], _, 0, 0, rfl, ⟨(fun _ => rfl), trivial⟩, rfl, rfl, rfl, rfl, rfl, fun _ sg _ _ => OpG.plain rfl (ok_nilB (ht rfl))⟩,
          ⟨⟨[⟨85, fun _ => tV (bptr b 0), some 2⟩], _, 0, 0, rfl, ⟨(fun _ => rfl), trivial⟩, rfl, rfl, rfl, rfl, rfl, fun _ sg _ _ => OpG.plain rfl (ok_fieldAddrC (n := 1) fd58_1 rfl (ht rfl) rfl)⟩,
          ⟨⟨[⟨86, fun _ => tV (bptr b 1), some 3⟩], _, 0, 0, rfl, ⟨(fun _ => rfl), trivial⟩, rfl, rfl, rfl, rfl, rfl, win1 (fun sg => OpG.plain rfl (ok_loadT ti56 rfl (.tail _ (.tail _ (.head _))) (.tail _ (.tail _ (.tail _ (.head _)))) (ht rfl)))⟩,
          ⟨⟨[⟨10, fun _ => tD (rSl (rI .i64)) kinds, none⟩], _, 0, 0, rfl, ⟨(fun _ => rfl), trivial⟩, rfl, rfl, rfl, rfl, rfl, fun _ sg _ _ => OpG.plain rfl (ok_move (ht rfl))⟩,
          ⟨⟨[⟨88, fun _ => tD (rSl (rI .i64)) kinds, some 5⟩], _, 0, 0, rfl, ⟨(fun _ => rfl), trivial⟩, rfl, rfl, rfl, rfl, rfl, fun _ sg _ _ => OpG.plain rfl (ok_buildSlice (r := (rSl (rI .i64))) (ys := [kinds]) (xs := [.tmp 88]) Try.underlying56 ti25 rfl rfl rfl rfl rfl ⟨(ht rfl), trivial⟩)⟩,
          ⟨⟨[⟨87, fun _ => tO (rSl (rI .i64)) l4 c5 ob2.kinds, some 4⟩, ⟨89, fun _ => tD (rSl (rSl (rI .i64))) ([kinds]), some 6⟩], _, rfl, ⟨(fun _ => rfl), (fun _ => rfl), trivial⟩, rfl, rfl, rfl, fun sg => EffG.plain rfl (EffOK.fr3 (eff_appendT ti25 rfl rfl rfl rfl Try.underlying56 rfl (ht rfl) (ht rfl) q_l6))⟩,
          trivial⟩⟩⟩⟩⟩⟩⟩⟩ (fun sg => ?_)
        refine (show RG _ _ _ _ [tip (rSl (rI .i64)) 25 ((sg 7).h 0).1 ((sg 7).h 0).2 l6, e1, mapO (mvY (fun y : (Dchecker → DLNode → Option (((List Int) × Bool) × Dchecker)) => tMeth Try.prog (fun (x : DLNode) => [tD rpDLNode x]) (ob58 b) (fun (x : (List Int) × Bool) => tT [tD (rSl (rI .i64)) x.1, tD rB x.2]) y)) (kvI .i64) b1 none os7 (mset (mset (mset (mset (mset (mset (mset (mset ([] : List (Int × (Dchecker → DLNode → Option (((List Int) × Bool) × Dchecker)))) (1 : Int) (fun (mc : Dchecker) (mx : DLNode) => (logic_checker_scan mc mx).map fun mr => (mr, mc))) (2 : Int) (fun (mc : Dchecker) (mx : DLNode) => (logic_checker_join mc mx).map fun mr => (mr, mc))) (3 : Int) (fun (mc : Dchecker) (mx : DLNode) => (logic_checker_filter mc mx).map fun mr => (mr, mc))) (4 : Int) (fun (mc : Dchecker) (mx : DLNode) => (logic_checker_group mc mx).map fun mr => (mr, mc))) (5 : Int) (fun (mc : Dchecker) (mx : DLNode) => (logic_checker_project mc mx).map fun mr => (mr, mc))) (6 : Int) (fun (mc : Dchecker) (mx : DLNode) => (logic_checker_distinct mc mx).map fun mr => (mr, mc))) (7 : Int) (fun (mc : Dchecker) (mx : DLNode) => (logic_checker_union mc mx).map fun mr => (mr, mc))) (8 : Int) (fun (mc : Dchecker) (mx : DLNode) => (logic_checker_order mc mx).map fun mr => (mr, mc))), bx (rH rpDchecker [(1, oslV l4 c5 ob2.kinds.length), (2, oslV l5 c6 ob2.first.length)]) 58 b ob2, tip (rI .i64) 3 l5 c6 ob2.first] _ from ?_)
        refine RG.op (ok_nilB (ht rfl)) rfl ?_
        refine RG.op (ok_fieldAddrC (n := 1) fd58_1 rfl (ht rfl) rfl) rfl ?_
        refine RG.eff0 (EffOK.fr3 (eff_storeH (hs' := [(1, oslV ((sg 7).h 0).1 ((sg 7).h 0).2 l6.length), (2, oslV l5 c6 ob2.first.length)]) (u := oslV ((sg 7).h 0).1 ((sg 7).h 0).2 l6.length) ti56 rfl rfl sfDchecker_1 rfl ⟨.inl ⟨rfl, rfl, rfl⟩, .inr ⟨rfl, rfl⟩, trivial⟩ (ht rfl) (tO_d (ht rfl)) (tO_v (ht rfl)))) (fun i1 => ?_)
        refine (show RG _ _ _ _ [bx (rH rpDchecker [(1, oslV ((sg 7).h 0).1 ((sg 7).h 0).2 l6.length), (2, oslV l5 c6 ob2.first.length)]) 58 b ({ ob2 with kinds := l6 } : Dchecker), tip (rSl (rI .i64)) 25 ((sg 7).h 0).1 ((sg 7).h 0).2 l6, e1, mapO (mvY (fun y : (Dchecker → DLNode → Option (((List Int) × Bool) × Dchecker)) => tMeth Try.prog (fun (x : DLNode) => [tD rpDLNode x]) (ob58 b) (fun (x : (List Int) × Bool) => tT [tD (rSl (rI .i64)) x.1, tD rB x.2]) y)) (kvI .i64) b1 none os7 (mset (mset (mset (mset (mset (mset (mset (mset ([] : List (Int × (Dchecker → DLNode → Option (((List Int) × Bool) × Dchecker)))) (1 : Int) (fun (mc : Dchecker) (mx : DLNode) => (logic_checker_scan mc mx).map fun mr => (mr, mc))) (2 : Int) (fun (mc : Dchecker) (mx : DLNode) => (logic_checker_join mc mx).map fun mr => (mr, mc))) (3 : Int) (fun (mc : Dchecker) (mx : DLNode) => (logic_checker_filter mc mx).map fun mr => (mr, mc))) (4 : Int) (fun (mc : Dchecker) (mx : DLNode) => (logic_checker_group mc mx).map fun mr => (mr, mc))) (5 : Int) (fun (mc : Dchecker) (mx : DLNode) => (logic_checker_project mc mx).map fun mr => (mr, mc))) (6 : Int) (fun (mc : Dchecker) (mx : DLNode) => (logic_checker_distinct mc mx).map fun mr => (mr, mc))) (7 : Int) (fun (mc : Dchecker) (mx : DLNode) => (logic_checker_union mc mx).map fun mr => (mr, mc))) (8 : Int) (fun (mc : Dchecker) (mx : DLNode) => (logic_checker_order mc mx).map fun mr => (mr, mc))), tip (rI .i64) 3 l5 c6 ob2.first] _ from ?_)
        refine RG.nil ?_
        refine AT.next ?_
        refine CG.seq ?_
        refine CG.region ?_
        refine RG.op (ok_move (ht rfl)) rfl ?_
        refine RG.op (ok_move (ht rfl)) rfl ?_
        refine RG.op (ok_move (ht rfl)) rfl ?_
        refine RG.front2 ?_
        obtain ⟨r2, q_r2, h⟩ := bs h
        refine RG.yield hy he1 q_r2 (ht rfl) ⟨(ht rfl), (ht rfl), trivial⟩ rfl (fun e3 he2 => ?_)
        refine RG.op (ok_not (ht rfl)) rfl ?_
        refine RG.op (ok_move (ht rfl)) rfl ?_
        refine RG.opGf rfl rfl rfl rfl (fun hg => ok_move (ht rfl)) ?_
        refine RG.opGf rfl rfl rfl rfl (fun hg => ok_not (htO rfl hg)) ?_
        refine RG.op (ok_pickOr (ht rfl) (fun hb => (htO rfl (noti hb)))) rfl ?_
        refine RG.nil ?_
        refine AT.next ?_
        refine CG.cond (ht rfl) (fun hc => ?_) (fun hc => ?_)
        · have h := ct h hc
          refine CG.ret ?_
          refine AT.in_ret (AT.then_ret (AT.then_ret (AT.in_ret ?_)))
          refine AT.front3 ?_
          refine AT.drop ?_
          refine AT.front3 ?_
          refine AT.front3 ?_
          refine AT.front3 ?_
          refine AT.front3 ?_
          cases so h
          exact AT.retIX rfl he2 (oiL [(((sg 7).h 0).1, ((sg 7).h 0).2), (l5, c6)]) rfl
        · have h := cf h hc
          refine CG.skip ?_
          refine AT.in_normal ?_
          refine AT.next ?_
          refine CG.region ?_
          refine RG.op (ok_incN (dropL hx hN) (ht rfl) hI) rfl ?_
          refine RG.op (ok_move (ht rfl)) rfl ?_
          refine RG.nil ?_
          refine AT.front4 ?_
          refine AT.front3 ?_
          refine AT.front3 ?_
          refine AT.front4 ?_
          refine AT.front4 ?_
          exact AT.round (LG.sub (ih (i + 1) e3 r2.2 ({ ob2 with kinds := l6 } : Dchecker) ((sg 7).h 0).1 ((sg 7).h 0).2 l5 c6 ⟨dropS hx, ⟨he2, h⟩⟩) ⟨rfl, rfl, rfl, rfl, rfl, rfl, trivial⟩)
      · skip
        refine CG.seq ?_
        refine CG.region ?_
        refine RG.op (ok_move (ht rfl)) rfl ?_
        refine RG.nil ?_
        refine AT.next ?_
        refine CG.cond (ht rfl) (fun hc => ?_) (fun hc => ?_)
        · have h := ct h hc
          refine CG.region ?_
          refine RG.op (ok_move (ht rfl)) rfl ?_
          refine RG.op (ok_load ti33 rfl rfl (ht rfl)) rfl ?_
          obtain ⟨r3, q_r3, h⟩ := bs h
          refine RG.eff (EffOK.fr4 (EffOK.fr4 (EffOK.fr4 (eff_callMeth (args := (fun (x : DLNode) => [tD rpDLNode x])) (Ob := ob58 b) (res := (fun (x : (List Int) × Bool) => tT [tD (rSl (rI .i64)) x.1, tD rB x.2])) (f := ((mget (mset (mset (mset (mset (mset (mset (mset (mset ([] : List (Int × (Dchecker → DLNode → Option (((List Int) × Bool) × Dchecker)))) (1 : Int) (fun (mc : Dchecker) (mx : DLNode) => (logic_checker_scan mc mx).map fun mr => (mr, mc))) (2 : Int) (fun (mc : Dchecker) (mx : DLNode) => (logic_checker_join mc mx).map fun mr => (mr, mc))) (3 : Int) (fun (mc : Dchecker) (mx : DLNode) => (logic_checker_filter mc mx).map fun mr => (mr, mc))) (4 : Int) (fun (mc : Dchecker) (mx : DLNode) => (logic_checker_group mc mx).map fun mr => (mr, mc))) (5 : Int) (fun (mc : Dchecker) (mx : DLNode) => (logic_checker_project mc mx).map fun mr => (mr, mc))) (6 : Int) (fun (mc : Dchecker) (mx : DLNode) => (logic_checker_distinct mc mx).map fun mr => (mr, mc))) (7 : Int) (fun (mc : Dchecker) (mx : DLNode) => (logic_checker_union mc mx).map fun mr => (mr, mc))) (8 : Int) (fun (mc : Dchecker) (mx : DLNode) => (logic_checker_order mc mx).map fun mr => (mr, mc))) e2.Op).getD (fun _ _ => none))) (x := ob1) (y := ((e2) : DLNode)) (R := r3) (i := (oiL [(l2, c3), (l3, c4)])) (xs := [.tmp 73]) _ rfl (ht rfl) q_r3 ⟨(ht rfl), trivial⟩ (fun _ => rfl))))) rfl (fun i2 => ?_)
          refine (show RG _ _ _ _ [bx (rH rpDchecker [(1, oslV (i2.h 0).1 (i2.h 0).2 r3.2.kinds.length), (2, oslV (i2.h 1).1 (i2.h 1).2 r3.2.first.length)]) 58 b r3.2, tip (rSl (rI .i64)) 25 (i2.h 0).1 (i2.h 0).2 r3.2.kinds, tip (rI .i64) 3 (i2.h 1).1 (i2.h 1).2 r3.2.first, e1, mapO (mvY (fun y : (Dchecker → DLNode → Option (((List Int) × Bool) × Dchecker)) => tMeth Try.prog (fun (x : DLNode) => [tD rpDLNode x]) (ob58 b) (fun (x : (List Int) × Bool) => tT [tD (rSl (rI .i64)) x.1, tD rB x.2]) y)) (kvI .i64) b1 none os7 (mset (mset (mset (mset (mset (mset (mset (mset ([] : List (Int × (Dchecker → DLNode → Option (((List Int) × Bool) × Dchecker)))) (1 : Int) (fun (mc : Dchecker) (mx : DLNode) => (logic_checker_scan mc mx).map fun mr => (mr, mc))) (2 : Int) (fun (mc : Dchecker) (mx : DLNode) => (logic_checker_join mc mx).map fun mr => (mr, mc))) (3 : Int) (fun (mc : Dchecker) (mx : DLNode) => (logic_checker_filter mc mx).map fun mr => (mr, mc))) (4 : Int) (fun (mc : Dchecker) (mx : DLNode) => (logic_checker_group mc mx).map fun mr => (mr, mc))) (5 : Int) (fun (mc : Dchecker) (mx : DLNode) => (logic_checker_project mc mx).map fun mr => (mr, mc))) (6 : Int) (fun (mc : Dchecker) (mx : DLNode) => (logic_checker_distinct mc mx).map fun mr => (mr, mc))) (7 : Int) (fun (mc : Dchecker) (mx : DLNode) => (logic_checker_union mc mx).map fun mr => (mr, mc))) (8 : Int) (fun (mc : Dchecker) (mx : DLNode) => (logic_checker_order mc mx).map fun mr => (mr, mc)))] ((74, tT [tD (rSl (rI .i64)) r3.1.1, tD rB r3.1.2]) :: _) from ?_)
          refine RG.op (ok_move (ht rfl)) rfl ?_
          refine RG.op (ok_extract rfl (ht rfl)) rfl ?_
          refine RG.op (ok_extract rfl (ht rfl)) rfl ?_
          refine RG.op (ok_assign (ht rfl)) rfl ?_
          refine RG.op (ok_assign (ht rfl)) rfl ?_
          refine RG.nil ?_
          refine AT.front2 ?_
          refine AT.front2 ?_
          refine AT.front2 ?_
          refine AT.front4 ?_
          refine AT.front4 ?_
          exact AT.sub (K1 r3.1.2 r3.1.1 r3.2 (i2.h 0).1 (i2.h 0).2 (i2.h 1).1 (i2.h 1).2 h) ⟨rfl, rfl, rfl, rfl, rfl, rfl, rfl, rfl, rfl, trivial⟩
        · have h := cf h hc
          refine CG.skip ?_
          exact AT.sub (K1 ok ([]) ob1 l2 c3 l3 c4 h) ⟨rfl, rfl, rfl, rfl, rfl, rfl, rfl, rfl, rfl, trivial⟩
    · skip
      refine CG.seq ?_
      refine CG.region ?_
      refine RG.op (ok_move (ht rfl)) rfl ?_
      refine RG.nil ?_
      refine AT.next ?_
      refine CG.cond (ht rfl) (fun hc => ?_) (fun hc => ?_)
      · have h := ct h hc
        refine CG.seq ?_
        refine CG.region ?_
        refine RG.op (ok_assign hI) rfl ?_
        refine RG.nil ?_
        refine AT.next ?_
        refine CG.seq ?_
        refine CG.region ?_
        refine RG.op (ok_loadR ti52 (ht rfl)) rfl ?_
        refine RG.op (ok_move (ht rfl)) rfl ?_
        obtain ⟨r4, q_r4, h⟩ := bs h
        refine RG.eff (EffOK.fr4 (EffOK.fr4 (EffOK.fr4 (eff_callM (xs := [.tmp 55, .tmp 56]) (ts := [tV (bptr b 0), tD (rI .i64) (i : Int)]) (ob58 b ob (oiL [(l, c1), (l1, c2)])) _ rfl cb50 (f50_o b (oiL [(l, c1), (l1, c2)]) ob _ q_r4) ⟨(ht rfl), (ht rfl), trivial⟩ (fun _ => rfl))))) rfl (fun i3 => ?_)
        refine (show RG _ _ _ _ [bx (rH rpDchecker [(1, oslV l c1 ob.kinds.length), (2, oslV l1 c2 ob.first.length)]) 58 b ob, tip (rSl (rI .i64)) 25 l c1 ob.kinds, tip (rI .i64) 3 l1 c2 ob.first, e1, mapO (mvY (fun y : (Dchecker → DLNode → Option (((List Int) × Bool) × Dchecker)) => tMeth Try.prog (fun (x : DLNode) => [tD rpDLNode x]) (ob58 b) (fun (x : (List Int) × Bool) => tT [tD (rSl (rI .i64)) x.1, tD rB x.2]) y)) (kvI .i64) b1 none os7 (mset (mset (mset (mset (mset (mset (mset (mset ([] : List (Int × (Dchecker → DLNode → Option (((List Int) × Bool) × Dchecker)))) (1 : Int) (fun (mc : Dchecker) (mx : DLNode) => (logic_checker_scan mc mx).map fun mr => (mr, mc))) (2 : Int) (fun (mc : Dchecker) (mx : DLNode) => (logic_checker_join mc mx).map fun mr => (mr, mc))) (3 : Int) (fun (mc : Dchecker) (mx : DLNode) => (logic_checker_filter mc mx).map fun mr => (mr, mc))) (4 : Int) (fun (mc : Dchecker) (mx : DLNode) => (logic_checker_group mc mx).map fun mr => (mr, mc))) (5 : Int) (fun (mc : Dchecker) (mx : DLNode) => (logic_checker_project mc mx).map fun mr => (mr, mc))) (6 : Int) (fun (mc : Dchecker) (mx : DLNode) => (logic_checker_distinct mc mx).map fun mr => (mr, mc))) (7 : Int) (fun (mc : Dchecker) (mx : DLNode) => (logic_checker_union mc mx).map fun mr => (mr, mc))) (8 : Int) (fun (mc : Dchecker) (mx : DLNode) => (logic_checker_order mc mx).map fun mr => (mr, mc)))] ((57, tT [tD (rI .i64) r4.1, tD rB r4.2]) :: _) from ?_)
        refine RG.op (ok_move (ht rfl)) rfl ?_
        refine RG.op (ok_extract rfl (ht rfl)) rfl ?_
        refine RG.op (ok_extract rfl (ht rfl)) rfl ?_
        refine RG.op (ok_assign (ht rfl)) rfl ?_
        refine RG.op (ok_assign (ht rfl)) rfl ?_
        refine RG.nil ?_
        refine AT.next ?_
        obtain ⟨l7, q_l7, h⟩ := bs h
        refine CG.drawS 8 [tc (tV (bptr b 0)), tc (tV (bptr b 0)), tc (tV (bptr b 0)), tc (tV (bptr b 2)), tc (tO (rI .i64) l1 c2 ob.first), tc (tD (rI .i64) r4.1), tc (tD (rSl (rI .i64)) ([r4.1])), ([7], fun s => tO (rI .i64) ((s.getD 0 zoi).h 0).1 ((s.getD 0 zoi).h 0).2 l7)] [false, false, false, false, false, false, false, true] [fun _ => [bx (rH rpDchecker [(1, oslV l c1 ob.kinds.length), (2, oslV l1 c2 ob.first.length)]) 58 b ob, tip (rSl (rI .i64)) 25 l c1 ob.kinds, tip (rI .i64) 3 l1 c2 ob.first, e1, mapO (mvY (fun y : (Dchecker → DLNode → Option (((List Int) × Bool) × Dchecker)) => tMeth Try.prog (fun (x : DLNode) => [tD rpDLNode x]) (ob58 b) (fun (x : (List Int) × Bool) => tT [tD (rSl (rI .i64)) x.1, tD rB x.2]) y)) (kvI .i64) b1 none os7 (mset (mset (mset (mset (mset (mset (mset (mset ([] : List (Int × (Dchecker → DLNode → Option (((List Int) × Bool) × Dchecker)))) (1 : Int) (fun (mc : Dchecker) (mx : DLNode) => (logic_checker_scan mc mx).map fun mr => (mr, mc))) (2 : Int) (fun (mc : Dchecker) (mx : DLNode) => (logic_checker_join mc mx).map fun mr => (mr, mc))) (3 : Int) (fun (mc : Dchecker) (mx : DLNode) => (logic_checker_filter mc mx).map fun mr => (mr, mc))) (4 : Int) (fun (mc : Dchecker) (mx : DLNode) => (logic_checker_group mc mx).map fun mr => (mr, mc))) (5 : Int) (fun (mc : Dchecker) (mx : DLNode) => (logic_checker_project mc mx).map fun mr => (mr, mc))) (6 : Int) (fun (mc : Dchecker) (mx : DLNode) => (logic_checker_distinct mc mx).map fun mr => (mr, mc))) (7 : Int) (fun (mc : Dchecker) (mx : DLNode) => (logic_checker_union mc mx).map fun mr => (mr, mc))) (8 : Int) (fun (mc : Dchecker) (mx : DLNode) => (logic_checker_order mc mx).map fun mr => (mr, mc)))], fun sg1 => [tip (rI .i64) 3 ((sg1 7).h 0).1 ((sg1 7).h 0).2 l7, bx (rH rpDchecker [(1, oslV l c1 ob.kinds.length), (2, oslV l1 c2 ob.first.length)]) 58 b ob, tip (rSl (rI .i64)) 25 l c1 ob.kinds, e1, mapO (mvY (fun y : (Dchecker → DLNode → Option (((List Int) × Bool) × Dchecker)) => tMeth Try.prog (fun (x : DLNode) => [tD rpDLNode x]) (ob58 b) (fun (x : (List Int) × Bool) => tT [tD (rSl (rI .i64)) x.1, tD rB x.2]) y)) (kvI .i64) b1 none os7 (mset (mset (mset (mset (mset (mset (mset (mset ([] : List (Int × (Dchecker → DLNode → Option (((List Int) × Bool) × Dchecker)))) (1 : Int) (fun (mc : Dchecker) (mx : DLNode) => (logic_checker_scan mc mx).map fun mr => (mr, mc))) (2 : Int) (fun (mc : Dchecker) (mx : DLNode) => (logic_checker_join mc mx).map fun mr => (mr, mc))) (3 : Int) (fun (mc : Dchecker) (mx : DLNode) => (logic_checker_filter mc mx).map fun mr => (mr, mc))) (4 : Int) (fun (mc : Dchecker) (mx : DLNode) => (logic_checker_group mc mx).map fun mr => (mr, mc))) (5 : Int) (fun (mc : Dchecker) (mx : DLNode) => (logic_checker_project mc mx).map fun mr => (mr, mc))) (6 : Int) (fun (mc : Dchecker) (mx : DLNode) => (logic_checker_distinct mc mx).map fun mr => (mr, mc))) (7 : Int) (fun (mc : Dchecker) (mx : DLNode) => (logic_checker_union mc mx).map fun mr => (mr, mc))) (8 : Int) (fun (mc : Dchecker) (mx : DLNode) => (logic_checker_order mc mx).map fun mr => (mr, mc)))]] rfl mixed rfl rfl rfl rfl rfl
          ⟨⟨[⟨1, fun _ => tPtr (rT (tV (bptr b 0))) (), none⟩], _, 0, 1, rfl, ⟨(fun _ => rfl), trivial⟩, rfl, rfl, rfl, rfl, rfl, fun _ sg1 _ _ => OpG.plain rfl (ok_loadR ti52 (ht rfl))⟩,
          ⟨⟨[⟨1, fun _ => tPtr (rT (tV (bptr b 0))) (), none⟩], _, 0, 0, rfl, ⟨(fun _ => rfl), trivial⟩, rfl, rfl, rfl, rfl, rfl, fun _ sg1 _ _ => OpG.plain rfl (ok_loadR ti52 (ht rfl))⟩,
          ⟨⟨[⟨61, fun _ => tV (bptr b 0), some 1⟩], _, 0, 0, rfl, ⟨(fun _ => rfl), trivial⟩, rfl, rfl, rfl, rfl, rfl, fun _ sg1 _ _ => OpG.plain rfl (ok_nilB (ht rfl))⟩,
          ⟨⟨[⟨62, fun _ => tV (bptr b 0), some 2⟩], _, 0, 0, rfl, ⟨(fun _ => rfl), trivial⟩, rfl, rfl, rfl, rfl, rfl, fun _ sg1 _ _ => OpG.plain rfl (ok_fieldAddrC (n := 2) fd58_2 rfl (ht rfl) rfl)⟩,
          ⟨⟨[⟨63, fun _ => tV (bptr b 2), some 3⟩], _, 0, 0, rfl, ⟨(fun _ => rfl), trivial⟩, rfl, rfl, rfl, rfl, rfl, win1 (fun sg1 => OpG.plain rfl (ok_loadT ti25 rfl (.head _) (.tail _ (.tail _ (.head _))) (ht rfl)))⟩,
          ⟨⟨[⟨9, fun _ => tD (rI .i64) r4.1, none⟩], _, 0, 0, rfl, ⟨(fun _ => rfl), trivial⟩, rfl, rfl, rfl, rfl, rfl, fun _ sg1 _ _ => OpG.plain rfl (ok_move (ht rfl))⟩,
          ⟨⟨[⟨65, fun _ => tD (rI .i64) r4.1, some 5⟩], _, 0, 0, rfl, ⟨(fun _ => rfl), trivial⟩, rfl, rfl, rfl, rfl, rfl, fun _ sg1 _ _ => OpG.plain rfl (ok_buildSlice (r := (rI .i64)) (ys := [r4.1]) (xs := [.tmp 65]) Try.underlying25 ti3 rfl rfl rfl rfl rfl ⟨(ht rfl), trivial⟩)⟩,
          ⟨⟨[⟨64, fun _ => tO (rI .i64) l1 c2 ob.first, some 4⟩, ⟨66, fun _ => tD (rSl (rI .i64)) ([r4.1]), some 6⟩], _, rfl, ⟨(fun _ => rfl), (fun _ => rfl), trivial⟩, rfl, rfl, rfl, fun sg1 => EffG.plain rfl (EffOK.fr2 (eff_appendT ti3 rfl rfl rfl rfl Try.underlying25 rfl (ht rfl) (ht rfl) q_l7))⟩,
          trivial⟩⟩⟩⟩⟩⟩⟩⟩ (fun sg1 => ?_)
        refine (show RG _ _ _ _ [tip (rI .i64) 3 ((sg1 7).h 0).1 ((sg1 7).h 0).2 l7, bx (rH rpDchecker [(1, oslV l c1 ob.kinds.length), (2, oslV l1 c2 ob.first.length)]) 58 b ob, tip (rSl (rI .i64)) 25 l c1 ob.kinds, e1, mapO (mvY (fun y : (Dchecker → DLNode → Option (((List Int) × Bool) × Dchecker)) => tMeth Try.prog (fun (x : DLNode) => [tD rpDLNode x]) (ob58 b) (fun (x : (List Int) × Bool) => tT [tD (rSl (rI .i64)) x.1, tD rB x.2]) y)) (kvI .i64) b1 none os7 (mset (mset (mset (mset (mset (mset (mset (mset ([] : List (Int × (Dchecker → DLNode → Option (((List Int) × Bool) × Dchecker)))) (1 : Int) (fun (mc : Dchecker) (mx : DLNode) => (logic_checker_scan mc mx).map fun mr => (mr, mc))) (2 : Int) (fun (mc : Dchecker) (mx : DLNode) => (logic_checker_join mc mx).map fun mr => (mr, mc))) (3 : Int) (fun (mc : Dchecker) (mx : DLNode) => (logic_checker_filter mc mx).map fun mr => (mr, mc))) (4 : Int) (fun (mc : Dchecker) (mx : DLNode) => (logic_checker_group mc mx).map fun mr => (mr, mc))) (5 : Int) (fun (mc : Dchecker) (mx : DLNode) => (logic_checker_project mc mx).map fun mr => (mr, mc))) (6 : Int) (fun (mc : Dchecker) (mx : DLNode) => (logic_checker_distinct mc mx).map fun mr => (mr, mc))) (7 : Int) (fun (mc : Dchecker) (mx : DLNode) => (logic_checker_union mc mx).map fun mr => (mr, mc))) (8 : Int) (fun (mc : Dchecker) (mx : DLNode) => (logic_checker_order mc mx).map fun mr => (mr, mc)))] _ from ?_)
        refine RG.op (ok_nilB (ht rfl)) rfl ?_
        refine RG.op (ok_fieldAddrC (n := 2) fd58_2 rfl (ht rfl) rfl) rfl ?_
        refine RG.eff0 (EffOK.fr1 (eff_storeH (hs' := [(1, oslV l c1 ob.kinds.length), (2, oslV ((sg1 7).h 0).1 ((sg1 7).h 0).2 l7.length)]) (u := oslV ((sg1 7).h 0).1 ((sg1 7).h 0).2 l7.length) ti25 rfl rfl sfDchecker_2 rfl ⟨.inr ⟨rfl, rfl⟩, .inl ⟨rfl, rfl, rfl⟩, trivial⟩ (ht rfl) (tO_d (ht rfl)) (tO_v (ht rfl)))) (fun i4 => ?_)
        refine (show RG _ _ _ _ [bx (rH rpDchecker [(1, oslV l c1 ob.kinds.length), (2, oslV ((sg1 7).h 0).1 ((sg1 7).h 0).2 l7.length)]) 58 b ({ ob with first := l7 } : Dchecker), tip (rI .i64) 3 ((sg1 7).h 0).1 ((sg1 7).h 0).2 l7, tip (rSl (rI .i64)) 25 l c1 ob.kinds, e1, mapO (mvY (fun y : (Dchecker → DLNode → Option (((List Int) × Bool) × Dchecker)) => tMeth Try.prog (fun (x : DLNode) => [tD rpDLNode x]) (ob58 b) (fun (x : (List Int) × Bool) => tT [tD (rSl (rI .i64)) x.1, tD rB x.2]) y)) (kvI .i64) b1 none os7 (mset (mset (mset (mset (mset (mset (mset (mset ([] : List (Int × (Dchecker → DLNode → Option (((List Int) × Bool) × Dchecker)))) (1 : Int) (fun (mc : Dchecker) (mx : DLNode) => (logic_checker_scan mc mx).map fun mr => (mr, mc))) (2 : Int) (fun (mc : Dchecker) (mx : DLNode) => (logic_checker_join mc mx).map fun mr => (mr, mc))) (3 : Int) (fun (mc : Dchecker) (mx : DLNode) => (logic_checker_filter mc mx).map fun mr => (mr, mc))) (4 : Int) (fun (mc : Dchecker) (mx : DLNode) => (logic_checker_group mc mx).map fun mr => (mr, mc))) (5 : Int) (fun (mc : Dchecker) (mx : DLNode) => (logic_checker_project mc mx).map fun mr => (mr, mc))) (6 : Int) (fun (mc : Dchecker) (mx : DLNode) => (logic_checker_distinct mc mx).map fun mr => (mr, mc))) (7 : Int) (fun (mc : Dchecker) (mx : DLNode) => (logic_checker_union mc mx).map fun mr => (mr, mc))) (8 : Int) (fun (mc : Dchecker) (mx : DLNode) => (logic_checker_order mc mx).map fun mr => (mr, mc)))] _ from ?_)
        refine RG.nil ?_
        refine AT.front1 ?_
        refine AT.front2 ?_
        refine AT.front2 ?_
        refine AT.front4 ?_
        refine AT.front4 ?_
        exact AT.sub (K r4.2 ({ ob with first := l7 } : Dchecker) l c1 ((sg1 7).h 0).1 ((sg1 7).h 0).2 h) ⟨rfl, rfl, rfl, rfl, rfl, rfl, rfl, rfl, rfl, rfl, trivial⟩
      · have h := cf h hc
        refine CG.skip ?_
        exact AT.sub (K t ob l c1 l1 c2 h) ⟨rfl, rfl, rfl, rfl, rfl, rfl, rfl, rfl, rfl, rfl, trivial⟩

end Go.Proofs.Ytbhkincjkpeaoaa

