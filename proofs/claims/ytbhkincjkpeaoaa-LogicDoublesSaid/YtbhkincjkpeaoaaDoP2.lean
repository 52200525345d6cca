/- Facts of this claim: P2. -/
import Derived.Test.YtbhkincjkpeaoaaDoT
import Derived.Test.YtbhkincjkpeaoaaDoP1
namespace Go.Proofs.Ytbhkincjkpeaoaa
open Go

set_option maxRecDepth 100000 in
theorem f72_ok (e : DExpr) (kinds : (List Int)) {R : Bool} (h : logic_truth e kinds = some R) : Spec Try.prog 72 [tD rpDExpr e, tD (rSl (rI .i64)) kinds] (tD rB R) := by
  refine Spec.of Try.func72 rfl rfl rfl fun w0 S0 => ?_
  refine CG.seq ?_
  refine CG.region ?_
  refine RG.op (ok_box (ht rfl)) rfl ?_
  refine RG.op (ok_assign hB) rfl ?_
  refine RG.nil ?_
  refine AT.next ?_
  refine CG.seq ?_
  refine CG.region ?_
  refine RG.op (ok_load ti28 rfl rfl (ht rfl)) rfl ?_
  refine RG.op (ok_move (ht rfl)) rfl ?_
  obtain ⟨r, q_r, h⟩ := bs h
  refine RG.op (ok_call cb75 (f75_ok _ _ q_r) ⟨(ht rfl), (ht rfl), trivial⟩) rfl ?_
  refine RG.op (ok_move (ht rfl)) rfl ?_
  refine RG.op (ok_extract rfl (ht rfl)) rfl ?_
  refine RG.op (ok_extract rfl (ht rfl)) rfl ?_
  refine RG.op (ok_assign (ht rfl)) rfl ?_
  refine RG.op (ok_assign (ht rfl)) rfl ?_
  refine RG.nil ?_
  refine AT.next ?_
  refine CG.seq ?_
  refine CG.region ?_
  refine RG.op (ok_move (ht rfl)) rfl ?_
  refine RG.op (ok_eqlI (ht rfl) hI) rfl ?_
  refine RG.op (ok_move (ht rfl)) rfl ?_
  refine RG.opGt rfl rfl rfl rfl (fun hg => ok_move (ht rfl)) ?_
  refine RG.opGt rfl rfl rfl rfl (fun hg => ok_eqlI (htO rfl hg) hI) ?_
  refine RG.opGt rfl rfl rfl rfl (fun hg => ok_move (htO rfl hg)) ?_
  refine RG.opGof rfl rfl rfl rfl (fun hg => ok_move (ht rfl)) ?_
  refine RG.opGof rfl rfl rfl rfl (fun hg => ok_eqlI (htO rfl hg) hI) ?_
  refine RG.opGt rfl rfl rfl rfl (fun hg => ok_pickOr (htO rfl hg) (fun hb => (htO rfl (andi hg (noti hb))))) ?_
  refine RG.op (ok_pickAnd (ht rfl) (fun hb => (htO rfl hb))) rfl ?_
  refine RG.op (ok_assign (ht rfl)) rfl ?_
  refine RG.nil ?_
  refine AT.next ?_
  refine CG.ret ?_
  cases so h
  exact AT.ret1 rfl rfl

set_option maxRecDepth 100000 in
theorem f41_o (b : Nat) (ix : OI) (c : Dchecker) (n : DLNode) {R : (List Int) × Bool} (h : logic_checker_join c n = some R) : SpecM Try.prog 41 [tV (bptr b 0), tD rpDLNode n] (ob58 b c ix) (fun _ : OI => tT [tD (rSl (rI .i64)) R.1, tD rB R.2]) (fun _ => (ob58 b c ix)) := by
  refine SpecM.of Try.func41 rfl rfl rfl fun w0 S0 => ?_
  refine (show CG _ _ _ [bx (rH rpDchecker [(1, oslV (ix.h 0).1 (ix.h 0).2 c.kinds.length), (2, oslV (ix.h 1).1 (ix.h 1).2 c.first.length)]) 58 b c, tip (rSl (rI .i64)) 25 (ix.h 0).1 (ix.h 0).2 c.kinds, tip (rI .i64) 3 (ix.h 1).1 (ix.h 1).2 c.first] _ from ?_)
  refine CG.seq ?_
  refine CG.region ?_
  refine RG.op (ok_box (ht rfl)) rfl ?_
  refine RG.op (ok_assign (show HasTy _ _ _ (tD (rSl (rI .i64)) ([])) from hNil)) rfl ?_
  refine RG.op (ok_assign hB) rfl ?_
  refine RG.nil ?_
  refine AT.next ?_
  refine CG.seq ?_
  obtain ⟨e, q_e, h⟩ := bs h
  obtain ⟨e1, q_e1, h⟩ := bs h
  obtain ⟨r, q_r, h⟩ := bs h
  refine CG.draw (ts := [tV (bptr b 0), tV (bptr b 0), tV (bptr b 1), tO (rSl (rI .i64)) (ix.h 0).1 (ix.h 0).2 c.kinds, tPtr (rI .i64) n.A, tD (rI .i64) n.A, tPtr (rSl (rI .i64)) e, tD (rSl (rI .i64)) e, tV (bptr b 0), tV (bptr b 0), tV (bptr b 1), tO (rSl (rI .i64)) (ix.h 0).1 (ix.h 0).2 c.kinds, tPtr (rI .i64) n.B, tD (rI .i64) n.B, tPtr (rSl (rI .i64)) e1, tD (rSl (rI .i64)) e1, tD (rSl (rSl (rI .i64))) ([e, e1]), tD (rSl (rI .i64)) r, tD (rSl (rI .i64)) r]) mixed rfl rfl
    ⟨⟨[⟨0, _, none⟩], _, rfl, ⟨rfl, trivial⟩, rfl, rfl, OpG.plain rfl (ok_move (ht rfl))⟩,
    ⟨⟨[⟨7, _, some 0⟩], _, rfl, ⟨rfl, trivial⟩, rfl, rfl, OpG.plain rfl (ok_nilB (ht rfl))⟩,
    ⟨⟨[⟨8, _, some 1⟩], _, rfl, ⟨rfl, trivial⟩, rfl, rfl, OpG.plain rfl (ok_fieldAddrC (n := 1) fd58_1 rfl (ht rfl) rfl)⟩,
    ⟨⟨[⟨9, _, some 2⟩], _, rfl, ⟨rfl, trivial⟩, rfl, rfl, OpG.plain rfl (ok_loadT ti56 rfl (.head _) (.tail _ (.head _)) (ht rfl))⟩,
    ⟨⟨[⟨3, _, none⟩], _, rfl, ⟨rfl, trivial⟩, rfl, rfl, OpG.plain rfl (ok_fieldAddr fd33_1 rfl flDLNode_1 rfl (ht rfl))⟩,
    ⟨⟨[⟨11, _, some 4⟩], _, rfl, ⟨rfl, trivial⟩, rfl, rfl, OpG.plain rfl (ok_load ti3 rfl rfl (ht rfl))⟩,
    ⟨⟨[⟨10, _, some 3⟩, ⟨12, _, some 5⟩], _, rfl, ⟨rfl, rfl, trivial⟩, rfl, rfl, OpG.plain rfl (ok_indexAddr Try.underlying56 ti25 rfl (tO_d (ht rfl)) (ht rfl) q_e)⟩,
    ⟨⟨[⟨13, _, some 6⟩], _, rfl, ⟨rfl, trivial⟩, rfl, rfl, OpG.plain rfl (ok_load ti25 rfl rfl (ht rfl))⟩,
    ⟨⟨[⟨0, _, none⟩], _, rfl, ⟨rfl, trivial⟩, rfl, rfl, OpG.plain rfl (ok_move (ht rfl))⟩,
    ⟨⟨[⟨15, _, some 8⟩], _, rfl, ⟨rfl, trivial⟩, rfl, rfl, OpG.plain rfl (ok_nilB (ht rfl))⟩,
    ⟨⟨[⟨16, _, some 9⟩], _, rfl, ⟨rfl, trivial⟩, rfl, rfl, OpG.plain rfl (ok_fieldAddrC (n := 1) fd58_1 rfl (ht rfl) rfl)⟩,
    ⟨⟨[⟨17, _, some 10⟩], _, rfl, ⟨rfl, trivial⟩, rfl, rfl, OpG.plain rfl (ok_loadT ti56 rfl (.head _) (.tail _ (.head _)) (ht rfl))⟩,
    ⟨⟨[⟨3, _, none⟩], _, rfl, ⟨rfl, trivial⟩, rfl, rfl, OpG.plain rfl (ok_fieldAddr fd33_2 rfl flDLNode_2 rfl (ht rfl))⟩,
    ⟨⟨[⟨19, _, some 12⟩], _, rfl, ⟨rfl, trivial⟩, rfl, rfl, OpG.plain rfl (ok_load ti3 rfl rfl (ht rfl))⟩,
    ⟨⟨[⟨18, _, some 11⟩, ⟨20, _, some 13⟩], _, rfl, ⟨rfl, rfl, trivial⟩, rfl, rfl, OpG.plain rfl (ok_indexAddr Try.underlying56 ti25 rfl (tO_d (ht rfl)) (ht rfl) q_e1)⟩,
    ⟨⟨[⟨21, _, some 14⟩], _, rfl, ⟨rfl, trivial⟩, rfl, rfl, OpG.plain rfl (ok_load ti25 rfl rfl (ht rfl))⟩,
    ⟨⟨[⟨14, _, some 7⟩, ⟨22, _, some 15⟩], _, rfl, ⟨rfl, rfl, trivial⟩, rfl, rfl, OpG.plain rfl (ok_buildSlice (r := (rSl (rI .i64))) (ys := [e, e1]) (xs := [.tmp 14, .tmp 22]) Try.underlying56 ti25 rfl rfl rfl rfl rfl ⟨(ht rfl), (ht rfl), trivial⟩)⟩,
    ⟨⟨[⟨23, _, some 16⟩], _, rfl, ⟨rfl, trivial⟩, rfl, rfl, OpG.plain rfl (ok_call cb71 (f71_ok _ q_r) ⟨(ht rfl), trivial⟩)⟩,
    ⟨⟨[⟨24, _, some 17⟩], _, rfl, ⟨rfl, trivial⟩, rfl, rfl, OpG.plain rfl (ok_assign (ht rfl))⟩,
    trivial⟩⟩⟩⟩⟩⟩⟩⟩⟩⟩⟩⟩⟩⟩⟩⟩⟩⟩⟩ ?_
  refine AT.next ?_
  refine CG.seq ?_
  refine CG.region ?_
  refine RG.op (ok_move (ht rfl)) rfl ?_
  refine RG.op (ok_fieldAddr fd33_6 rfl flDLNode_6 rfl (ht rfl)) rfl ?_
  refine RG.op (ok_load ti28 rfl rfl (ht rfl)) rfl ?_
  refine RG.op (ok_move (ht rfl)) rfl ?_
  obtain ⟨r1, q_r1, h⟩ := bs h
  refine RG.op (ok_call cb72 (f72_ok _ _ q_r1) ⟨(ht rfl), (ht rfl), trivial⟩) rfl ?_
  refine RG.op (ok_assign (ht rfl)) rfl ?_
  refine RG.op (ok_assign (ht rfl)) rfl ?_
  refine RG.nil ?_
  refine AT.next ?_
  refine CG.ret ?_
  refine AT.front2 ?_
  refine AT.front2 ?_
  refine AT.front2 ?_
  cases so h
  exact AT.retML (ts := [tD (rSl (rI .i64)) r, tD rB r1]) (rvs := [.tmp 4, .tmp 5]) rfl rfl ⟨res_tmp rfl, res_tmp rfl, trivial⟩ zoi rfl rfl

set_option maxRecDepth 100000 in
theorem f42_o (b : Nat) (ix : OI) (c : Dchecker) (n : DLNode) {R : (List Int) × Bool} (h : logic_checker_filter c n = some R) : SpecM Try.prog 42 [tV (bptr b 0), tD rpDLNode n] (ob58 b c ix) (fun _ : OI => tT [tD (rSl (rI .i64)) R.1, tD rB R.2]) (fun _ => (ob58 b c ix)) := by
  refine SpecM.of Try.func42 rfl rfl rfl fun w0 S0 => ?_
  refine (show CG _ _ _ [bx (rH rpDchecker [(1, oslV (ix.h 0).1 (ix.h 0).2 c.kinds.length), (2, oslV (ix.h 1).1 (ix.h 1).2 c.first.length)]) 58 b c, tip (rSl (rI .i64)) 25 (ix.h 0).1 (ix.h 0).2 c.kinds, tip (rI .i64) 3 (ix.h 1).1 (ix.h 1).2 c.first] _ from ?_)
  refine CG.seq ?_
  refine CG.region ?_
  refine RG.op (ok_box (ht rfl)) rfl ?_
  refine RG.op (ok_assign (show HasTy _ _ _ (tD (rSl (rI .i64)) ([])) from hNil)) rfl ?_
  refine RG.op (ok_assign hB) rfl ?_
  refine RG.nil ?_
  refine AT.next ?_
  refine CG.seq ?_
  obtain ⟨e, q_e, h⟩ := bs h
  obtain ⟨r, q_r, h⟩ := bs h
  refine CG.draw (ts := [tV (bptr b 0), tV (bptr b 0), tV (bptr b 1), tO (rSl (rI .i64)) (ix.h 0).1 (ix.h 0).2 c.kinds, tPtr (rI .i64) n.A, tD (rI .i64) n.A, tPtr (rSl (rI .i64)) e, tD (rSl (rI .i64)) e, tPtr rpDExpr n.Cond, tD rpDExpr n.Cond, tV (bptr b 0), tV (bptr b 0), tV (bptr b 1), tO (rSl (rI .i64)) (ix.h 0).1 (ix.h 0).2 c.kinds, tPtr (rI .i64) n.A, tD (rI .i64) n.A, tPtr (rSl (rI .i64)) e, tD (rSl (rI .i64)) e, tD rB r, tD (rSl (rI .i64)) e, tD rB r]) mixed rfl rfl
    ⟨⟨[⟨0, _, none⟩], _, rfl, ⟨rfl, trivial⟩, rfl, rfl, OpG.plain rfl (ok_move (ht rfl))⟩,
    ⟨⟨[⟨6, _, some 0⟩], _, rfl, ⟨rfl, trivial⟩, rfl, rfl, OpG.plain rfl (ok_nilB (ht rfl))⟩,
    ⟨⟨[⟨7, _, some 1⟩], _, rfl, ⟨rfl, trivial⟩, rfl, rfl, OpG.plain rfl (ok_fieldAddrC (n := 1) fd58_1 rfl (ht rfl) rfl)⟩,
    ⟨⟨[⟨8, _, some 2⟩], _, rfl, ⟨rfl, trivial⟩, rfl, rfl, OpG.plain rfl (ok_loadT ti56 rfl (.head _) (.tail _ (.head _)) (ht rfl))⟩,
    ⟨⟨[⟨3, _, none⟩], _, rfl, ⟨rfl, trivial⟩, rfl, rfl, OpG.plain rfl (ok_fieldAddr fd33_1 rfl flDLNode_1 rfl (ht rfl))⟩,
    ⟨⟨[⟨10, _, some 4⟩], _, rfl, ⟨rfl, trivial⟩, rfl, rfl, OpG.plain rfl (ok_load ti3 rfl rfl (ht rfl))⟩,
    ⟨⟨[⟨9, _, some 3⟩, ⟨11, _, some 5⟩], _, rfl, ⟨rfl, rfl, trivial⟩, rfl, rfl, OpG.plain rfl (ok_indexAddr Try.underlying56 ti25 rfl (tO_d (ht rfl)) (ht rfl) q_e)⟩,
    ⟨⟨[⟨12, _, some 6⟩], _, rfl, ⟨rfl, trivial⟩, rfl, rfl, OpG.plain rfl (ok_load ti25 rfl rfl (ht rfl))⟩,
    ⟨⟨[⟨3, _, none⟩], _, rfl, ⟨rfl, trivial⟩, rfl, rfl, OpG.plain rfl (ok_fieldAddr fd33_6 rfl flDLNode_6 rfl (ht rfl))⟩,
    ⟨⟨[⟨14, _, some 8⟩], _, rfl, ⟨rfl, trivial⟩, rfl, rfl, OpG.plain rfl (ok_load ti28 rfl rfl (ht rfl))⟩,
    ⟨⟨[⟨0, _, none⟩], _, rfl, ⟨rfl, trivial⟩, rfl, rfl, OpG.plain rfl (ok_move (ht rfl))⟩,
    ⟨⟨[⟨16, _, some 10⟩], _, rfl, ⟨rfl, trivial⟩, rfl, rfl, OpG.plain rfl (ok_nilB (ht rfl))⟩,
    ⟨⟨[⟨17, _, some 11⟩], _, rfl, ⟨rfl, trivial⟩, rfl, rfl, OpG.plain rfl (ok_fieldAddrC (n := 1) fd58_1 rfl (ht rfl) rfl)⟩,
    ⟨⟨[⟨18, _, some 12⟩], _, rfl, ⟨rfl, trivial⟩, rfl, rfl, OpG.plain rfl (ok_loadT ti56 rfl (.head _) (.tail _ (.head _)) (ht rfl))⟩,
    ⟨⟨[⟨3, _, none⟩], _, rfl, ⟨rfl, trivial⟩, rfl, rfl, OpG.plain rfl (ok_fieldAddr fd33_1 rfl flDLNode_1 rfl (ht rfl))⟩,
    ⟨⟨[⟨20, _, some 14⟩], _, rfl, ⟨rfl, trivial⟩, rfl, rfl, OpG.plain rfl (ok_load ti3 rfl rfl (ht rfl))⟩,
    ⟨⟨[⟨19, _, some 13⟩, ⟨21, _, some 15⟩], _, rfl, ⟨rfl, rfl, trivial⟩, rfl, rfl, OpG.plain rfl (ok_indexAddr Try.underlying56 ti25 rfl (tO_d (ht rfl)) (ht rfl) q_e)⟩,
    ⟨⟨[⟨22, _, some 16⟩], _, rfl, ⟨rfl, trivial⟩, rfl, rfl, OpG.plain rfl (ok_load ti25 rfl rfl (ht rfl))⟩,
    ⟨⟨[⟨15, _, some 9⟩, ⟨23, _, some 17⟩], _, rfl, ⟨rfl, rfl, trivial⟩, rfl, rfl, OpG.plain rfl (ok_call cb72 (f72_ok _ _ q_r) ⟨(ht rfl), (ht rfl), trivial⟩)⟩,
    ⟨⟨[⟨13, _, some 7⟩], _, rfl, ⟨rfl, trivial⟩, rfl, rfl, OpG.plain rfl (ok_assign (ht rfl))⟩,
    ⟨⟨[⟨24, _, some 18⟩], _, rfl, ⟨rfl, trivial⟩, rfl, rfl, OpG.plain rfl (ok_assign (ht rfl))⟩,
    trivial⟩⟩⟩⟩⟩⟩⟩⟩⟩⟩⟩⟩⟩⟩⟩⟩⟩⟩⟩⟩⟩ ?_
  refine AT.next ?_
  refine CG.ret ?_
  refine AT.front2 ?_
  refine AT.front2 ?_
  refine AT.front2 ?_
  cases so h
  exact AT.retML (ts := [tD (rSl (rI .i64)) e, tD rB r]) (rvs := [.tmp 4, .tmp 5]) rfl rfl ⟨res_tmp rfl, res_tmp rfl, trivial⟩ zoi rfl rfl

set_option maxRecDepth 100000 in
theorem f89_ok (kinds : (List Int)) (c : Int) {R : Bool} (h : logic_places_1 kinds c = some R) : Spec Try.prog 89 [tD (rI .i64) c, tPtr (rSl (rI .i64)) kinds] (tD rB R) := by
  refine Spec.of Try.func89 rfl rfl rfl fun w0 S0 => ?_
  refine CG.seq ?_
  refine CG.region ?_
  refine RG.op (ok_assign hB) rfl ?_
  refine RG.nil ?_
  refine AT.next ?_
  refine CG.seq ?_
  refine CG.region ?_
  refine RG.op (ok_move (ht rfl)) rfl ?_
  refine RG.op (ok_lss (ht rfl) hI) rfl ?_
  refine RG.op (ok_move (ht rfl)) rfl ?_
  refine RG.opGf rfl rfl rfl rfl (fun hg => ok_move (ht rfl)) ?_
  refine RG.opGf rfl rfl rfl rfl (fun hg => ok_load ti25 rfl rfl (ht rfl)) ?_
  refine RG.opGf rfl rfl rfl rfl (fun hg => ok_lenSl Try.underlying25 (htO rfl hg)) ?_
  refine RG.opGf rfl rfl rfl rfl (fun hg => ok_geq (htO rfl hg) (htO rfl hg)) ?_
  refine RG.op (ok_pickOr (ht rfl) (fun hb => (htO rfl (noti hb)))) rfl ?_
  refine RG.op (ok_assign (ht rfl)) rfl ?_
  refine RG.nil ?_
  refine AT.next ?_
  refine CG.ret ?_
  cases so h
  exact AT.ret1 rfl rfl

set_option maxRecDepth 100000 in
theorem f73_ok (l : (List Int)) (kinds : (List Int)) {R : Bool} (h : logic_places l kinds = some R) : Spec Try.prog 73 [tD (rSl (rI .i64)) l, tD (rSl (rI .i64)) kinds] (tD rB R) := by
  refine Spec.of Try.func73 rfl rfl rfl fun w0 S0 => ?_
  refine CG.seq ?_
  refine CG.region ?_
  refine RG.op (ok_box (ht rfl)) rfl ?_
  refine RG.op (ok_assign hB) rfl ?_
  refine RG.nil ?_
  refine AT.next ?_
  refine CG.seq ?_
  refine CG.region ?_
  refine RG.op (ok_move (ht rfl)) rfl ?_
  refine RG.op ((show OpOK _ _ _ _ ((tFun Try.prog (fun (x : Int) => [tD (rI .i64) x]) (fun (x : Bool) => tD rB x) (fun (x : Int) => (logic_places_1 kinds) x))) from ok_makeFunc (cts := [tPtr (rSl (rI .i64)) kinds]) (caps := [.tmp 3]) cb89 ⟨(ht rfl), trivial⟩ (fun x y h => f89_ok _ _ h))) rfl ?_
  obtain ⟨r, q_r, h⟩ := bs h
  refine RG.op (ok_call cb70 (f70_ok _ _ q_r) ⟨(ht rfl), (ht rfl), trivial⟩) rfl ?_
  refine RG.op (ok_not (ht rfl)) rfl ?_
  refine RG.op (ok_assign (ht rfl)) rfl ?_
  refine RG.nil ?_
  refine AT.next ?_
  refine CG.ret ?_
  cases so h
  exact AT.ret1 rfl rfl

set_option maxRecDepth 100000 in
theorem f74_ok (a1 : DAgg) (kinds : (List Int)) {R : Int × Bool} (h : logic_agg a1 kinds = some R) : Spec Try.prog 74 [tD rpDAgg a1, tD (rSl (rI .i64)) kinds] (tT [tD (rI .i64) R.1, tD rB R.2]) := by
  refine Spec.of Try.func74 rfl rfl rfl fun w0 S0 => ?_
  refine CG.seq ?_
  refine CG.region ?_
  refine RG.op (ok_box (ht rfl)) rfl ?_
  refine RG.op (ok_assign hI) rfl ?_
  refine RG.op (ok_assign hB) rfl ?_
  refine RG.nil ?_
  refine AT.next ?_
  refine CG.seq ?_
  refine CG.seq ?_
  refine CG.region ?_
  refine RG.op (ok_fieldAddr fd51_0 rfl flDAgg_0 rfl (ht rfl)) rfl ?_
  refine RG.op (ok_load ti3 rfl rfl (ht rfl)) rfl ?_
  refine RG.op (ok_eqlI (ht rfl) hI) rfl ?_
  refine RG.nil ?_
  refine AT.next ?_
  refine CG.cond (ht rfl) (fun hc => ?_) (fun hc => ?_)
  · have h := ct h hc
    refine CG.seq ?_
    refine CG.draw (ts := [tPtr rpDExpr a1.Arg, tPtr (rSl rpDENode) a1.Arg.Nodes, tD (rSl rpDENode) a1.Arg.Nodes, tD (rI .i64) (a1.Arg.Nodes.length : Int), tD rB ((a1.Arg.Nodes.length : Int) == (0 : Int)), tD (rI .i64) (2 : Int), tD rB ((a1.Arg.Nodes.length : Int) == (0 : Int))]) mixed rfl rfl
      ⟨⟨[⟨2, _, none⟩], _, rfl, ⟨rfl, trivial⟩, rfl, rfl, OpG.plain rfl (ok_fieldAddr fd51_1 rfl flDAgg_1 rfl (ht rfl))⟩,
      ⟨⟨[⟨11, _, some 0⟩], _, rfl, ⟨rfl, trivial⟩, rfl, rfl, OpG.plain rfl (ok_fieldAddr fd28_0 rfl flDExpr_0 rfl (ht rfl))⟩,
      ⟨⟨[⟨12, _, some 1⟩], _, rfl, ⟨rfl, trivial⟩, rfl, rfl, OpG.plain rfl (ok_load ti26 rfl rfl (ht rfl))⟩,
      ⟨⟨[⟨13, _, some 2⟩], _, rfl, ⟨rfl, trivial⟩, rfl, rfl, OpG.plain rfl (ok_lenSl Try.underlying26 (ht rfl))⟩,
      ⟨⟨[⟨14, _, some 3⟩], _, rfl, ⟨rfl, trivial⟩, rfl, rfl, OpG.plain rfl (ok_eqlI (ht rfl) hI)⟩,
      ⟨⟨[], _, rfl, trivial, rfl, rfl, OpG.plain rfl (ok_assign hI)⟩,
      ⟨⟨[⟨15, _, some 4⟩], _, rfl, ⟨rfl, trivial⟩, rfl, rfl, OpG.plain rfl (ok_assign (ht rfl))⟩,
      trivial⟩⟩⟩⟩⟩⟩⟩ ?_
    refine AT.next ?_
    refine CG.ret ?_
    refine AT.then_ret ?_
    cases so h
    exact AT.ret2 rfl rfl rfl
  · have h := cf h hc
    refine CG.skip ?_
    refine AT.next ?_
    refine CG.seq ?_
    refine CG.region ?_
    refine RG.op (ok_fieldAddr fd51_1 rfl flDAgg_1 rfl (ht rfl)) rfl ?_
    refine RG.op (ok_load ti28 rfl rfl (ht rfl)) rfl ?_
    refine RG.op (ok_move (ht rfl)) rfl ?_
    obtain ⟨r, q_r, h⟩ := bs h
    refine RG.op (ok_call cb75 (f75_ok _ _ q_r) ⟨(ht rfl), (ht rfl), trivial⟩) rfl ?_
    refine RG.op (ok_move (ht rfl)) rfl ?_
    refine RG.op (ok_extract rfl (ht rfl)) rfl ?_
    refine RG.op (ok_extract rfl (ht rfl)) rfl ?_
    refine RG.op (ok_assign (ht rfl)) rfl ?_
    refine RG.op (ok_assign (ht rfl)) rfl ?_
    refine RG.nil ?_
    refine AT.next ?_
    refine CG.seq ?_
    refine CG.seq ?_
    refine CG.region ?_
    refine RG.op (ok_fieldAddr fd51_0 rfl flDAgg_0 rfl (ht rfl)) rfl ?_
    refine RG.op (ok_load ti3 rfl rfl (ht rfl)) rfl ?_
    refine RG.nil ?_
    refine AT.next ?_
    refine CG.block ?_
    refine CG.seq ?_
    refine CG.region ?_
    refine RG.op (ok_eqlI (ht rfl) hI) rfl ?_
    refine RG.op (ok_assign (ht rfl)) rfl ?_
    refine RG.nil ?_
    refine AT.next ?_
    refine CG.cond (ht rfl) (fun hc => ?_) (fun hc => ?_)
    · have h := ct h hc
      refine CG.seq ?_
      refine CG.region ?_
      refine RG.op (ok_move (ht rfl)) rfl ?_
      refine RG.op (ok_eqlI (ht rfl) hI) rfl ?_
      refine RG.op (ok_assign hI) rfl ?_
      refine RG.op (ok_assign (ht rfl)) rfl ?_
      refine RG.nil ?_
      refine AT.next ?_
      refine CG.ret ?_
      refine AT.in_ret (AT.then_ret ?_)
      cases so h
      exact AT.ret2 rfl rfl rfl
    · have h := cf h hc
      refine CG.seq ?_
      refine CG.region ?_
      refine RG.op (ok_eqlI (ht rfl) hI) rfl ?_
      refine RG.op (ok_assign (ht rfl)) rfl ?_
      refine RG.nil ?_
      refine AT.next ?_
      refine CG.cond (ht rfl) (fun hc => ?_) (fun hc => ?_)
      · have h := ct h hc
        refine CG.seq ?_
        refine CG.region ?_
        refine RG.op (ok_move (ht rfl)) rfl ?_
        refine RG.op (ok_eqlI (ht rfl) hI) rfl ?_
        refine RG.op (ok_move (ht rfl)) rfl ?_
        refine RG.opGt rfl rfl rfl rfl (fun hg => ok_move (ht rfl)) ?_
        refine RG.opGt rfl rfl rfl rfl (fun hg => ok_eqlI (htO rfl hg) hI) ?_
        refine RG.opGt rfl rfl rfl rfl (fun hg => ok_move (htO rfl hg)) ?_
        refine RG.opGof rfl rfl rfl rfl (fun hg => ok_move (ht rfl)) ?_
        refine RG.opGof rfl rfl rfl rfl (fun hg => ok_eqlI (htO rfl hg) hI) ?_
        refine RG.opGt rfl rfl rfl rfl (fun hg => ok_pickOr (htO rfl hg) (fun hb => (htO rfl (andi hg (noti hb))))) ?_
        refine RG.op (ok_pickAnd (ht rfl) (fun hb => (htO rfl hb))) rfl ?_
        refine RG.op (ok_assign hI) rfl ?_
        refine RG.op (ok_assign (ht rfl)) rfl ?_
        refine RG.nil ?_
        refine AT.next ?_
        refine CG.ret ?_
        refine AT.in_ret (AT.then_ret ?_)
        cases so h
        exact AT.ret2 rfl rfl rfl
      · have h := cf h hc
        refine CG.sjoin1 (Z := fun x => logic_agg_k1 r x = some R) (Of := fun x => []) (Gf := fun x => [(6, tD (rI .i64) r.1), (7, tD (rI .i64) r.2), (41, tD rB x)]) (fun x h => ?_) (fun K => ?_)
        · skip
          refine CG.cond (ht rfl) (fun hc => ?_) (fun hc => ?_)
          · have h := ct h hc
            refine CG.seq ?_
            refine CG.region ?_
            refine RG.op (ok_move (ht rfl)) rfl ?_
            refine RG.op (ok_move (ht rfl)) rfl ?_
            refine RG.op (ok_eqlI (ht rfl) hI) rfl ?_
            refine RG.op (ok_assign (ht rfl)) rfl ?_
            refine RG.op (ok_assign (ht rfl)) rfl ?_
            refine RG.nil ?_
            refine AT.next ?_
            refine CG.ret ?_
            refine AT.in_ret (AT.then_ret ?_)
            cases so h
            exact AT.ret2 rfl rfl rfl
          · have h := cf h hc
            refine CG.skip ?_
            refine AT.in_normal ?_
            refine AT.next ?_
            refine CG.seq ?_
            refine CG.region ?_
            refine RG.op (ok_assign hI) rfl ?_
            refine RG.op (ok_assign hB) rfl ?_
            refine RG.nil ?_
            refine AT.next ?_
            refine CG.ret ?_
            cases so h
            exact AT.ret2 rfl rfl rfl
        · skip
          refine CG.seq ?_
          refine CG.region ?_
          refine RG.op (ok_eqlI (ht rfl) hI) rfl ?_
          refine RG.op (ok_assign (ht rfl)) rfl ?_
          refine RG.nil ?_
          refine AT.next ?_
          refine CG.cond (ht rfl) (fun hc => ?_) (fun hc => ?_)
          · have h := ct h hc
            refine CG.skip ?_
            exact AT.sub (K (a1.Tag == (4 : Int)) h) ⟨rfl, rfl, rfl, trivial⟩
          · have h := cf h hc
            refine CG.region ?_
            refine RG.op (ok_eqlI (ht rfl) hI) rfl ?_
            refine RG.op (ok_assign (ht rfl)) rfl ?_
            refine RG.nil ?_
            exact AT.sub (K (a1.Tag == (5 : Int)) h) ⟨rfl, rfl, rfl, trivial⟩

set_option maxRecDepth 100000 in
theorem f43_o (b : Nat) (ix : OI) (c : Dchecker) (n : DLNode) {R : (List Int) × Bool} (h : logic_checker_group c n = some R) : SpecM Try.prog 43 [tV (bptr b 0), tD rpDLNode n] (ob58 b c ix) (fun _ : OI => tT [tD (rSl (rI .i64)) R.1, tD rB R.2]) (fun _ => (ob58 b c ix)) := by
  refine SpecM.of Try.func43 rfl rfl rfl fun w0 S0 => ?_
  refine (show CG _ _ _ [bx (rH rpDchecker [(1, oslV (ix.h 0).1 (ix.h 0).2 c.kinds.length), (2, oslV (ix.h 1).1 (ix.h 1).2 c.first.length)]) 58 b c, tip (rSl (rI .i64)) 25 (ix.h 0).1 (ix.h 0).2 c.kinds, tip (rI .i64) 3 (ix.h 1).1 (ix.h 1).2 c.first] _ from ?_)
  refine CG.seq ?_
  refine CG.region ?_
  refine RG.op (ok_box (ht rfl)) rfl ?_
  refine RG.op (ok_assign (show HasTy _ _ _ (tD (rSl (rI .i64)) ([])) from hNil)) rfl ?_
  refine RG.op (ok_assign hB) rfl ?_
  refine RG.nil ?_
  refine AT.next ?_
  refine CG.seq ?_
  obtain ⟨e, q_e, h⟩ := bs h
  refine CG.draw (ts := [tV (bptr b 0), tV (bptr b 0), tV (bptr b 1), tO (rSl (rI .i64)) (ix.h 0).1 (ix.h 0).2 c.kinds, tPtr (rI .i64) n.A, tD (rI .i64) n.A, tPtr (rSl (rI .i64)) e, tD (rSl (rI .i64)) e, tD (rSl (rI .i64)) e]) mixed rfl rfl
    ⟨⟨[⟨0, _, none⟩], _, rfl, ⟨rfl, trivial⟩, rfl, rfl, OpG.plain rfl (ok_move (ht rfl))⟩,
    ⟨⟨[⟨15, _, some 0⟩], _, rfl, ⟨rfl, trivial⟩, rfl, rfl, OpG.plain rfl (ok_nilB (ht rfl))⟩,
    ⟨⟨[⟨16, _, some 1⟩], _, rfl, ⟨rfl, trivial⟩, rfl, rfl, OpG.plain rfl (ok_fieldAddrC (n := 1) fd58_1 rfl (ht rfl) rfl)⟩,
    ⟨⟨[⟨17, _, some 2⟩], _, rfl, ⟨rfl, trivial⟩, rfl, rfl, OpG.plain rfl (ok_loadT ti56 rfl (.head _) (.tail _ (.head _)) (ht rfl))⟩,
    ⟨⟨[⟨3, _, none⟩], _, rfl, ⟨rfl, trivial⟩, rfl, rfl, OpG.plain rfl (ok_fieldAddr fd33_1 rfl flDLNode_1 rfl (ht rfl))⟩,
    ⟨⟨[⟨19, _, some 4⟩], _, rfl, ⟨rfl, trivial⟩, rfl, rfl, OpG.plain rfl (ok_load ti3 rfl rfl (ht rfl))⟩,
    ⟨⟨[⟨18, _, some 3⟩, ⟨20, _, some 5⟩], _, rfl, ⟨rfl, rfl, trivial⟩, rfl, rfl, OpG.plain rfl (ok_indexAddr Try.underlying56 ti25 rfl (tO_d (ht rfl)) (ht rfl) q_e)⟩,
    ⟨⟨[⟨21, _, some 6⟩], _, rfl, ⟨rfl, trivial⟩, rfl, rfl, OpG.plain rfl (ok_load ti25 rfl rfl (ht rfl))⟩,
    ⟨⟨[⟨22, _, some 7⟩], _, rfl, ⟨rfl, trivial⟩, rfl, rfl, OpG.plain rfl (ok_assign (ht rfl))⟩,
    trivial⟩⟩⟩⟩⟩⟩⟩⟩⟩ ?_
  refine AT.next ?_
  refine CG.seq ?_
  refine CG.region ?_
  refine RG.op (ok_fieldAddr fd33_7 rfl flDLNode_7 rfl (ht rfl)) rfl ?_
  refine RG.op (ok_load ti25 rfl rfl (ht rfl)) rfl ?_
  refine RG.op (ok_lenSl Try.underlying25 (ht rfl)) rfl ?_
  refine RG.op (ok_leq (ht rfl) hI) rfl ?_
  refine RG.op (ok_move (ht rfl)) rfl ?_
  refine RG.opGt rfl rfl rfl rfl (fun hg => ok_fieldAddr fd33_8 rfl flDLNode_8 rfl (ht rfl)) ?_
  refine RG.opGt rfl rfl rfl rfl (fun hg => ok_load ti29 rfl rfl (htO rfl hg)) ?_
  refine RG.opGt rfl rfl rfl rfl (fun hg => ok_lenSl Try.underlying29 (htO rfl hg)) ?_
  refine RG.opGt rfl rfl rfl rfl (fun hg => ok_leq (htO rfl hg) hI) ?_
  refine RG.op (ok_pickAnd (ht rfl) (fun hb => (htO rfl hb))) rfl ?_
  refine RG.op (ok_move (ht rfl)) rfl ?_
  refine RG.opGt rfl rfl rfl rfl (fun hg => ok_fieldAddr fd33_7 rfl flDLNode_7 rfl (ht rfl)) ?_
  refine RG.opGt rfl rfl rfl rfl (fun hg => ok_load ti25 rfl rfl (htO rfl hg)) ?_
  refine RG.opGt rfl rfl rfl rfl (fun hg => ok_lenSl Try.underlying25 (htO rfl hg)) ?_
  refine RG.opGt rfl rfl rfl rfl (fun hg => ok_fieldAddr fd33_8 rfl flDLNode_8 rfl (ht rfl)) ?_
  refine RG.opGt rfl rfl rfl rfl (fun hg => ok_load ti29 rfl rfl (htO rfl hg)) ?_
  refine RG.opGt rfl rfl rfl rfl (fun hg => ok_lenSl Try.underlying29 (htO rfl hg)) ?_
  refine RG.opGt rfl rfl rfl rfl (fun hg => ok_add (htO rfl hg) (htO rfl hg)) ?_
  refine RG.opGt rfl rfl rfl rfl (fun hg => ok_gtr (htO rfl hg) hI) ?_
  refine RG.op (ok_pickAnd (ht rfl) (fun hb => (htO rfl hb))) rfl ?_
  refine RG.op (ok_move (ht rfl)) rfl ?_
  obtain ⟨t, q_t, h⟩ := bs h
  refine RG.opGt rfl rfl rfl rfl (fun hg => ok_fieldAddr fd33_7 rfl flDLNode_7 rfl (ht rfl)) ?_
  refine RG.opGt rfl rfl rfl rfl (fun hg => ok_load ti25 rfl rfl (htO rfl hg)) ?_
  refine RG.opGt rfl rfl rfl rfl (fun hg => ok_move (ht rfl)) ?_
  obtain ⟨r, h1t, h0t⟩ := og q_t
  have q_rg := fun hb => (h1t hb).1
  refine RG.opGt rfl rfl rfl rfl (fun hg => ok_call cb73 (f73_ok _ _ (q_rg hg)) ⟨(htO rfl hg), (htO rfl hg), trivial⟩) ?_
  refine RG.op (ok_pickAndM (ht rfl) (fun hb => (htO rfl hb)) (fun hb => (h1t hb).2) h0t) rfl ?_
  refine RG.op (ok_assign (ht rfl)) rfl ?_
  refine RG.nil ?_
  refine AT.next ?_
  refine CG.seq ?_
  refine CG.seq ?_
  refine CG.region ?_
  refine RG.op (ok_move (ht rfl)) rfl ?_
  refine RG.op (ok_not (ht rfl)) rfl ?_
  refine RG.nil ?_
  refine AT.next ?_
  refine CG.cond (ht rfl) (fun hc => ?_) (fun hc => ?_)
  · have h := ct h hc
    refine CG.seq ?_
    refine CG.region ?_
    refine RG.op (ok_assign (show HasTy _ _ _ (tD (rSl (rI .i64)) ([])) from hNil)) rfl ?_
    refine RG.op (ok_assign hB) rfl ?_
    refine RG.nil ?_
    refine AT.next ?_
    refine CG.ret ?_
    refine AT.then_ret ?_
    refine AT.front2 ?_
    refine AT.front2 ?_
    refine AT.front2 ?_
    cases so h
    exact AT.retML (ts := [tD (rSl (rI .i64)) ([]), tD rB false]) (rvs := [.tmp 4, .tmp 5]) rfl rfl ⟨res_tmp rfl, res_tmp rfl, trivial⟩ zoi rfl rfl
  · have h := cf h hc
    refine CG.skip ?_
    refine AT.next ?_
    refine CG.seq ?_
    refine CG.region ?_
    refine RG.fresh false (rI .i64) 3 ?_
    refine RG.op (ok_assign hVn) rfl ?_
    refine RG.nil ?_
    refine AT.next ?_
    refine CG.seq ?_
    refine CG.seq ?_
    refine CG.region ?_
    refine RG.op (ok_fieldAddr fd33_7 rfl flDLNode_7 rfl (ht rfl)) rfl ?_
    refine RG.op (ok_load ti25 rfl rfl (ht rfl)) rfl ?_
    refine RG.op (ok_lenSl Try.underlying25 (ht rfl)) rfl ?_
    refine RG.op (ok_move hI) rfl ?_
    refine RG.nil ?_
    refine AT.next ?_
    refine CG.block ?_
    refine CG.have_len (k := 52) rfl (fun hN => ?_)
    refine CG.loop ?_
    refine LG.sub (LG.list4 (Z := fun ls i out l c1 => (n.Keys.drop i = ls) ∧ logic_checker_group_l1 n e t ls out = some R) (Of := fun _ i out l c1 => [arr (rI .i64) 3 l c1 out, bx (rH rpDchecker [(1, oslV (ix.h 0).1 (ix.h 0).2 c.kinds.length), (2, oslV (ix.h 1).1 (ix.h 1).2 c.first.length)]) 58 b c, tip (rSl (rI .i64)) 25 (ix.h 0).1 (ix.h 0).2 c.kinds, tip (rI .i64) 3 (ix.h 1).1 (ix.h 1).2 c.first]) (Gf := fun _ i out l c1 => [(3, tPtr rpDLNode n), (6, tD (rSl (rI .i64)) e), (7, tD rB t), (8, tV (oslV l c1 out.length)), (52, tD (rSl (rI .i64)) n.Keys), (53, tD (rI .i64) (n.Keys.length : Int)), (54, tD (rI .i64) (i : Int))]) (fun i out l c1 h => ?_) (fun e1 tl ih i out l c1 h => ?_) n.Keys 0 ([] : List Int) none 0 ⟨rfl, h⟩) ⟨rfl, rfl, rfl, rfl, rfl, rfl, rfl, trivial⟩
    · obtain ⟨hx, h⟩ := h
      refine LG.unfold ?_
      refine CG.seq ?_
      refine CG.region ?_
      refine RG.op (ok_lss (ht rfl) (ht rfl)) rfl ?_
      refine RG.nil ?_
      refine AT.next ?_
      refine CG.seq ?_
      refine CG.condF (ht rfl) (dropF hx) ?_
      refine CG.exit ?_
      refine AT.then_exit (AT.then_exit (AT.in_exit ?_))
      refine AT.next ?_
      refine CG.seq ?_
      refine CG.seq ?_
      refine CG.region ?_
      refine RG.op (ok_fieldAddr fd33_8 rfl flDLNode_8 rfl (ht rfl)) rfl ?_
      refine RG.op (ok_load ti29 rfl rfl (ht rfl)) rfl ?_
      refine RG.op (ok_lenSl Try.underlying29 (ht rfl)) rfl ?_
      refine RG.op (ok_move hI) rfl ?_
      refine RG.nil ?_
      refine AT.next ?_
      refine CG.block ?_
      refine CG.have_len (k := 67) rfl (fun hN1 => ?_)
      refine CG.loop ?_
      refine LG.sub (LG.list5 (Z := fun ls1 i1 out1 l1 c2 ok => (n.Aggs.drop i1 = ls1) ∧ logic_checker_group_l2 e ls1 out1 ok = some R) (Of := fun _ i1 out1 l1 c2 ok => [arr (rI .i64) 3 l1 c2 out1, bx (rH rpDchecker [(1, oslV (ix.h 0).1 (ix.h 0).2 c.kinds.length), (2, oslV (ix.h 1).1 (ix.h 1).2 c.first.length)]) 58 b c, tip (rSl (rI .i64)) 25 (ix.h 0).1 (ix.h 0).2 c.kinds, tip (rI .i64) 3 (ix.h 1).1 (ix.h 1).2 c.first]) (Gf := fun _ i1 out1 l1 c2 ok => [(6, tD (rSl (rI .i64)) e), (7, tD rB ok), (8, tV (oslV l1 c2 out1.length)), (67, tD (rSl rpDAgg) n.Aggs), (68, tD (rI .i64) (n.Aggs.length : Int)), (69, tD (rI .i64) (i1 : Int))]) (fun i1 out1 l1 c2 ok h => ?_) (fun e2 tl1 ih1 i1 out1 l1 c2 ok h => ?_) n.Aggs 0 out l c1 t ⟨rfl, h⟩) ⟨rfl, rfl, rfl, rfl, rfl, rfl, trivial⟩
      · obtain ⟨hx1, h⟩ := h
        refine LG.unfold ?_
        refine CG.seq ?_
        refine CG.region ?_
        refine RG.op (ok_lss (ht rfl) (ht rfl)) rfl ?_
        refine RG.nil ?_
        refine AT.next ?_
        refine CG.seq ?_
        refine CG.condF (ht rfl) (dropF hx1) ?_
        refine CG.exit ?_
        refine AT.then_exit (AT.then_exit (AT.in_exit ?_))
        refine AT.next ?_
        refine CG.seq ?_
        refine CG.region ?_
        refine RG.op (ok_move (ht rfl)) rfl ?_
        refine RG.op (ok_move (ht rfl)) rfl ?_
        refine RG.op (ok_assign (ht rfl)) rfl ?_
        refine RG.op (ok_assign (ht rfl)) rfl ?_
        refine RG.nil ?_
        refine AT.next ?_
        refine CG.ret ?_
        refine AT.freeze ?_
        refine AT.tipAt 8 rfl ?_
        refine AT.tipAt 88 rfl ?_
        refine AT.tipAt 4 rfl ?_
        refine AT.dataAt 4 rfl ?_
        refine AT.drop ?_
        refine AT.front2 ?_
        refine AT.front2 ?_
        refine AT.front2 ?_
        cases so h
        exact AT.retML (ts := [tD (rSl (rI .i64)) out1, tD rB ok]) (rvs := [.tmp 4, .tmp 5]) rfl rfl ⟨res_tmp rfl, res_tmp rfl, trivial⟩ zoi rfl rfl
      · obtain ⟨hx1, h⟩ := h
        refine LG.unfold ?_
        refine CG.seq ?_
        refine CG.region ?_
        refine RG.op (ok_lss (ht rfl) (ht rfl)) rfl ?_
        refine RG.nil ?_
        refine AT.next ?_
        refine CG.seq ?_
        refine CG.condT (ht rfl) (dropT hx1) ?_
        refine CG.skip ?_
        refine AT.next ?_
        refine CG.seq ?_
        refine CG.block ?_
        refine CG.seq ?_
        refine CG.region ?_
        refine RG.op (ok_indexAddr Try.underlying29 ti51 rfl (ht rfl) (ht rfl) (dropI hx1)) rfl ?_
        refine RG.op (ok_load ti51 rfl rfl (ht rfl)) rfl ?_
        refine RG.alloc (r := rpDAgg) (x := (⟨(0 : Int), (⟨[]⟩ : DExpr)⟩ : DAgg)) ti51 (fun _ => zrDAgg _) rfl (fun b1 => ?_)
        refine RG.storeB ti51 rfl sfld_whole rfl (ht rfl) (ht rfl) ?_
        refine RG.settleB 12 rfl ?_
        refine RG.nil ?_
        refine AT.next ?_
        refine CG.seq ?_
        refine CG.region ?_
        refine RG.op (ok_load ti51 rfl rfl (ht rfl)) rfl ?_
        refine RG.op (ok_move (ht rfl)) rfl ?_
        obtain ⟨r1, q_r1, h⟩ := bs h
        refine RG.op (ok_call cb74 (f74_ok _ _ q_r1) ⟨(ht rfl), (ht rfl), trivial⟩) rfl ?_
        refine RG.op (ok_move (ht rfl)) rfl ?_
        refine RG.op (ok_extract rfl (ht rfl)) rfl ?_
        refine RG.op (ok_extract rfl (ht rfl)) rfl ?_
        refine RG.op (ok_assign (ht rfl)) rfl ?_
        refine RG.op (ok_assign (ht rfl)) rfl ?_
        refine RG.nil ?_
        refine AT.next ?_
        refine CG.region ?_
        refine RG.op (ok_move (ht rfl)) rfl ?_
        refine RG.op (ok_move (ht rfl)) rfl ?_
        refine RG.op (ok_buildSlice (r := (rI .i64)) (ys := [r1.1]) (xs := [.tmp 80]) Try.underlying25 ti3 rfl rfl rfl rfl rfl ⟨(ht rfl), trivial⟩) rfl ?_
        obtain ⟨out2, q_out2, h⟩ := bs h
        refine RG.append ti3 rfl rfl rfl rfl Try.underlying25 rfl rfl (ht rfl) (ht rfl) q_out2 (fun l2 c3 => ?_)
        refine RG.op (ok_move (ht rfl)) rfl ?_
        refine RG.op (ok_move (ht rfl)) rfl ?_
        refine RG.opGt rfl rfl rfl rfl (fun hg => ok_move (ht rfl)) ?_
        refine RG.op (ok_pickAnd (ht rfl) (fun hb => (htO rfl hb))) rfl ?_
        refine RG.op (ok_assign (ht rfl)) rfl ?_
        refine RG.op (ok_assign (ht rfl)) rfl ?_
        refine RG.nil ?_
        refine AT.in_normal ?_
        refine AT.next ?_
        refine CG.region ?_
        refine RG.op (ok_incN (dropL hx1 hN1) (ht rfl) hI) rfl ?_
        refine RG.op (ok_move (ht rfl)) rfl ?_
        refine RG.nil ?_
        exact AT.round (LG.sub (ih1 (i1 + 1) out2 l2 c3 (ok && r1.2) ⟨dropS hx1, h⟩) ⟨rfl, rfl, rfl, rfl, rfl, rfl, trivial⟩)
    · obtain ⟨hx, h⟩ := h
      refine LG.unfold ?_
      refine CG.seq ?_
      refine CG.region ?_
      refine RG.op (ok_lss (ht rfl) (ht rfl)) rfl ?_
      refine RG.nil ?_
      refine AT.next ?_
      refine CG.seq ?_
      refine CG.condT (ht rfl) (dropT hx) ?_
      refine CG.skip ?_
      refine AT.next ?_
      refine CG.seq ?_
      refine CG.block ?_
      refine CG.seq ?_
      refine CG.region ?_
      refine RG.op (ok_indexAddr Try.underlying25 ti3 rfl (ht rfl) (ht rfl) (dropI hx)) rfl ?_
      refine RG.op (ok_load ti3 rfl rfl (ht rfl)) rfl ?_
      refine RG.op (ok_assign (ht rfl)) rfl ?_
      refine RG.nil ?_
      refine AT.next ?_
      refine CG.region ?_
      refine RG.op (ok_move (ht rfl)) rfl ?_
      refine RG.op (ok_move (ht rfl)) rfl ?_
      refine RG.op (ok_move (ht rfl)) rfl ?_
      obtain ⟨e3, q_e3, h⟩ := bs h
      refine RG.op (ok_indexAddr Try.underlying25 ti3 rfl (ht rfl) (ht rfl) q_e3) rfl ?_
      refine RG.op (ok_load ti3 rfl rfl (ht rfl)) rfl ?_
      refine RG.op (ok_buildSlice (r := (rI .i64)) (ys := [e3]) (xs := [.tmp 62]) Try.underlying25 ti3 rfl rfl rfl rfl rfl ⟨(ht rfl), trivial⟩) rfl ?_
      obtain ⟨out3, q_out3, h⟩ := bs h
      refine RG.append ti3 rfl rfl rfl rfl Try.underlying25 rfl rfl (ht rfl) (ht rfl) q_out3 (fun l3 c4 => ?_)
      refine RG.op (ok_assign (ht rfl)) rfl ?_
      refine RG.nil ?_
      refine AT.in_normal ?_
      refine AT.next ?_
      refine CG.region ?_
      refine RG.op (ok_incN (dropL hx hN) (ht rfl) hI) rfl ?_
      refine RG.op (ok_move (ht rfl)) rfl ?_
      refine RG.nil ?_
      exact AT.round (LG.sub (ih (i + 1) out3 l3 c4 ⟨dropS hx, h⟩) ⟨rfl, rfl, rfl, rfl, rfl, rfl, rfl, trivial⟩)

set_option maxRecDepth 100000 in
theorem f44_o (b : Nat) (ix : OI) (c : Dchecker) (n : DLNode) {R : (List Int) × Bool} (h : logic_checker_project c n = some R) : SpecM Try.prog 44 [tV (bptr b 0), tD rpDLNode n] (ob58 b c ix) (fun _ : OI => tT [tD (rSl (rI .i64)) R.1, tD rB R.2]) (fun _ => (ob58 b c ix)) := by
  refine SpecM.of Try.func44 rfl rfl rfl fun w0 S0 => ?_
  refine (show CG _ _ _ [bx (rH rpDchecker [(1, oslV (ix.h 0).1 (ix.h 0).2 c.kinds.length), (2, oslV (ix.h 1).1 (ix.h 1).2 c.first.length)]) 58 b c, tip (rSl (rI .i64)) 25 (ix.h 0).1 (ix.h 0).2 c.kinds, tip (rI .i64) 3 (ix.h 1).1 (ix.h 1).2 c.first] _ from ?_)
  refine CG.seq ?_
  refine CG.region ?_
  refine RG.op (ok_box (ht rfl)) rfl ?_
  refine RG.op (ok_assign (show HasTy _ _ _ (tD (rSl (rI .i64)) ([])) from hNil)) rfl ?_
  refine RG.op (ok_assign hB) rfl ?_
  refine RG.nil ?_
  refine AT.next ?_
  refine CG.seq ?_
  refine CG.region ?_
  refine RG.op (ok_fieldAddr fd33_9 rfl flDLNode_9 rfl (ht rfl)) rfl ?_
  refine RG.op (ok_load ti30 rfl rfl (ht rfl)) rfl ?_
  refine RG.op (ok_lenSl Try.underlying30 (ht rfl)) rfl ?_
  refine RG.op (ok_geq (ht rfl) hI) rfl ?_
  refine RG.op (ok_move (ht rfl)) rfl ?_
  refine RG.opGt rfl rfl rfl rfl (fun hg => ok_fieldAddr fd33_9 rfl flDLNode_9 rfl (ht rfl)) ?_
  refine RG.opGt rfl rfl rfl rfl (fun hg => ok_load ti30 rfl rfl (htO rfl hg)) ?_
  refine RG.opGt rfl rfl rfl rfl (fun hg => ok_lenSl Try.underlying30 (htO rfl hg)) ?_
  refine RG.opGt rfl rfl rfl rfl (fun hg => ok_leq (htO rfl hg) hI) ?_
  refine RG.op (ok_pickAnd (ht rfl) (fun hb => (htO rfl hb))) rfl ?_
  refine RG.op (ok_assign (ht rfl)) rfl ?_
  refine RG.nil ?_
  refine AT.next ?_
  refine CG.seq ?_
  refine CG.region ?_
  refine RG.fresh false (rI .i64) 3 ?_
  refine RG.op (ok_assign hVn) rfl ?_
  refine RG.nil ?_
  refine AT.next ?_
  refine CG.seq ?_
  refine CG.seq ?_
  refine CG.region ?_
  refine RG.op (ok_fieldAddr fd33_9 rfl flDLNode_9 rfl (ht rfl)) rfl ?_
  refine RG.op (ok_load ti30 rfl rfl (ht rfl)) rfl ?_
  refine RG.op (ok_lenSl Try.underlying30 (ht rfl)) rfl ?_
  refine RG.op (ok_move hI) rfl ?_
  refine RG.nil ?_
  refine AT.next ?_
  refine CG.block ?_
  refine CG.have_len (k := 23) rfl (fun hN => ?_)
  refine CG.loop ?_
  refine LG.sub (LG.list5 (Z := fun ls i out l c1 ok => (n.Items.drop i = ls) ∧ logic_checker_project_l1 c n ls out ok = some R) (Of := fun _ i out l c1 ok => [arr (rI .i64) 3 l c1 out, bx (rH rpDchecker [(1, oslV (ix.h 0).1 (ix.h 0).2 c.kinds.length), (2, oslV (ix.h 1).1 (ix.h 1).2 c.first.length)]) 58 b c, tip (rSl (rI .i64)) 25 (ix.h 0).1 (ix.h 0).2 c.kinds, tip (rI .i64) 3 (ix.h 1).1 (ix.h 1).2 c.first]) (Gf := fun _ i out l c1 ok => [(0, tV (bptr b 0)), (3, tPtr rpDLNode n), (6, tD rB ok), (7, tV (oslV l c1 out.length)), (23, tD (rSl rpDExpr) n.Items), (24, tD (rI .i64) (n.Items.length : Int)), (25, tD (rI .i64) (i : Int))]) (fun i out l c1 ok h => ?_) (fun e tl ih i out l c1 ok h => ?_) n.Items 0 ([] : List Int) none 0 ((decide ((1 : Int) ≤ (n.Items.length : Int))) && (decide ((n.Items.length : Int) ≤ (16 : Int)))) ⟨rfl, h⟩) ⟨rfl, rfl, rfl, rfl, rfl, rfl, rfl, trivial⟩
  · obtain ⟨hx, h⟩ := h
    refine LG.unfold ?_
    refine CG.seq ?_
    refine CG.region ?_
    refine RG.op (ok_lss (ht rfl) (ht rfl)) rfl ?_
    refine RG.nil ?_
    refine AT.next ?_
    refine CG.seq ?_
    refine CG.condF (ht rfl) (dropF hx) ?_
    refine CG.exit ?_
    refine AT.then_exit (AT.then_exit (AT.in_exit ?_))
    refine AT.next ?_
    refine CG.seq ?_
    refine CG.region ?_
    refine RG.op (ok_move (ht rfl)) rfl ?_
    refine RG.op (ok_move (ht rfl)) rfl ?_
    refine RG.op (ok_assign (ht rfl)) rfl ?_
    refine RG.op (ok_assign (ht rfl)) rfl ?_
    refine RG.nil ?_
    refine AT.next ?_
    refine CG.ret ?_
    refine AT.freeze ?_
    refine AT.tipAt 7 rfl ?_
    refine AT.tipAt 52 rfl ?_
    refine AT.tipAt 4 rfl ?_
    refine AT.dataAt 4 rfl ?_
    refine AT.drop ?_
    refine AT.front2 ?_
    refine AT.front2 ?_
    refine AT.front2 ?_
    cases so h
    exact AT.retML (ts := [tD (rSl (rI .i64)) out, tD rB ok]) (rvs := [.tmp 4, .tmp 5]) rfl rfl ⟨res_tmp rfl, res_tmp rfl, trivial⟩ zoi rfl rfl
  · obtain ⟨hx, h⟩ := h
    refine LG.unfold ?_
    refine CG.seq ?_
    refine CG.region ?_
    refine RG.op (ok_lss (ht rfl) (ht rfl)) rfl ?_
    refine RG.nil ?_
    refine AT.next ?_
    refine CG.seq ?_
    refine CG.condT (ht rfl) (dropT hx) ?_
    refine CG.skip ?_
    refine AT.next ?_
    refine CG.seq ?_
    refine CG.block ?_
    refine CG.seq ?_
    refine CG.region ?_
    refine RG.op (ok_indexAddr Try.underlying30 ti28 rfl (ht rfl) (ht rfl) (dropI hx)) rfl ?_
    refine RG.op (ok_load ti28 rfl rfl (ht rfl)) rfl ?_
    refine RG.alloc (r := rpDExpr) (x := (⟨[]⟩ : DExpr)) ti28 (fun _ => zrDExpr _) rfl (fun b1 => ?_)
    refine RG.storeB ti28 rfl sfld_whole rfl (ht rfl) (ht rfl) ?_
    refine RG.settleB 9 rfl ?_
    refine RG.nil ?_
    refine AT.next ?_
    refine CG.seq ?_
    obtain ⟨e1, q_e1, h⟩ := bs h
    obtain ⟨r, q_r, h⟩ := bs h
    refine CG.draw (ts := [tD rpDExpr e, tV (bptr b 0), tV (bptr b 0), tV (bptr b 1), tO (rSl (rI .i64)) (ix.h 0).1 (ix.h 0).2 c.kinds, tPtr (rI .i64) n.A, tD (rI .i64) n.A, tPtr (rSl (rI .i64)) e1, tD (rSl (rI .i64)) e1, tT [tD (rI .i64) r.1, tD (rI .i64) r.2], tT [tD (rI .i64) r.1, tD (rI .i64) r.2], tD (rI .i64) r.1, tD (rI .i64) r.2, tD (rI .i64) r.1, tD (rI .i64) r.2]) mixed rfl rfl
      ⟨⟨[⟨9, _, none⟩], _, rfl, ⟨rfl, trivial⟩, rfl, rfl, OpG.plain rfl (ok_load ti28 rfl rfl (ht rfl))⟩,
      ⟨⟨[⟨0, _, none⟩], _, rfl, ⟨rfl, trivial⟩, rfl, rfl, OpG.plain rfl (ok_move (ht rfl))⟩,
      ⟨⟨[⟨31, _, some 1⟩], _, rfl, ⟨rfl, trivial⟩, rfl, rfl, OpG.plain rfl (ok_nilB (ht rfl))⟩,
      ⟨⟨[⟨32, _, some 2⟩], _, rfl, ⟨rfl, trivial⟩, rfl, rfl, OpG.plain rfl (ok_fieldAddrC (n := 1) fd58_1 rfl (ht rfl) rfl)⟩,
      ⟨⟨[⟨33, _, some 3⟩], _, rfl, ⟨rfl, trivial⟩, rfl, rfl, OpG.plain rfl (ok_loadT ti56 rfl (.tail _ (.head _)) (.tail _ (.tail _ (.head _))) (ht rfl))⟩,
      ⟨⟨[⟨3, _, none⟩], _, rfl, ⟨rfl, trivial⟩, rfl, rfl, OpG.plain rfl (ok_fieldAddr fd33_1 rfl flDLNode_1 rfl (ht rfl))⟩,
      ⟨⟨[⟨35, _, some 5⟩], _, rfl, ⟨rfl, trivial⟩, rfl, rfl, OpG.plain rfl (ok_load ti3 rfl rfl (ht rfl))⟩,
      ⟨⟨[⟨34, _, some 4⟩, ⟨36, _, some 6⟩], _, rfl, ⟨rfl, rfl, trivial⟩, rfl, rfl, OpG.plain rfl (ok_indexAddr Try.underlying56 ti25 rfl (tO_d (ht rfl)) (ht rfl) q_e1)⟩,
      ⟨⟨[⟨37, _, some 7⟩], _, rfl, ⟨rfl, trivial⟩, rfl, rfl, OpG.plain rfl (ok_load ti25 rfl rfl (ht rfl))⟩,
      ⟨⟨[⟨30, _, some 0⟩, ⟨38, _, some 8⟩], _, rfl, ⟨rfl, rfl, trivial⟩, rfl, rfl, OpG.plain rfl (ok_call cb75 (f75_ok _ _ q_r) ⟨(ht rfl), (ht rfl), trivial⟩)⟩,
      ⟨⟨[⟨39, _, some 9⟩], _, rfl, ⟨rfl, trivial⟩, rfl, rfl, OpG.plain rfl (ok_move (ht rfl))⟩,
      ⟨⟨[⟨29, _, some 10⟩], _, rfl, ⟨rfl, trivial⟩, rfl, rfl, OpG.plain rfl (ok_extract rfl (ht rfl))⟩,
      ⟨⟨[⟨29, _, some 10⟩], _, rfl, ⟨rfl, trivial⟩, rfl, rfl, OpG.plain rfl (ok_extract rfl (ht rfl))⟩,
      ⟨⟨[⟨40, _, some 11⟩], _, rfl, ⟨rfl, trivial⟩, rfl, rfl, OpG.plain rfl (ok_assign (ht rfl))⟩,
      ⟨⟨[⟨41, _, some 12⟩], _, rfl, ⟨rfl, trivial⟩, rfl, rfl, OpG.plain rfl (ok_assign (ht rfl))⟩,
      trivial⟩⟩⟩⟩⟩⟩⟩⟩⟩⟩⟩⟩⟩⟩⟩ ?_
    refine AT.next ?_
    refine CG.region ?_
    refine RG.op (ok_move (ht rfl)) rfl ?_
    refine RG.op (ok_move (ht rfl)) rfl ?_
    refine RG.op (ok_buildSlice (r := (rI .i64)) (ys := [r.1]) (xs := [.tmp 43]) Try.underlying25 ti3 rfl rfl rfl rfl rfl ⟨(ht rfl), trivial⟩) rfl ?_
    obtain ⟨out1, q_out1, h⟩ := bs h
    refine RG.append ti3 rfl rfl rfl rfl Try.underlying25 rfl rfl (ht rfl) (ht rfl) q_out1 (fun l1 c2 => ?_)
    refine RG.op (ok_move (ht rfl)) rfl ?_
    refine RG.op (ok_move (ht rfl)) rfl ?_
    refine RG.opGt rfl rfl rfl rfl (fun hg => ok_move (ht rfl)) ?_
    refine RG.opGt rfl rfl rfl rfl (fun hg => ok_eqlI (htO rfl hg) hI) ?_
    refine RG.op (ok_pickAnd (ht rfl) (fun hb => (htO rfl hb))) rfl ?_
    refine RG.op (ok_assign (ht rfl)) rfl ?_
    refine RG.op (ok_assign (ht rfl)) rfl ?_
    refine RG.nil ?_
    refine AT.in_normal ?_
    refine AT.next ?_
    refine CG.region ?_
    refine RG.op (ok_incN (dropL hx hN) (ht rfl) hI) rfl ?_
    refine RG.op (ok_move (ht rfl)) rfl ?_
    refine RG.nil ?_
    exact AT.round (LG.sub (ih (i + 1) out1 l1 c2 (ok && (r.2 == (0 : Int))) ⟨dropS hx, h⟩) ⟨rfl, rfl, rfl, rfl, rfl, rfl, rfl, trivial⟩)

set_option maxRecDepth 100000 in
theorem f45_o (b : Nat) (ix : OI) (c : Dchecker) (n : DLNode) {R : (List Int) × Bool} (h : logic_checker_distinct c n = some R) : SpecM Try.prog 45 [tV (bptr b 0), tD rpDLNode n] (ob58 b c ix) (fun _ : OI => tT [tD (rSl (rI .i64)) R.1, tD rB R.2]) (fun _ => (ob58 b c ix)) := by
  refine SpecM.of Try.func45 rfl rfl rfl fun w0 S0 => ?_
  refine (show CG _ _ _ [bx (rH rpDchecker [(1, oslV (ix.h 0).1 (ix.h 0).2 c.kinds.length), (2, oslV (ix.h 1).1 (ix.h 1).2 c.first.length)]) 58 b c, tip (rSl (rI .i64)) 25 (ix.h 0).1 (ix.h 0).2 c.kinds, tip (rI .i64) 3 (ix.h 1).1 (ix.h 1).2 c.first] _ from ?_)
  refine CG.seq ?_
  refine CG.region ?_
  refine RG.op (ok_box (ht rfl)) rfl ?_
  refine RG.op (ok_assign (show HasTy _ _ _ (tD (rSl (rI .i64)) ([])) from hNil)) rfl ?_
  refine RG.op (ok_assign hB) rfl ?_
  refine RG.nil ?_
  refine AT.next ?_
  refine CG.seq ?_
  obtain ⟨e, q_e, h⟩ := bs h
  refine CG.draw (ts := [tV (bptr b 0), tV (bptr b 0), tV (bptr b 1), tO (rSl (rI .i64)) (ix.h 0).1 (ix.h 0).2 c.kinds, tPtr (rI .i64) n.A, tD (rI .i64) n.A, tPtr (rSl (rI .i64)) e, tD (rSl (rI .i64)) e, tD (rSl (rI .i64)) e, tD rB true]) mixed rfl rfl
    ⟨⟨[⟨0, _, none⟩], _, rfl, ⟨rfl, trivial⟩, rfl, rfl, OpG.plain rfl (ok_move (ht rfl))⟩,
    ⟨⟨[⟨6, _, some 0⟩], _, rfl, ⟨rfl, trivial⟩, rfl, rfl, OpG.plain rfl (ok_nilB (ht rfl))⟩,
    ⟨⟨[⟨7, _, some 1⟩], _, rfl, ⟨rfl, trivial⟩, rfl, rfl, OpG.plain rfl (ok_fieldAddrC (n := 1) fd58_1 rfl (ht rfl) rfl)⟩,
    ⟨⟨[⟨8, _, some 2⟩], _, rfl, ⟨rfl, trivial⟩, rfl, rfl, OpG.plain rfl (ok_loadT ti56 rfl (.head _) (.tail _ (.head _)) (ht rfl))⟩,
    ⟨⟨[⟨3, _, none⟩], _, rfl, ⟨rfl, trivial⟩, rfl, rfl, OpG.plain rfl (ok_fieldAddr fd33_1 rfl flDLNode_1 rfl (ht rfl))⟩,
    ⟨⟨[⟨10, _, some 4⟩], _, rfl, ⟨rfl, trivial⟩, rfl, rfl, OpG.plain rfl (ok_load ti3 rfl rfl (ht rfl))⟩,
    ⟨⟨[⟨9, _, some 3⟩, ⟨11, _, some 5⟩], _, rfl, ⟨rfl, rfl, trivial⟩, rfl, rfl, OpG.plain rfl (ok_indexAddr Try.underlying56 ti25 rfl (tO_d (ht rfl)) (ht rfl) q_e)⟩,
    ⟨⟨[⟨12, _, some 6⟩], _, rfl, ⟨rfl, trivial⟩, rfl, rfl, OpG.plain rfl (ok_load ti25 rfl rfl (ht rfl))⟩,
    ⟨⟨[⟨13, _, some 7⟩], _, rfl, ⟨rfl, trivial⟩, rfl, rfl, OpG.plain rfl (ok_assign (ht rfl))⟩,
    ⟨⟨[], _, rfl, trivial, rfl, rfl, OpG.plain rfl (ok_assign hB)⟩,
    trivial⟩⟩⟩⟩⟩⟩⟩⟩⟩⟩ ?_
  refine AT.next ?_
  refine CG.ret ?_
  refine AT.front2 ?_
  refine AT.front2 ?_
  refine AT.front2 ?_
  cases so h
  exact AT.retML (ts := [tD (rSl (rI .i64)) e, tD rB true]) (rvs := [.tmp 4, .tmp 5]) rfl rfl ⟨res_tmp rfl, res_tmp rfl, trivial⟩ zoi rfl rfl

set_option maxRecDepth 100000 in
theorem f46_o (b : Nat) (ix : OI) (c : Dchecker) (n : DLNode) {R : (List Int) × Bool} (h : logic_checker_union c n = some R) : SpecM Try.prog 46 [tV (bptr b 0), tD rpDLNode n] (ob58 b c ix) (fun _ : OI => tT [tD (rSl (rI .i64)) R.1, tD rB R.2]) (fun _ => (ob58 b c ix)) := by
  refine SpecM.of Try.func46 rfl rfl rfl fun w0 S0 => ?_
  refine (show CG _ _ _ [bx (rH rpDchecker [(1, oslV (ix.h 0).1 (ix.h 0).2 c.kinds.length), (2, oslV (ix.h 1).1 (ix.h 1).2 c.first.length)]) 58 b c, tip (rSl (rI .i64)) 25 (ix.h 0).1 (ix.h 0).2 c.kinds, tip (rI .i64) 3 (ix.h 1).1 (ix.h 1).2 c.first] _ from ?_)
  refine CG.seq ?_
  refine CG.region ?_
  refine RG.op (ok_box (ht rfl)) rfl ?_
  refine RG.op (ok_assign (show HasTy _ _ _ (tD (rSl (rI .i64)) ([])) from hNil)) rfl ?_
  refine RG.op (ok_assign hB) rfl ?_
  refine RG.nil ?_
  refine AT.next ?_
  refine CG.seq ?_
  obtain ⟨e, q_e, h⟩ := bs h
  obtain ⟨e1, q_e1, h⟩ := bs h
  refine CG.draw (ts := [tV (bptr b 0), tV (bptr b 0), tV (bptr b 1), tO (rSl (rI .i64)) (ix.h 0).1 (ix.h 0).2 c.kinds, tPtr (rI .i64) n.A, tD (rI .i64) n.A, tPtr (rSl (rI .i64)) e, tD (rSl (rI .i64)) e, tV (bptr b 0), tV (bptr b 0), tV (bptr b 1), tO (rSl (rI .i64)) (ix.h 0).1 (ix.h 0).2 c.kinds, tPtr (rI .i64) n.B, tD (rI .i64) n.B, tPtr (rSl (rI .i64)) e1, tD (rSl (rI .i64)) e1, tD (rSl (rI .i64)) e, tD (rSl (rI .i64)) e1]) mixed rfl rfl
    ⟨⟨[⟨0, _, none⟩], _, rfl, ⟨rfl, trivial⟩, rfl, rfl, OpG.plain rfl (ok_move (ht rfl))⟩,
    ⟨⟨[⟨12, _, some 0⟩], _, rfl, ⟨rfl, trivial⟩, rfl, rfl, OpG.plain rfl (ok_nilB (ht rfl))⟩,
    ⟨⟨[⟨13, _, some 1⟩], _, rfl, ⟨rfl, trivial⟩, rfl, rfl, OpG.plain rfl (ok_fieldAddrC (n := 1) fd58_1 rfl (ht rfl) rfl)⟩,
    ⟨⟨[⟨14, _, some 2⟩], _, rfl, ⟨rfl, trivial⟩, rfl, rfl, OpG.plain rfl (ok_loadT ti56 rfl (.head _) (.tail _ (.head _)) (ht rfl))⟩,
    ⟨⟨[⟨3, _, none⟩], _, rfl, ⟨rfl, trivial⟩, rfl, rfl, OpG.plain rfl (ok_fieldAddr fd33_1 rfl flDLNode_1 rfl (ht rfl))⟩,
    ⟨⟨[⟨16, _, some 4⟩], _, rfl, ⟨rfl, trivial⟩, rfl, rfl, OpG.plain rfl (ok_load ti3 rfl rfl (ht rfl))⟩,
    ⟨⟨[⟨15, _, some 3⟩, ⟨17, _, some 5⟩], _, rfl, ⟨rfl, rfl, trivial⟩, rfl, rfl, OpG.plain rfl (ok_indexAddr Try.underlying56 ti25 rfl (tO_d (ht rfl)) (ht rfl) q_e)⟩,
    ⟨⟨[⟨18, _, some 6⟩], _, rfl, ⟨rfl, trivial⟩, rfl, rfl, OpG.plain rfl (ok_load ti25 rfl rfl (ht rfl))⟩,
    ⟨⟨[⟨0, _, none⟩], _, rfl, ⟨rfl, trivial⟩, rfl, rfl, OpG.plain rfl (ok_move (ht rfl))⟩,
    ⟨⟨[⟨20, _, some 8⟩], _, rfl, ⟨rfl, trivial⟩, rfl, rfl, OpG.plain rfl (ok_nilB (ht rfl))⟩,
    ⟨⟨[⟨21, _, some 9⟩], _, rfl, ⟨rfl, trivial⟩, rfl, rfl, OpG.plain rfl (ok_fieldAddrC (n := 1) fd58_1 rfl (ht rfl) rfl)⟩,
    ⟨⟨[⟨22, _, some 10⟩], _, rfl, ⟨rfl, trivial⟩, rfl, rfl, OpG.plain rfl (ok_loadT ti56 rfl (.head _) (.tail _ (.head _)) (ht rfl))⟩,
    ⟨⟨[⟨3, _, none⟩], _, rfl, ⟨rfl, trivial⟩, rfl, rfl, OpG.plain rfl (ok_fieldAddr fd33_2 rfl flDLNode_2 rfl (ht rfl))⟩,
    ⟨⟨[⟨24, _, some 12⟩], _, rfl, ⟨rfl, trivial⟩, rfl, rfl, OpG.plain rfl (ok_load ti3 rfl rfl (ht rfl))⟩,
    ⟨⟨[⟨23, _, some 11⟩, ⟨25, _, some 13⟩], _, rfl, ⟨rfl, rfl, trivial⟩, rfl, rfl, OpG.plain rfl (ok_indexAddr Try.underlying56 ti25 rfl (tO_d (ht rfl)) (ht rfl) q_e1)⟩,
    ⟨⟨[⟨26, _, some 14⟩], _, rfl, ⟨rfl, trivial⟩, rfl, rfl, OpG.plain rfl (ok_load ti25 rfl rfl (ht rfl))⟩,
    ⟨⟨[⟨19, _, some 7⟩], _, rfl, ⟨rfl, trivial⟩, rfl, rfl, OpG.plain rfl (ok_assign (ht rfl))⟩,
    ⟨⟨[⟨27, _, some 15⟩], _, rfl, ⟨rfl, trivial⟩, rfl, rfl, OpG.plain rfl (ok_assign (ht rfl))⟩,
    trivial⟩⟩⟩⟩⟩⟩⟩⟩⟩⟩⟩⟩⟩⟩⟩⟩⟩⟩ ?_
  refine AT.next ?_
  refine CG.seq ?_
  refine CG.seq ?_
  refine CG.region ?_
  refine RG.op (ok_move (ht rfl)) rfl ?_
  refine RG.op (ok_lenSl Try.underlying25 (ht rfl)) rfl ?_
  refine RG.op (ok_move (ht rfl)) rfl ?_
  refine RG.op (ok_lenSl Try.underlying25 (ht rfl)) rfl ?_
  refine RG.op (ok_neqI (ht rfl) (ht rfl)) rfl ?_
  refine RG.nil ?_
  refine AT.next ?_
  refine CG.cond (ht rfl) (fun hc => ?_) (fun hc => ?_)
  · have h := ct h hc
    refine CG.seq ?_
    refine CG.region ?_
    refine RG.op (ok_assign (show HasTy _ _ _ (tD (rSl (rI .i64)) ([])) from hNil)) rfl ?_
    refine RG.op (ok_assign hB) rfl ?_
    refine RG.nil ?_
    refine AT.next ?_
    refine CG.ret ?_
    refine AT.then_ret ?_
    refine AT.front2 ?_
    refine AT.front2 ?_
    refine AT.front2 ?_
    cases so h
    exact AT.retML (ts := [tD (rSl (rI .i64)) ([]), tD rB false]) (rvs := [.tmp 4, .tmp 5]) rfl rfl ⟨res_tmp rfl, res_tmp rfl, trivial⟩ zoi rfl rfl
  · have h := cf h hc
    refine CG.skip ?_
    refine AT.next ?_
    refine CG.seq ?_
    refine CG.region ?_
    refine RG.op (ok_move (ht rfl)) rfl ?_
    obtain ⟨r, q_r, h⟩ := bs h
    refine RG.callO cb19 (f19_own _ q_r) ⟨(ht rfl), trivial⟩ rfl (fun l c1 => ?_)
    refine RG.op (ok_assign (ht rfl)) rfl ?_
    refine RG.nil ?_
    refine AT.next ?_
    refine CG.seq ?_
    refine CG.region ?_
    refine RG.op (ok_assign hB) rfl ?_
    refine RG.nil ?_
    refine AT.next ?_
    refine CG.seq ?_
    refine CG.seq ?_
    refine CG.region ?_
    refine RG.op (ok_move (ht rfl)) rfl ?_
    refine RG.op (ok_lenSl Try.underlying25 (ht rfl)) rfl ?_
    refine RG.op (ok_move hI) rfl ?_
    refine RG.nil ?_
    refine AT.next ?_
    refine CG.block ?_
    refine CG.have_len (k := 35) rfl (fun hN => ?_)
    refine CG.loop ?_
    refine LG.sub (LG.list3 (Z := fun ls i out ok => (e1.drop i = ls) ∧ logic_checker_union_l1 ls i out ok = some R) (Of := fun _ i out ok => [arr (rI .i64) 3 l c1 out, bx (rH rpDchecker [(1, oslV (ix.h 0).1 (ix.h 0).2 c.kinds.length), (2, oslV (ix.h 1).1 (ix.h 1).2 c.first.length)]) 58 b c, tip (rSl (rI .i64)) 25 (ix.h 0).1 (ix.h 0).2 c.kinds, tip (rI .i64) 3 (ix.h 1).1 (ix.h 1).2 c.first]) (Gf := fun _ i out ok => [(8, tV (oslV l c1 out.length)), (9, tD rB ok), (35, tD (rSl (rI .i64)) e1), (36, tD (rI .i64) (e1.length : Int)), (37, tD (rI .i64) (i : Int))]) (fun i out ok h => ?_) (fun e2 tl ih i out ok h => ?_) e1 0 r true ⟨rfl, h⟩) ⟨rfl, rfl, rfl, rfl, rfl, trivial⟩
    · obtain ⟨hx, h⟩ := h
      refine LG.unfold ?_
      refine CG.seq ?_
      refine CG.region ?_
      refine RG.op (ok_lss (ht rfl) (ht rfl)) rfl ?_
      refine RG.nil ?_
      refine AT.next ?_
      refine CG.seq ?_
      refine CG.condF (ht rfl) (dropF hx) ?_
      refine CG.exit ?_
      refine AT.then_exit (AT.then_exit (AT.in_exit ?_))
      refine AT.next ?_
      refine CG.seq ?_
      refine CG.region ?_
      refine RG.op (ok_move (ht rfl)) rfl ?_
      refine RG.op (ok_move (ht rfl)) rfl ?_
      refine RG.op (ok_assign (ht rfl)) rfl ?_
      refine RG.op (ok_assign (ht rfl)) rfl ?_
      refine RG.nil ?_
      refine AT.next ?_
      refine CG.ret ?_
      refine AT.freeze ?_
      refine AT.tipAt 8 rfl ?_
      refine AT.tipAt 65 rfl ?_
      refine AT.tipAt 4 rfl ?_
      refine AT.dataAt 4 rfl ?_
      refine AT.drop ?_
      refine AT.front2 ?_
      refine AT.front2 ?_
      refine AT.front2 ?_
      cases so h
      exact AT.retML (ts := [tD (rSl (rI .i64)) out, tD rB ok]) (rvs := [.tmp 4, .tmp 5]) rfl rfl ⟨res_tmp rfl, res_tmp rfl, trivial⟩ zoi rfl rfl
    · obtain ⟨hx, h⟩ := h
      refine LG.unfold ?_
      refine CG.seq ?_
      refine CG.region ?_
      refine RG.op (ok_lss (ht rfl) (ht rfl)) rfl ?_
      refine RG.nil ?_
      refine AT.next ?_
      refine CG.seq ?_
      refine CG.condT (ht rfl) (dropT hx) ?_
      refine CG.skip ?_
      refine AT.next ?_
      refine CG.seq ?_
      refine CG.block ?_
      refine CG.seq ?_
      refine CG.region ?_
      refine RG.op (ok_move (ht rfl)) rfl ?_
      refine RG.op (ok_indexAddr Try.underlying25 ti3 rfl (ht rfl) (ht rfl) (dropI hx)) rfl ?_
      refine RG.op (ok_load ti3 rfl rfl (ht rfl)) rfl ?_
      refine RG.op (ok_assign (ht rfl)) rfl ?_
      refine RG.op (ok_assign (ht rfl)) rfl ?_
      refine RG.nil ?_
      refine AT.next ?_
      refine CG.sjoin1 (Z := fun out1 => logic_checker_union_k1 (logic_checker_union_l1 tl) i e2 ok out1 = some R) (Of := fun out1 => [arr (rI .i64) 3 l c1 out1, bx (rH rpDchecker [(1, oslV (ix.h 0).1 (ix.h 0).2 c.kinds.length), (2, oslV (ix.h 1).1 (ix.h 1).2 c.first.length)]) 58 b c, tip (rSl (rI .i64)) 25 (ix.h 0).1 (ix.h 0).2 c.kinds, tip (rI .i64) 3 (ix.h 1).1 (ix.h 1).2 c.first]) (Gf := fun out1 => [(8, tV (oslV l c1 out1.length)), (9, tD rB ok), (10, tD (rI .i64) (i : Int)), (11, tD (rI .i64) e2), (35, tD (rSl (rI .i64)) e1), (36, tD (rI .i64) (e1.length : Int)), (37, tD (rI .i64) (i : Int))]) (fun out1 h => ?_) (fun K => ?_)
      · skip
        refine CG.region ?_
        refine RG.op (ok_move (ht rfl)) rfl ?_
        refine RG.op (ok_move (ht rfl)) rfl ?_
        obtain ⟨t, q_t, h⟩ := bs h
        refine RG.opGt rfl rfl rfl rfl (fun hg => ok_move (ht rfl)) ?_
        refine RG.opGt rfl rfl rfl rfl (fun hg => ok_move (ht rfl)) ?_
        obtain ⟨e3, h1t, h0t⟩ := og q_t
        have q_e3g := fun hb => (h1t hb).1
        refine RG.opGt rfl rfl rfl rfl (fun hg => ok_indexAddrO Try.underlying25 ti3 (.head _) (htO rfl hg) (htO rfl hg) (q_e3g hg)) ?_
        refine RG.opGt rfl rfl rfl rfl (fun hg => ok_loadE (r := (rI .i64)) (i := (i : Int)) (foff := 0) ti3 rfl rfl fld_whole rfl (.head _) (q_e3g hg) (htO rfl hg)) ?_
        refine RG.opGt rfl rfl rfl rfl (fun hg => ok_move (ht rfl)) ?_
        refine RG.opGt rfl rfl rfl rfl (fun hg => ok_eqlI (htO rfl hg) (htO rfl hg)) ?_
        refine RG.opGt rfl rfl rfl rfl (fun hg => ok_move (htO rfl hg)) ?_
        refine RG.opGof rfl rfl rfl rfl (fun hg => ok_move (ht rfl)) ?_
        refine RG.opGof rfl rfl rfl rfl (fun hg => ok_eqlI (htO rfl hg) hI) ?_
        refine RG.opGt rfl rfl rfl rfl (fun hg => ok_pickOr (htO rfl hg) (fun hb => (htO rfl (andi hg (noti hb))))) ?_
        refine RG.op (ok_pickAndM (ht rfl) (fun hb => (htO rfl hb)) (fun hb => (h1t hb).2) h0t) rfl ?_
        refine RG.op (ok_assign (ht rfl)) rfl ?_
        refine RG.nil ?_
        refine AT.in_normal ?_
        refine AT.next ?_
        refine CG.region ?_
        refine RG.op (ok_incN (dropL hx hN) (ht rfl) hI) rfl ?_
        refine RG.op (ok_move (ht rfl)) rfl ?_
        refine RG.nil ?_
        exact AT.round (LG.sub (ih (i + 1) out1 t ⟨dropS hx, h⟩) ⟨rfl, rfl, rfl, rfl, rfl, trivial⟩)
      · skip
        refine CG.seq ?_
        refine CG.region ?_
        refine RG.op (ok_move (ht rfl)) rfl ?_
        refine RG.op (ok_move (ht rfl)) rfl ?_
        obtain ⟨e4, q_e4, h⟩ := bs h
        refine RG.op (ok_indexAddrO Try.underlying25 ti3 (.head _) (ht rfl) (ht rfl) q_e4) rfl ?_
        refine RG.op (ok_loadE (r := (rI .i64)) (i := (i : Int)) (foff := 0) ti3 rfl rfl fld_whole rfl (.head _) q_e4 (ht rfl)) rfl ?_
        refine RG.op (ok_eqlI (ht rfl) hI) rfl ?_
        refine RG.nil ?_
        refine AT.next ?_
        refine CG.cond (ht rfl) (fun hc => ?_) (fun hc => ?_)
        · have h := ct h hc
          refine CG.region ?_
          refine RG.op (ok_move (ht rfl)) rfl ?_
          refine RG.op (ok_move (ht rfl)) rfl ?_
          refine RG.op (ok_move (ht rfl)) rfl ?_
          refine RG.op (ok_indexAddrO Try.underlying25 ti3 (.head _) (ht rfl) (ht rfl) q_e4) rfl ?_
          obtain ⟨st, q_st, h⟩ := bs h
          refine RG.storeE ti3 rfl sfld_whole rfl q_e4 (so q_st) (ht rfl) (ht rfl) ?_
          refine RG.relen2 (set_len (so q_st)) 8 rfl ?_
          refine RG.relen2 (set_len (so q_st)) 42 rfl ?_
          refine RG.relen2 (set_len (so q_st)) 47 rfl ?_
          refine RG.nil ?_
          exact AT.sub (K st h) ⟨rfl, rfl, rfl, rfl, rfl, rfl, rfl, trivial⟩
        · have h := cf h hc
          refine CG.skip ?_
          exact AT.sub (K out h) ⟨rfl, rfl, rfl, rfl, rfl, rfl, rfl, trivial⟩

set_option maxRecDepth 100000 in
theorem f76_ok (in1 : (List Int)) (o : DOrd) {R : Bool} (h : logic_checker_order_1 in1 o = some R) : Spec Try.prog 76 [tD rpDOrd o, tPtr (rSl (rI .i64)) in1] (tD rB R) := by
  refine Spec.of Try.func76 rfl rfl rfl fun w0 S0 => ?_
  refine CG.seq ?_
  refine CG.region ?_
  refine RG.op (ok_box (ht rfl)) rfl ?_
  refine RG.op (ok_assign hB) rfl ?_
  refine RG.nil ?_
  refine AT.next ?_
  refine CG.seq ?_
  refine CG.region ?_
  refine RG.op (ok_fieldAddr fd95_0 rfl flDOrd_0 rfl (ht rfl)) rfl ?_
  refine RG.op (ok_load ti3 rfl rfl (ht rfl)) rfl ?_
  refine RG.op (ok_lss (ht rfl) hI) rfl ?_
  refine RG.op (ok_move (ht rfl)) rfl ?_
  refine RG.opGf rfl rfl rfl rfl (fun hg => ok_fieldAddr fd95_0 rfl flDOrd_0 rfl (ht rfl)) ?_
  refine RG.opGf rfl rfl rfl rfl (fun hg => ok_load ti3 rfl rfl (htO rfl hg)) ?_
  refine RG.opGf rfl rfl rfl rfl (fun hg => ok_load ti25 rfl rfl (ht rfl)) ?_
  refine RG.opGf rfl rfl rfl rfl (fun hg => ok_lenSl Try.underlying25 (htO rfl hg)) ?_
  refine RG.opGf rfl rfl rfl rfl (fun hg => ok_geq (htO rfl hg) (htO rfl hg)) ?_
  refine RG.op (ok_pickOr (ht rfl) (fun hb => (htO rfl (noti hb)))) rfl ?_
  refine RG.op (ok_assign (ht rfl)) rfl ?_
  refine RG.nil ?_
  refine AT.next ?_
  refine CG.ret ?_
  cases so h
  exact AT.ret1 rfl rfl

set_option maxRecDepth 100000 in
theorem f93_ok (s : (List DOrd)) (f : (DOrd → Option Bool)) {R : Int} (h : slices_IndexFunc_api_Ord_api_Ord s f = some R) : Spec Try.prog 93 [tD (rSl rpDOrd) s, (tFun Try.prog (fun (x : DOrd) => [tD rpDOrd x]) (fun (x : Bool) => tD rB x) (fun (x : DOrd) => f x))] (tD (rI .i64) R) := by
  refine Spec.of Try.func93 rfl rfl rfl fun w0 S0 => ?_
  refine CG.seq ?_
  refine CG.region ?_
  refine RG.op (ok_assign hI) rfl ?_
  refine RG.nil ?_
  refine AT.next ?_
  refine CG.seq ?_
  refine CG.seq ?_
  refine CG.region ?_
  refine RG.op (ok_move (ht rfl)) rfl ?_
  refine RG.op (ok_lenSl Try.underlying31 (ht rfl)) rfl ?_
  refine RG.op (ok_move hI) rfl ?_
  refine RG.nil ?_
  refine AT.next ?_
  refine CG.block ?_
  refine CG.have_len (k := 6) rfl (fun hN => ?_)
  refine CG.loop ?_
  refine LG.sub (LG.list1 (Z := fun ls i  => (s.drop i = ls) ∧ slices_IndexFunc_api_Ord_api_Ord_l1 f ls i  = some R) (Of := fun _ i  => []) (Gf := fun _ i  => [(0, tD (rSl rpDOrd) s), (1, (tFun Try.prog (fun (x : DOrd) => [tD rpDOrd x]) (fun (x : Bool) => tD rB x) (fun (x : DOrd) => f x))), (7, tD (rI .i64) (s.length : Int)), (8, tD (rI .i64) (i : Int))]) (fun i  h => ?_) (fun e tl ih i  h => ?_) s 0  ⟨rfl, h⟩) ⟨rfl, rfl, rfl, rfl, trivial⟩
  · obtain ⟨hx, h⟩ := h
    refine LG.unfold ?_
    refine CG.seq ?_
    refine CG.region ?_
    refine RG.op (ok_lss (ht rfl) (ht rfl)) rfl ?_
    refine RG.nil ?_
    refine AT.next ?_
    refine CG.seq ?_
    refine CG.condF (ht rfl) (dropF hx) ?_
    refine CG.exit ?_
    refine AT.then_exit (AT.then_exit (AT.in_exit ?_))
    refine AT.next ?_
    refine CG.seq ?_
    refine CG.region ?_
    refine RG.op (ok_assign hI) rfl ?_
    refine RG.nil ?_
    refine AT.next ?_
    refine CG.ret ?_
    cases so h
    exact AT.ret1 rfl rfl
  · obtain ⟨hx, h⟩ := h
    refine LG.unfold ?_
    refine CG.seq ?_
    refine CG.region ?_
    refine RG.op (ok_lss (ht rfl) (ht rfl)) rfl ?_
    refine RG.nil ?_
    refine AT.next ?_
    refine CG.seq ?_
    refine CG.condT (ht rfl) (dropT hx) ?_
    refine CG.skip ?_
    refine AT.next ?_
    refine CG.seq ?_
    refine CG.block ?_
    refine CG.seq ?_
    refine CG.region ?_
    refine RG.op (ok_move (ht rfl)) rfl ?_
    refine RG.op (ok_assign (ht rfl)) rfl ?_
    refine RG.nil ?_
    refine AT.next ?_
    refine CG.seq ?_
    refine CG.region ?_
    refine RG.op (ok_move (ht rfl)) rfl ?_
    refine RG.op (ok_move (ht rfl)) rfl ?_
    refine RG.op (ok_move (ht rfl)) rfl ?_
    refine RG.op (ok_indexAddr Try.underlying31 ti95 rfl (ht rfl) (ht rfl) (dropI hx)) rfl ?_
    refine RG.op (ok_load ti95 rfl rfl (ht rfl)) rfl ?_
    obtain ⟨r, q_r, h⟩ := bs h
    refine RG.op (ok_callV (args := (fun (x : DOrd) => [tD rpDOrd x])) (res := (fun (x : Bool) => tD rB x)) (f := (fun (x : DOrd) => f x)) (x := ((e) : DOrd)) (ht rfl) q_r ⟨(ht rfl), trivial⟩) rfl ?_
    refine RG.nil ?_
    refine AT.next ?_
    refine CG.cond (ht rfl) (fun hc => ?_) (fun hc => ?_)
    · have h := ct h hc
      refine CG.seq ?_
      refine CG.region ?_
      refine RG.op (ok_move (ht rfl)) rfl ?_
      refine RG.op (ok_assign (ht rfl)) rfl ?_
      refine RG.nil ?_
      refine AT.next ?_
      refine CG.ret ?_
      refine AT.in_ret (AT.then_ret (AT.then_ret (AT.in_ret (AT.then_ret ?_))))
      cases so h
      exact AT.ret1 rfl rfl
    · have h := cf h hc
      refine CG.skip ?_
      refine AT.in_normal ?_
      refine AT.next ?_
      refine CG.region ?_
      refine RG.op (ok_incN (dropL hx hN) (ht rfl) hI) rfl ?_
      refine RG.op (ok_move (ht rfl)) rfl ?_
      refine RG.nil ?_
      exact AT.round (LG.sub (ih (i + 1)  ⟨dropS hx, h⟩) ⟨rfl, rfl, rfl, rfl, trivial⟩)

end Go.Proofs.Ytbhkincjkpeaoaa

