/- Facts of this claim: P4. -/
import Derived.Test.YtbhkincjkpeaoaaDoT
import Derived.Test.YtbhkincjkpeaoaaDoP3
namespace Go.Proofs.Ytbhkincjkpeaoaa
open Go

set_option maxRecDepth 100000 in
theorem f29_mkx (b : Nat) (ix : OI) (c : Dchecker) {R : ItX (Int × Bool) Dchecker} (h : logic_checker_all c = some R) : SpecItX Try.prog 29 [tV (bptr b 0)] (ob58 b c ix) (fun (x : Int × Bool) => [tD (rI .i64) x.1, tD rB x.2]) R (ob58 b) := by
  refine SpecItX.of Try.func29 rfl rfl rfl fun w0 S0 => ?_
  refine (show CG _ _ _ [bx (rH rpDchecker [(1, oslV (ix.h 0).1 (ix.h 0).2 c.kinds.length), (2, oslV (ix.h 1).1 (ix.h 1).2 c.first.length)]) 58 b c, tip (rSl (rI .i64)) 25 (ix.h 0).1 (ix.h 0).2 c.kinds, tip (rI .i64) 3 (ix.h 1).1 (ix.h 1).2 c.first] _ from ?_)
  refine CG.seq ?_
  refine CG.region ?_
  refine RG.op (ok_boxT (fun _ _ h => by rw [show _ = _ from h]; rfl) (ht rfl)) rfl ?_
  refine RG.op (ok_assign hV) rfl ?_
  refine RG.nil ?_
  refine AT.next ?_
  refine CG.seq ?_
  refine CG.region ?_
  refine RG.front2 ?_
  refine RG.front2 ?_
  refine RG.front2 ?_
  refine RG.makeIterX (O1 := ob58 b c ix) (cts := [tPtr (rT (tV (bptr b 0))) ()]) (caps := [.tmp 1]) rfl cb39 (f39_itx b ix c) ⟨(ht rfl), trivial⟩ rfl (fun v fp => ?_)
  refine RG.op (ok_assign (ht rfl)) rfl ?_
  refine RG.nil ?_
  refine AT.next ?_
  refine CG.ret ?_
  cases so h
  exact AT.retItX rfl rfl

set_option maxRecDepth 100000 in
theorem f18_ok (l : DLogic) {R : Dchecker × Int × Bool} (h : logic_look l = some R) : Spec Try.prog 18 [tD rpDLogic l] (tT [tPtr rpDchecker R.1, tD (rI .i64) R.2.1, tD rB R.2.2]) := by
  refine Spec.ofM Try.func18 rfl rfl rfl fun w0 S0 => ?_
  refine CG.seq ?_
  refine CG.region ?_
  refine RG.op (ok_box (ht rfl)) rfl ?_
  refine RG.alloc (r := rV) (x := .pointer none) ti52 (fun _ => ⟨rfl, rfl⟩) rfl (fun b => ?_)
  refine RG.alloc (r := (rI .i64)) (x := (0 : Int)) ti3 (fun _ => rfl) rfl (fun b1 => ?_)
  refine RG.alloc (r := rB) (x := false) ti4 (fun _ => rfl) rfl (fun b2 => ?_)
  refine RG.nil ?_
  refine AT.next ?_
  refine CG.seq ?_
  refine CG.region ?_
  refine RG.op (ok_load ti24 rfl rfl (ht rfl)) rfl ?_
  refine RG.op (ok_build (r := rH rpDchecker [(1, .slice none 0 0), (2, .slice none 0 0)]) (y := (⟨l, [], []⟩ : Dchecker)) ti58 fs58 (zH zrDchecker ⟨rfl, rfl, trivial⟩) (⟨_, _, _, _, _, rfl, sfldH sfDchecker_0 rfl rfl, rfl, (ht rfl), rfl⟩)) rfl ?_
  refine RG.boxO (ht rfl) rfl (fun b3 => ?_)
  refine RG.fresh true (rSl (rI .i64)) 25 ?_
  refine RG.fresh true (rI .i64) 3 ?_
  refine (show RG _ _ _ _ [tip (rI .i64) 3 none 0 ([] : List Int), tip (rSl (rI .i64)) 25 none 0 ([] : List (List Int)), bx (rH rpDchecker [(1, oslV none 0 ([] : List (List Int)).length), (2, oslV none 0 ([] : List Int).length)]) 58 b3 (⟨l, [], []⟩ : Dchecker), bx rB 4 b2 false, bx (rI .i64) 3 b1 (0 : Int), bx rV 52 b (.pointer none)] _ from ?_)
  refine RG.alloc (r := rV) (x := .pointer none) ti52 (fun _ => ⟨rfl, rfl⟩) rfl (fun b4 => ?_)
  refine RG.eff0 (eff_storeX ti52 rfl (sfx_of sfld_whole) rfl (ht rfl) (hW (ht rfl) rfl)) (fun i => ?_)
  refine (show RG _ _ _ _ [bx rV 52 b4 (bptr b3 0), tip (rI .i64) 3 none 0 ([] : List Int), tip (rSl (rI .i64)) 25 none 0 ([] : List (List Int)), bx (rH rpDchecker [(1, oslV none 0 ([] : List (List Int)).length), (2, oslV none 0 ([] : List Int).length)]) 58 b3 (⟨l, [], []⟩ : Dchecker), bx rB 4 b2 false, bx (rI .i64) 3 b1 (0 : Int), bx rV 52 b (.pointer none)] _ from ?_)
  refine RG.nil ?_
  refine AT.next ?_
  refine CG.seq ?_
  refine CG.region ?_
  refine RG.op (ok_fieldAddr fd24_0 rfl flDLogic_0 rfl (ht rfl)) rfl ?_
  refine RG.op (ok_load ti22 rfl rfl (ht rfl)) rfl ?_
  refine RG.op (ok_lenSl Try.underlying22 (ht rfl)) rfl ?_
  refine RG.op (ok_assign (ht rfl)) rfl ?_
  refine RG.nil ?_
  refine AT.next ?_
  refine CG.seq ?_
  refine CG.seq ?_
  refine CG.region ?_
  refine RG.op (ok_move (ht rfl)) rfl ?_
  refine RG.op (ok_lss (ht rfl) hI) rfl ?_
  refine RG.op (ok_move (ht rfl)) rfl ?_
  refine RG.opGf rfl rfl rfl rfl (fun hg => ok_move (ht rfl)) ?_
  refine RG.opGf rfl rfl rfl rfl (fun hg => ok_gtr (htO rfl hg) hI) ?_
  refine RG.op (ok_pickOr (ht rfl) (fun hb => (htO rfl (noti hb)))) rfl ?_
  refine RG.nil ?_
  refine AT.next ?_
  refine CG.cond (ht rfl) (fun hc => ?_) (fun hc => ?_)
  · have h := ct h hc
    refine CG.seq ?_
    refine CG.region ?_
    refine RG.op (ok_loadW ti52 (.head _) (ht rfl)) rfl ?_
    refine RG.eff0 (EffOK.fr6 (eff_storeX ti52 rfl (sfx_of sfld_whole) rfl (ht rfl) (hW (ht rfl) rfl))) (fun i1 => ?_)
    refine (show RG _ _ _ _ [bx rV 52 b (bptr b3 0), bx rV 52 b4 (bptr b3 0), tip (rI .i64) 3 none 0 ([] : List Int), tip (rSl (rI .i64)) 25 none 0 ([] : List (List Int)), bx (rH rpDchecker [(1, oslV none 0 ([] : List (List Int)).length), (2, oslV none 0 ([] : List Int).length)]) 58 b3 (⟨l, [], []⟩ : Dchecker), bx rB 4 b2 false, bx (rI .i64) 3 b1 (0 : Int)] _ from ?_)
    refine RG.front6 ?_
    refine RG.storeB ti3 rfl sfld_whole rfl (ht rfl) hI ?_
    refine RG.front6 ?_
    refine RG.storeB ti4 rfl sfld_whole rfl (ht rfl) hB ?_
    refine RG.nil ?_
    refine AT.next ?_
    refine CG.ret ?_
    refine AT.then_ret ?_
    refine AT.front6 ?_
    refine AT.bxData ?_
    refine AT.settleP 11 rfl ?_
    refine AT.front2 ?_
    refine AT.settleB 2 rfl ?_
    refine AT.front1 ?_
    refine AT.settleB 3 rfl ?_
    refine AT.settleB 4 rfl ?_
    refine AT.drop ?_
    refine AT.drop ?_
    refine AT.drop ?_
    refine AT.shut0 ?_
    cases so h
    exact AT.retL (ts := [tPtr rpDchecker (⟨l, [], []⟩ : Dchecker), tD (rI .i64) (0 : Int), tD rB false]) (rvs := [.cell 2 52, .cell 3 3, .cell 4 4]) rfl rfl ⟨res_place (j := 11) ti52 rfl rfl, res_cell ti3 rfl rfl rfl, res_cell ti4 rfl rfl rfl, trivial⟩
  · have h := cf h hc
    refine CG.skip ?_
    refine AT.next ?_
    refine CG.seq ?_
    refine CG.seq ?_
    refine CG.region ?_
    refine RG.op (ok_loadW ti52 (.head _) (ht rfl)) rfl ?_
    refine RG.front1 ?_
    refine RG.front2 ?_
    refine RG.front3 ?_
    obtain ⟨it, q_it, h⟩ := bs h
    refine RG.callItX (ob58 b3 (⟨l, [], []⟩ : Dchecker) (oiL [(none, 0), (none, 0)])) _ rfl cb29 (f29_mkx b3 (oiL [(none, 0), (none, 0)]) (⟨l, [], []⟩ : Dchecker)  q_it) ⟨(ht rfl), trivial⟩ rfl (fun v fp => ?_)
    refine RG.nil ?_
    refine AT.next ?_
    refine CG.block ?_
    obtain ⟨r, q_r, h⟩ := bs h
    refine CG.rangeX (fun (i : Bool × Int × Bool) => [bx rV 52 b4 (bptr b3 0), bx rB 4 b2 i.1, bx (rI .i64) 3 b1 i.2.1, bx rV 52 b (bif i.2.2 then bptr b3 0 else .pointer none)]) (fun (i : Bool × Int × Bool) => (i.1, i.2.1, i.2.2)) (fun _ => .ret) rfl (ht rfl) (false, (0 : Int), false) rfl q_r (fun _ => rfl) rfl (fun i x r1 h lp rec1 _ _ _ => ?_) (fun i2 j hi bd => ⟨fun hj => ?_, fun _ hj => ?_⟩)
    · obtain ⟨x1, x2, p⟩ := i
      replace h : logic_look_b1 x x1 x2 p = some r1 := h
      refine (show CG _ _ _ [recP lp rec1 .ready none, bx rV 52 b4 (bptr b3 0), bx rB 4 b2 x1, bx (rI .i64) 3 b1 x2, bx rV 52 b (bif p then bptr b3 0 else .pointer none)] _ from ?_)
      refine CG.sub (G' := [(0, tD rpDLogic l), (1, tPtr rpDLogic l), (2, tV (bptr b 0)), (3, tV (bptr b1 0)), (4, tV (bptr b2 0)), (5, tV (bptr b4 0)), (6, tD (rI .i64) (l.Nodes.length : Int)), (9, tD rpDLogic l), (10, tD (rH rpDchecker [(1, .slice none 0 0), (2, .slice none 0 0)]) (⟨l, [], []⟩ : Dchecker)), (11, tV (bptr b3 0)), (12, tPtr (rSl rpDLNode) l.Nodes), (13, tD (rSl rpDLNode) l.Nodes), (14, tD (rI .i64) (l.Nodes.length : Int)), (15, tD (rI .i64) (l.Nodes.length : Int)), (16, tD rB (decide ((l.Nodes.length : Int) < (1 : Int)))), (17, tD rB (decide ((l.Nodes.length : Int) < (1 : Int)))), (18, tOpt (!(decide ((l.Nodes.length : Int) < (1 : Int)))) (tD (rI .i64) (l.Nodes.length : Int))), (19, tOpt (!(decide ((l.Nodes.length : Int) < (1 : Int)))) (tD rB (decide ((60 : Int) < (l.Nodes.length : Int))))), (20, tD rB ((decide ((l.Nodes.length : Int) < (1 : Int))) || (decide ((60 : Int) < (l.Nodes.length : Int))))), (22, tV (bptr b3 0)), (24, tD (rI .i64) x.1), (25, tD rB x.2)]) ?_ ⟨rfl, rfl, rfl, rfl, rfl, rfl, rfl, rfl, rfl, rfl, rfl, rfl, rfl, rfl, rfl, rfl, rfl, rfl, rfl, rfl, rfl, rfl, trivial⟩
      refine CG.seq ?_
      refine CG.region ?_
      refine RG.op (ok_assign (ht rfl)) rfl ?_
      refine RG.nil ?_
      refine AT.next ?_
      refine CG.region ?_
      refine RG.op (ok_assign (ht rfl)) rfl ?_
      refine RG.nil ?_
      refine AT.beginP ?_
      refine CG.block ?_
      refine CG.seq ?_
      refine CG.region ?_
      refine RG.op (ok_move (ht rfl)) rfl ?_
      refine RG.op (ok_not (ht rfl)) rfl ?_
      refine RG.nil ?_
      refine AT.next ?_
      refine CG.cond (ht rfl) (fun hc => ?_) (fun hc => ?_)
      · have h := ct h hc
        refine CG.seq ?_
        refine CG.region ?_
        refine RG.op (ok_loadW ti52 (.tail _ (.head _)) (ht rfl)) rfl ?_
        refine RG.op (ok_move (ht rfl)) rfl ?_
        refine RG.eff0 (EffOK.fr4 (eff_storeX ti52 rfl (sfx_of sfld_whole) rfl (ht rfl) (hW (ht rfl) rfl))) (fun i3 => ?_)
        refine (show RG _ _ _ _ [bx rV 52 b (bptr b3 0), recP lp rec1 .busy none, bx rV 52 b4 (bptr b3 0), bx rB 4 b2 x1, bx (rI .i64) 3 b1 x2] _ from ?_)
        refine RG.front4 ?_
        refine RG.storeB ti3 rfl sfld_whole rfl (ht rfl) (ht rfl) ?_
        refine RG.front4 ?_
        refine RG.storeB ti4 rfl sfld_whole rfl (ht rfl) hB ?_
        refine RG.nil ?_
        refine AT.next ?_
        refine CG.ret ?_
        refine AT.in_ret ?_
        refine AT.front2 ?_
        refine AT.front2 ?_
        refine AT.front2 ?_
        refine AT.front4 ?_
        refine AT.front4 ?_
        cases so h
        exact AT.retRoundP 0 rfl (false, x.1, true) rfl rfl
      · have h := cf h hc
        refine CG.skip ?_
        refine AT.in_normal ?_
        cases so h
        exact AT.endRoundP (x1, x2, p) rfl rfl
    · skip
      obtain ⟨x3, x4, p1⟩ := i2
      obtain rfl : x3 = r.1.2.1 := congrArg (fun q : Bool × Int × Bool => q.1) hi
      obtain rfl : x4 = r.1.2.2.1 := congrArg (fun q : Bool × Int × Bool => q.2.1) hi
      obtain rfl : p1 = r.1.2.2.2 := congrArg (fun q : Bool × Int × Bool => q.2.2) hi
      have h := ct h (by rw [hj]; rfl)
      refine (show AT _ _ _ [dfb bd, bx (rH rpDchecker [(1, oslV (j.h 0).1 (j.h 0).2 r.2.kinds.length), (2, oslV (j.h 1).1 (j.h 1).2 r.2.first.length)]) 58 b3 r.2, tip (rSl (rI .i64)) 25 (j.h 0).1 (j.h 0).2 r.2.kinds, tip (rI .i64) 3 (j.h 1).1 (j.h 1).2 r.2.first, bx rV 52 b4 (bptr b3 0), bx rB 4 b2 r.1.2.1, bx (rI .i64) 3 b1 r.1.2.2.1, bx rV 52 b (bif r.1.2.2.2 then bptr b3 0 else .pointer none)] _ from ?_)
      refine AT.sub (G' := [(0, tD rpDLogic l), (1, tPtr rpDLogic l), (2, tV (bptr b 0)), (3, tV (bptr b1 0)), (4, tV (bptr b2 0)), (5, tV (bptr b4 0)), (6, tD (rI .i64) (l.Nodes.length : Int)), (9, tD rpDLogic l), (10, tD (rH rpDchecker [(1, .slice none 0 0), (2, .slice none 0 0)]) (⟨l, [], []⟩ : Dchecker)), (11, tV (bptr b3 0)), (12, tPtr (rSl rpDLNode) l.Nodes), (13, tD (rSl rpDLNode) l.Nodes), (14, tD (rI .i64) (l.Nodes.length : Int)), (15, tD (rI .i64) (l.Nodes.length : Int)), (16, tD rB (decide ((l.Nodes.length : Int) < (1 : Int)))), (17, tD rB (decide ((l.Nodes.length : Int) < (1 : Int)))), (18, tOpt (!(decide ((l.Nodes.length : Int) < (1 : Int)))) (tD (rI .i64) (l.Nodes.length : Int))), (19, tOpt (!(decide ((l.Nodes.length : Int) < (1 : Int)))) (tD rB (decide ((60 : Int) < (l.Nodes.length : Int))))), (20, tD rB ((decide ((l.Nodes.length : Int) < (1 : Int))) || (decide ((60 : Int) < (l.Nodes.length : Int))))), (22, tV (bptr b3 0))]) ?_ ⟨rfl, rfl, rfl, rfl, rfl, rfl, rfl, rfl, rfl, rfl, rfl, rfl, rfl, rfl, rfl, rfl, rfl, rfl, rfl, rfl, trivial⟩
      refine AT.in_normal ?_
      refine AT.next ?_
      refine CG.seq ?_
      obtain ⟨e, q_e, h⟩ := bs h
      refine CG.drawS 14 [tc (tV (bptr b3 0)), tc (tD (rI .i64) (l.Nodes.length : Int)), tc (tD (rI .i64) (IntKind.i64.wrap ((l.Nodes.length : Int) - (1 : Int)))), tc (tV (bptr b3 0)), tc (tV (bptr b3 0)), tc (tV (bptr b3 2)), tc (tO (rI .i64) (j.h 1).1 (j.h 1).2 r.2.first), tc (tD (rI .i64) (l.Nodes.length : Int)), tc (tD (rI .i64) (IntKind.i64.wrap ((l.Nodes.length : Int) - (1 : Int)))), tc (tPtr (rI .i64) e), tc (tD (rI .i64) e), tc (tD rB (e == (0 : Int))), tc (tAny), tc (tAny)] [false, false, false, false, false, false, false, false, false, false, false, false, true, true] [fun _ => [dfb bd, bx (rH rpDchecker [(1, oslV (j.h 0).1 (j.h 0).2 r.2.kinds.length), (2, oslV (j.h 1).1 (j.h 1).2 r.2.first.length)]) 58 b3 r.2, tip (rSl (rI .i64)) 25 (j.h 0).1 (j.h 0).2 r.2.kinds, tip (rI .i64) 3 (j.h 1).1 (j.h 1).2 r.2.first, bx rV 52 b4 (bptr b3 0), bx rB 4 b2 r.1.2.1, bx (rI .i64) 3 b1 r.1.2.2.1, bx rV 52 b (bif r.1.2.2.2 then bptr b3 0 else .pointer none)], fun sg => [bx rV 52 b (bptr b3 0), dfb bd, bx (rH rpDchecker [(1, oslV (j.h 0).1 (j.h 0).2 r.2.kinds.length), (2, oslV (j.h 1).1 (j.h 1).2 r.2.first.length)]) 58 b3 r.2, tip (rSl (rI .i64)) 25 (j.h 0).1 (j.h 0).2 r.2.kinds, tip (rI .i64) 3 (j.h 1).1 (j.h 1).2 r.2.first, bx rV 52 b4 (bptr b3 0), bx rB 4 b2 r.1.2.1, bx (rI .i64) 3 b1 r.1.2.2.1], fun sg => [bx (rI .i64) 3 b1 (IntKind.i64.wrap ((l.Nodes.length : Int) - (1 : Int))), bx rV 52 b (bptr b3 0), dfb bd, bx (rH rpDchecker [(1, oslV (j.h 0).1 (j.h 0).2 r.2.kinds.length), (2, oslV (j.h 1).1 (j.h 1).2 r.2.first.length)]) 58 b3 r.2, tip (rSl (rI .i64)) 25 (j.h 0).1 (j.h 0).2 r.2.kinds, tip (rI .i64) 3 (j.h 1).1 (j.h 1).2 r.2.first, bx rV 52 b4 (bptr b3 0), bx rB 4 b2 r.1.2.1]] rfl mixed rfl rfl rfl rfl rfl
        ⟨⟨[⟨5, fun _ => tV (bptr b4 0), none⟩], _, 0, 0, rfl, ⟨(fun _ => rfl), trivial⟩, rfl, rfl, rfl, rfl, rfl, win1 (fun sg => OpG.plain rfl (ok_loadW ti52 (.tail _ (.tail _ (.tail _ (.tail _ (.head _))))) (ht rfl)))⟩,
        ⟨⟨[⟨6, fun _ => tD (rI .i64) (l.Nodes.length : Int), none⟩], _, 0, 1, rfl, ⟨(fun _ => rfl), trivial⟩, rfl, rfl, rfl, rfl, rfl, fun _ sg _ _ => OpG.plain rfl (ok_move (ht rfl))⟩,
        ⟨⟨[⟨31, fun _ => tD (rI .i64) (l.Nodes.length : Int), some 1⟩], _, 0, 1, rfl, ⟨(fun _ => rfl), trivial⟩, rfl, rfl, rfl, rfl, rfl, fun _ sg _ _ => OpG.plain rfl (ok_sub (ht rfl) hI)⟩,
        ⟨⟨[⟨5, fun _ => tV (bptr b4 0), none⟩], _, 0, 2, rfl, ⟨(fun _ => rfl), trivial⟩, rfl, rfl, rfl, rfl, rfl, winS (fun sg => OpG.plain rfl (ok_loadW ti52 (.tail _ (.tail _ (.tail _ (.tail _ (.head _))))) (ht rfl))) (winS (fun sg => OpG.plain rfl (ok_loadW ti52 (.tail _ (.tail _ (.tail _ (.tail _ (.tail _ (.head _)))))) (ht rfl))) (win1 (fun sg => OpG.plain rfl (ok_loadW ti52 (.tail _ (.tail _ (.tail _ (.tail _ (.tail _ (.tail _ (.head _))))))) (ht rfl)))))⟩,
        ⟨⟨[⟨33, fun _ => tV (bptr b3 0), some 3⟩], _, 0, 2, rfl, ⟨(fun _ => rfl), trivial⟩, rfl, rfl, rfl, rfl, rfl, fun _ sg _ _ => OpG.plain rfl (ok_nilB (ht rfl))⟩,
        ⟨⟨[⟨34, fun _ => tV (bptr b3 0), some 4⟩], _, 0, 2, rfl, ⟨(fun _ => rfl), trivial⟩, rfl, rfl, rfl, rfl, rfl, fun _ sg _ _ => OpG.plain rfl (ok_fieldAddrC (n := 2) fd58_2 rfl (ht rfl) rfl)⟩,
        ⟨⟨[⟨35, fun _ => tV (bptr b3 2), some 5⟩], _, 0, 2, rfl, ⟨(fun _ => rfl), trivial⟩, rfl, rfl, rfl, rfl, rfl, winS (fun sg => OpG.plain rfl (ok_loadT ti25 rfl (.tail _ (.head _)) (.tail _ (.tail _ (.tail _ (.head _)))) (ht rfl))) (winS (fun sg => OpG.plain rfl (ok_loadT ti25 rfl (.tail _ (.tail _ (.head _))) (.tail _ (.tail _ (.tail _ (.tail _ (.head _))))) (ht rfl))) (win1 (fun sg => OpG.plain rfl (ok_loadT ti25 rfl (.tail _ (.tail _ (.tail _ (.head _)))) (.tail _ (.tail _ (.tail _ (.tail _ (.tail _ (.head _)))))) (ht rfl)))))⟩,
        ⟨⟨[⟨6, fun _ => tD (rI .i64) (l.Nodes.length : Int), none⟩], _, 0, 2, rfl, ⟨(fun _ => rfl), trivial⟩, rfl, rfl, rfl, rfl, rfl, fun _ sg _ _ => OpG.plain rfl (ok_move (ht rfl))⟩,
        ⟨⟨[⟨37, fun _ => tD (rI .i64) (l.Nodes.length : Int), some 7⟩], _, 0, 2, rfl, ⟨(fun _ => rfl), trivial⟩, rfl, rfl, rfl, rfl, rfl, fun _ sg _ _ => OpG.plain rfl (ok_sub (ht rfl) hI)⟩,
        ⟨⟨[⟨36, fun _ => tO (rI .i64) (j.h 1).1 (j.h 1).2 r.2.first, some 6⟩, ⟨38, fun _ => tD (rI .i64) (IntKind.i64.wrap ((l.Nodes.length : Int) - (1 : Int))), some 8⟩], _, 0, 2, rfl, ⟨(fun _ => rfl), (fun _ => rfl), trivial⟩, rfl, rfl, rfl, rfl, rfl, fun _ sg _ _ => OpG.plain rfl (ok_indexAddr Try.underlying25 ti3 rfl (tO_d (ht rfl)) (ht rfl) q_e)⟩,
        ⟨⟨[⟨39, fun _ => tPtr (rI .i64) e, some 9⟩], _, 0, 2, rfl, ⟨(fun _ => rfl), trivial⟩, rfl, rfl, rfl, rfl, rfl, fun _ sg _ _ => OpG.plain rfl (ok_load ti3 rfl rfl (ht rfl))⟩,
        ⟨⟨[⟨40, fun _ => tD (rI .i64) e, some 10⟩], _, 0, 2, rfl, ⟨(fun _ => rfl), trivial⟩, rfl, rfl, rfl, rfl, rfl, fun _ sg _ _ => OpG.plain rfl (ok_eqlI (ht rfl) hI)⟩,
        ⟨⟨[⟨2, fun _ => tV (bptr b 0), none⟩, ⟨30, fun _ => tV (bptr b3 0), some 0⟩], _, rfl, ⟨(fun _ => rfl), (fun _ => rfl), trivial⟩, rfl, rfl, rfl, fun sg => EffG.plain rfl (EffOK.fr7 (eff_storeX ti52 rfl (sfx_of sfld_whole) rfl (ht rfl) (hW (ht rfl) rfl)))⟩,
        ⟨⟨[⟨3, fun _ => tV (bptr b1 0), none⟩, ⟨32, fun _ => tD (rI .i64) (IntKind.i64.wrap ((l.Nodes.length : Int) - (1 : Int))), some 2⟩], _, rfl, ⟨(fun _ => rfl), (fun _ => rfl), trivial⟩, rfl, rfl, rfl, fun sg => EffG.plain rfl (EffOK.fr7 (eff_storeX ti3 rfl (sfx_of sfld_whole) rfl (ht rfl) (ht rfl)))⟩,
        trivial⟩⟩⟩⟩⟩⟩⟩⟩⟩⟩⟩⟩⟩⟩ (fun sg => ?_)
      refine (show RG _ _ _ _ [bx (rI .i64) 3 b1 (IntKind.i64.wrap ((l.Nodes.length : Int) - (1 : Int))), bx rV 52 b (bptr b3 0), dfb bd, bx (rH rpDchecker [(1, oslV (j.h 0).1 (j.h 0).2 r.2.kinds.length), (2, oslV (j.h 1).1 (j.h 1).2 r.2.first.length)]) 58 b3 r.2, tip (rSl (rI .i64)) 25 (j.h 0).1 (j.h 0).2 r.2.kinds, tip (rI .i64) 3 (j.h 1).1 (j.h 1).2 r.2.first, bx rV 52 b4 (bptr b3 0), bx rB 4 b2 r.1.2.1] _ from ?_)
      refine RG.front7 ?_
      refine RG.storeB ti4 rfl sfld_whole rfl (ht rfl) (ht rfl) ?_
      refine RG.nil ?_
      refine AT.next ?_
      refine CG.ret ?_
      refine AT.front4 ?_
      refine AT.bxData ?_
      refine AT.settleP 11 rfl ?_
      refine AT.front2 ?_
      refine AT.settleB 2 rfl ?_
      refine AT.front1 ?_
      refine AT.settleB 3 rfl ?_
      refine AT.settleB 4 rfl ?_
      refine AT.front1 ?_
      refine AT.drop ?_
      refine AT.front1 ?_
      refine AT.drop ?_
      refine AT.front1 ?_
      refine AT.drop ?_
      refine AT.shut ?_
      refine AT.shut0 ?_
      cases so h
      exact AT.retL (ts := [tPtr rpDchecker r.2, tD (rI .i64) (IntKind.i64.wrap ((l.Nodes.length : Int) - (1 : Int))), tD rB (e == (0 : Int))]) (rvs := [.cell 2 52, .cell 3 3, .cell 4 4]) rfl rfl ⟨res_place (j := 11) ti52 rfl rfl, res_cell ti3 rfl rfl rfl, res_cell ti4 rfl rfl rfl, trivial⟩
    · skip
      obtain ⟨x5, x6, p2⟩ := i2
      obtain rfl : x5 = r.1.2.1 := congrArg (fun q : Bool × Int × Bool => q.1) hi
      obtain rfl : x6 = r.1.2.2.1 := congrArg (fun q : Bool × Int × Bool => q.2.1) hi
      obtain rfl : p2 = r.1.2.2.2 := congrArg (fun q : Bool × Int × Bool => q.2.2) hi
      have h := cf h (by rw [hj]; rfl)
      refine (show CG _ _ _ [dfb bd, bx (rH rpDchecker [(1, oslV (j.h 0).1 (j.h 0).2 r.2.kinds.length), (2, oslV (j.h 1).1 (j.h 1).2 r.2.first.length)]) 58 b3 r.2, tip (rSl (rI .i64)) 25 (j.h 0).1 (j.h 0).2 r.2.kinds, tip (rI .i64) 3 (j.h 1).1 (j.h 1).2 r.2.first, bx rV 52 b4 (bptr b3 0), bx rB 4 b2 r.1.2.1, bx (rI .i64) 3 b1 r.1.2.2.1, bx rV 52 b (bif r.1.2.2.2 then bptr b3 0 else .pointer none)] _ from ?_)
      refine CG.sub (G' := [(0, tD rpDLogic l), (1, tPtr rpDLogic l), (2, tV (bptr b 0)), (3, tV (bptr b1 0)), (4, tV (bptr b2 0)), (5, tV (bptr b4 0)), (6, tD (rI .i64) (l.Nodes.length : Int)), (9, tD rpDLogic l), (10, tD (rH rpDchecker [(1, .slice none 0 0), (2, .slice none 0 0)]) (⟨l, [], []⟩ : Dchecker)), (11, tV (bptr b3 0)), (12, tPtr (rSl rpDLNode) l.Nodes), (13, tD (rSl rpDLNode) l.Nodes), (14, tD (rI .i64) (l.Nodes.length : Int)), (15, tD (rI .i64) (l.Nodes.length : Int)), (16, tD rB (decide ((l.Nodes.length : Int) < (1 : Int)))), (17, tD rB (decide ((l.Nodes.length : Int) < (1 : Int)))), (18, tOpt (!(decide ((l.Nodes.length : Int) < (1 : Int)))) (tD (rI .i64) (l.Nodes.length : Int))), (19, tOpt (!(decide ((l.Nodes.length : Int) < (1 : Int)))) (tD rB (decide ((60 : Int) < (l.Nodes.length : Int))))), (20, tD rB ((decide ((l.Nodes.length : Int) < (1 : Int))) || (decide ((60 : Int) < (l.Nodes.length : Int))))), (22, tV (bptr b3 0))]) ?_ ⟨rfl, rfl, rfl, rfl, rfl, rfl, rfl, rfl, rfl, rfl, rfl, rfl, rfl, rfl, rfl, rfl, rfl, rfl, rfl, rfl, trivial⟩
      refine CG.ret ?_
      refine AT.in_ret (AT.then_ret ?_)
      obtain ⟨u, q_u, h⟩ := bs h
      refine AT.castO (O' := [dfb bd, bx (rH rpDchecker [(1, oslV (j.h 0).1 (j.h 0).2 r.2.kinds.length), (2, oslV (j.h 1).1 (j.h 1).2 r.2.first.length)]) 58 b3 r.2, tip (rSl (rI .i64)) 25 (j.h 0).1 (j.h 0).2 r.2.kinds, tip (rI .i64) 3 (j.h 1).1 (j.h 1).2 r.2.first, bx rV 52 b4 (bptr b3 0), bx rB 4 b2 r.1.2.1, bx (rI .i64) 3 b1 r.1.2.2.1, bx rV 52 b (bptr b3 0)]) (by rw [show r.1.2.2.2 = true from isT_some q_u]; rfl) ?_
      refine AT.front1 ?_
      refine AT.bxData ?_
      refine AT.settleP 11 rfl ?_
      refine AT.front6 ?_
      refine AT.settleB 2 rfl ?_
      refine AT.front5 ?_
      refine AT.settleB 3 rfl ?_
      refine AT.front4 ?_
      refine AT.settleB 4 rfl ?_
      refine AT.front1 ?_
      refine AT.drop ?_
      refine AT.front1 ?_
      refine AT.drop ?_
      refine AT.front1 ?_
      refine AT.drop ?_
      refine AT.shut ?_
      refine AT.shut0 ?_
      cases so h
      exact AT.retL (ts := [tPtr rpDchecker r.2, tD (rI .i64) r.1.2.2.1, tD rB r.1.2.1]) (rvs := [.cell 2 52, .cell 3 3, .cell 4 4]) rfl rfl ⟨res_place (j := 11) ti52 rfl rfl, res_cell ti3 rfl rfl rfl, res_cell ti4 rfl rfl rfl, trivial⟩

set_option maxRecDepth 100000 in
theorem f9_ok (l : DLogic) {R : (List Int) × Int} (h : logic_Kinds l = some R) : Spec Try.prog 9 [tD rpDLogic l] (tT [tD (rSl (rI .i64)) R.1, tD (rI .i64) R.2]) := by
  refine Spec.of Try.func9 rfl rfl rfl fun w0 S0 => ?_
  refine CG.seq ?_
  refine CG.region ?_
  refine RG.op (ok_box (ht rfl)) rfl ?_
  refine RG.op (ok_assign (show HasTy _ _ _ (tD (rSl (rI .i64)) ([])) from hNil)) rfl ?_
  refine RG.op (ok_assign hI) rfl ?_
  refine RG.nil ?_
  refine AT.next ?_
  refine CG.seq ?_
  refine CG.region ?_
  refine RG.op (ok_load ti24 rfl rfl (ht rfl)) rfl ?_
  obtain ⟨r, q_r, h⟩ := bs h
  refine RG.op (ok_call cb18 (f18_ok _ q_r) ⟨(ht rfl), trivial⟩) rfl ?_
  refine RG.op (ok_move (ht rfl)) rfl ?_
  refine RG.op (ok_extract rfl (ht rfl)) rfl ?_
  refine RG.op (ok_extract rfl (ht rfl)) rfl ?_
  refine RG.op (ok_extract rfl (ht rfl)) rfl ?_
  refine RG.op (ok_assign (ht rfl)) rfl ?_
  refine RG.op (ok_assign (ht rfl)) rfl ?_
  refine RG.op (ok_assign (ht rfl)) rfl ?_
  refine RG.nil ?_
  refine AT.next ?_
  refine CG.seq ?_
  refine CG.seq ?_
  refine CG.region ?_
  refine RG.op (ok_move (ht rfl)) rfl ?_
  refine RG.op (ok_not (ht rfl)) rfl ?_
  refine RG.nil ?_
  refine AT.next ?_
  refine CG.cond (ht rfl) (fun hc => ?_) (fun hc => ?_)
  · have h := ct h hc
    refine CG.seq ?_
    refine CG.region ?_
    refine RG.op (ok_assign (show HasTy _ _ _ (tD (rSl (rI .i64)) ([])) from hNil)) rfl ?_
    refine RG.op (ok_assign hI) rfl ?_
    refine RG.nil ?_
    refine AT.next ?_
    refine CG.ret ?_
    refine AT.then_ret ?_
    cases so h
    exact AT.ret2 rfl rfl rfl
  · have h := cf h hc
    refine CG.skip ?_
    refine AT.next ?_
    refine CG.seq ?_
    refine CG.region ?_
    refine RG.op (ok_move (ht rfl)) rfl ?_
    refine RG.op (ok_nilP (ht rfl)) rfl ?_
    refine RG.op (ok_fieldAddr fd58_1 rfl flDchecker_1 rfl (ht rfl)) rfl ?_
    refine RG.op (ok_load ti56 rfl rfl (ht rfl)) rfl ?_
    refine RG.op (ok_move (ht rfl)) rfl ?_
    obtain ⟨e, q_e, h⟩ := bs h
    refine RG.op (ok_indexAddr Try.underlying56 ti25 rfl (ht rfl) (ht rfl) q_e) rfl ?_
    refine RG.op (ok_load ti25 rfl rfl (ht rfl)) rfl ?_
    obtain ⟨r1, q_r1, h⟩ := bs h
    refine RG.callO cb19 (f19_own _ q_r1) ⟨(ht rfl), trivial⟩ rfl (fun l1 c => ?_)
    refine RG.op (ok_assign (ht rfl)) rfl ?_
    refine RG.op (ok_assign hI) rfl ?_
    refine RG.nil ?_
    refine AT.next ?_
    refine CG.ret ?_
    refine AT.freeze ?_
    refine AT.tipAt 2 rfl ?_
    refine AT.tipAt 22 rfl ?_
    refine AT.dataAt 2 rfl ?_
    refine AT.drop ?_
    cases so h
    exact AT.ret2 rfl rfl rfl

set_option maxRecDepth 100000 in
theorem f21_ok (l : DLogic) {R : Int × Int} (h : logic_Check l = some R) : Spec Try.prog 21 [tD rpDLogic l] (tT [tD (rI .i64) R.1, tD (rI .i64) R.2]) := by
  refine Spec.of Try.func21 rfl rfl rfl fun w0 S0 => ?_
  refine CG.seq ?_
  refine CG.region ?_
  refine RG.op (ok_box (ht rfl)) rfl ?_
  refine RG.op (ok_assign hI) rfl ?_
  refine RG.op (ok_assign hI) rfl ?_
  refine RG.nil ?_
  refine AT.next ?_
  refine CG.seq ?_
  refine CG.region ?_
  refine RG.op (ok_load ti24 rfl rfl (ht rfl)) rfl ?_
  obtain ⟨r, q_r, h⟩ := bs h
  refine RG.op (ok_call cb18 (f18_ok _ q_r) ⟨(ht rfl), trivial⟩) rfl ?_
  refine RG.op (ok_move (ht rfl)) rfl ?_
  refine RG.op (ok_extract rfl (ht rfl)) rfl ?_
  refine RG.op (ok_extract rfl (ht rfl)) rfl ?_
  refine RG.op (ok_extract rfl (ht rfl)) rfl ?_
  refine RG.op (ok_assign (ht rfl)) rfl ?_
  refine RG.op (ok_assign (ht rfl)) rfl ?_
  refine RG.op (ok_assign (ht rfl)) rfl ?_
  refine RG.nil ?_
  refine AT.next ?_
  refine CG.seq ?_
  refine CG.seq ?_
  refine CG.region ?_
  refine RG.op (ok_move (ht rfl)) rfl ?_
  refine RG.op (ok_not (ht rfl)) rfl ?_
  refine RG.nil ?_
  refine AT.next ?_
  refine CG.cond (ht rfl) (fun hc => ?_) (fun hc => ?_)
  · have h := ct h hc
    refine CG.seq ?_
    refine CG.region ?_
    refine RG.op (ok_move (ht rfl)) rfl ?_
    refine RG.op (ok_assign (ht rfl)) rfl ?_
    refine RG.op (ok_assign hI) rfl ?_
    refine RG.nil ?_
    refine AT.next ?_
    refine CG.ret ?_
    refine AT.then_ret ?_
    cases so h
    exact AT.ret2 rfl rfl rfl
  · have h := cf h hc
    refine CG.skip ?_
    refine AT.next ?_
    refine CG.seq ?_
    refine CG.region ?_
    refine RG.op (ok_assign hI) rfl ?_
    refine RG.op (ok_assign hI) rfl ?_
    refine RG.nil ?_
    refine AT.next ?_
    refine CG.ret ?_
    cases so h
    exact AT.ret2 rfl rfl rfl

set_option maxRecDepth 100000 in
theorem f51_own (s : (List DOrd)) {R : (List DOrd)} (h : slices_Clone_api_Ord_api_Ord s = some R) : SpecO Try.prog 51 [tD (rSl rpDOrd) s] false rpDOrd 95 R := by
  refine SpecO.of Try.func51 rfl rfl rfl fun w0 S0 => ?_
  refine CG.seq ?_
  refine CG.region ?_
  refine RG.fresh false rpDOrd 95 ?_
  refine RG.op (ok_assign hVn) rfl ?_
  refine RG.nil ?_
  refine AT.next ?_
  refine CG.seq ?_
  refine CG.seq ?_
  refine CG.region ?_
  refine RG.op (ok_move (ht rfl)) rfl ?_
  refine RG.isNil Try.underlying31 (ht rfl) rfl (fun isnil hisnil => ?_)
  refine RG.nil ?_
  refine AT.next ?_
  refine CG.cond (ht rfl) (fun hc => ?_) (fun hc => ?_)
  · have hx := hisnil hc
    have h : some ([] : List DOrd) = some R := by simpa [slices_Clone_api_Ord_api_Ord, app, hx] using h
    refine CG.seq ?_
    refine CG.region ?_
    refine RG.fresh false rpDOrd 95 ?_
    refine RG.op (ok_assign hVn) rfl ?_
    refine RG.nil ?_
    refine AT.next ?_
    refine CG.ret ?_
    refine AT.then_ret ?_
    cases so h
    exact AT.retO rfl rfl
  · refine CG.skip ?_
    refine AT.next ?_
    refine CG.seq ?_
    refine CG.region ?_
    refine RG.buildOwn (r := rpDOrd) (ys := ([] : List DOrd)) (xs := []) Try.underlying31 ti95 rfl rfl rfl rfl rfl trivial rfl (fun l c => ?_)
    refine RG.op (ok_move (ht rfl)) rfl ?_
    obtain ⟨x, q_x, h⟩ := bs h
    refine RG.append ti95 rfl rfl rfl rfl Try.underlying31 rfl rfl (ht rfl) (ht rfl) q_x (fun l1 c1 => ?_)
    refine RG.op (ok_assign (ht rfl)) rfl ?_
    refine RG.nil ?_
    refine AT.next ?_
    refine CG.ret ?_
    cases so h
    exact AT.retO rfl rfl
theorem f51_ok (s : (List DOrd)) {R : (List DOrd)} (h : slices_Clone_api_Ord_api_Ord s = some R) : Spec Try.prog 51 [tD (rSl rpDOrd) s] (tD (rSl rpDOrd) R) := (f51_own _ h).spec

set_option maxRecDepth 100000 in
theorem f52_own (s : (List DENode)) {R : (List DENode)} (h : slices_Clone_api_ENode_api_ENode s = some R) : SpecO Try.prog 52 [tD (rSl rpDENode) s] false rpDENode 64 R := by
  refine SpecO.of Try.func52 rfl rfl rfl fun w0 S0 => ?_
  refine CG.seq ?_
  refine CG.region ?_
  refine RG.fresh false rpDENode 64 ?_
  refine RG.op (ok_assign hVn) rfl ?_
  refine RG.nil ?_
  refine AT.next ?_
  refine CG.seq ?_
  refine CG.seq ?_
  refine CG.region ?_
  refine RG.op (ok_move (ht rfl)) rfl ?_
  refine RG.isNil Try.underlying26 (ht rfl) rfl (fun isnil hisnil => ?_)
  refine RG.nil ?_
  refine AT.next ?_
  refine CG.cond (ht rfl) (fun hc => ?_) (fun hc => ?_)
  · have hx := hisnil hc
    have h : some ([] : List DENode) = some R := by simpa [slices_Clone_api_ENode_api_ENode, app, hx] using h
    refine CG.seq ?_
    refine CG.region ?_
    refine RG.fresh false rpDENode 64 ?_
    refine RG.op (ok_assign hVn) rfl ?_
    refine RG.nil ?_
    refine AT.next ?_
    refine CG.ret ?_
    refine AT.then_ret ?_
    cases so h
    exact AT.retO rfl rfl
  · refine CG.skip ?_
    refine AT.next ?_
    refine CG.seq ?_
    refine CG.region ?_
    refine RG.buildOwn (r := rpDENode) (ys := ([] : List DENode)) (xs := []) Try.underlying26 ti64 rfl rfl rfl rfl rfl trivial rfl (fun l c => ?_)
    refine RG.op (ok_move (ht rfl)) rfl ?_
    obtain ⟨x, q_x, h⟩ := bs h
    refine RG.append ti64 rfl rfl rfl rfl Try.underlying26 rfl rfl (ht rfl) (ht rfl) q_x (fun l1 c1 => ?_)
    refine RG.op (ok_assign (ht rfl)) rfl ?_
    refine RG.nil ?_
    refine AT.next ?_
    refine CG.ret ?_
    cases so h
    exact AT.retO rfl rfl
theorem f52_ok (s : (List DENode)) {R : (List DENode)} (h : slices_Clone_api_ENode_api_ENode s = some R) : Spec Try.prog 52 [tD (rSl rpDENode) s] (tD (rSl rpDENode) R) := (f52_own _ h).spec

set_option maxRecDepth 100000 in
theorem f53_own (s : (List DAgg)) {R : (List DAgg)} (h : slices_Clone_api_Agg_api_Agg s = some R) : SpecO Try.prog 53 [tD (rSl rpDAgg) s] false rpDAgg 51 R := by
  refine SpecO.of Try.func53 rfl rfl rfl fun w0 S0 => ?_
  refine CG.seq ?_
  refine CG.region ?_
  refine RG.fresh false rpDAgg 51 ?_
  refine RG.op (ok_assign hVn) rfl ?_
  refine RG.nil ?_
  refine AT.next ?_
  refine CG.seq ?_
  refine CG.seq ?_
  refine CG.region ?_
  refine RG.op (ok_move (ht rfl)) rfl ?_
  refine RG.isNil Try.underlying29 (ht rfl) rfl (fun isnil hisnil => ?_)
  refine RG.nil ?_
  refine AT.next ?_
  refine CG.cond (ht rfl) (fun hc => ?_) (fun hc => ?_)
  · have hx := hisnil hc
    have h : some ([] : List DAgg) = some R := by simpa [slices_Clone_api_Agg_api_Agg, app, hx] using h
    refine CG.seq ?_
    refine CG.region ?_
    refine RG.fresh false rpDAgg 51 ?_
    refine RG.op (ok_assign hVn) rfl ?_
    refine RG.nil ?_
    refine AT.next ?_
    refine CG.ret ?_
    refine AT.then_ret ?_
    cases so h
    exact AT.retO rfl rfl
  · refine CG.skip ?_
    refine AT.next ?_
    refine CG.seq ?_
    refine CG.region ?_
    refine RG.buildOwn (r := rpDAgg) (ys := ([] : List DAgg)) (xs := []) Try.underlying29 ti51 rfl rfl rfl rfl rfl trivial rfl (fun l c => ?_)
    refine RG.op (ok_move (ht rfl)) rfl ?_
    obtain ⟨x, q_x, h⟩ := bs h
    refine RG.append ti51 rfl rfl rfl rfl Try.underlying29 rfl rfl (ht rfl) (ht rfl) q_x (fun l1 c1 => ?_)
    refine RG.op (ok_assign (ht rfl)) rfl ?_
    refine RG.nil ?_
    refine AT.next ?_
    refine CG.ret ?_
    cases so h
    exact AT.retO rfl rfl
set_option maxRecDepth 100000 in
theorem f54_own (s : (List DExpr)) {R : (List DExpr)} (h : slices_Clone_api_Expr_api_Expr s = some R) : SpecO Try.prog 54 [tD (rSl rpDExpr) s] false rpDExpr 28 R := by
  refine SpecO.of Try.func54 rfl rfl rfl fun w0 S0 => ?_
  refine CG.seq ?_
  refine CG.region ?_
  refine RG.fresh false rpDExpr 28 ?_
  refine RG.op (ok_assign hVn) rfl ?_
  refine RG.nil ?_
  refine AT.next ?_
  refine CG.seq ?_
  refine CG.seq ?_
  refine CG.region ?_
  refine RG.op (ok_move (ht rfl)) rfl ?_
  refine RG.isNil Try.underlying30 (ht rfl) rfl (fun isnil hisnil => ?_)
  refine RG.nil ?_
  refine AT.next ?_
  refine CG.cond (ht rfl) (fun hc => ?_) (fun hc => ?_)
  · have hx := hisnil hc
    have h : some ([] : List DExpr) = some R := by simpa [slices_Clone_api_Expr_api_Expr, app, hx] using h
    refine CG.seq ?_
    refine CG.region ?_
    refine RG.fresh false rpDExpr 28 ?_
    refine RG.op (ok_assign hVn) rfl ?_
    refine RG.nil ?_
    refine AT.next ?_
    refine CG.ret ?_
    refine AT.then_ret ?_
    cases so h
    exact AT.retO rfl rfl
  · refine CG.skip ?_
    refine AT.next ?_
    refine CG.seq ?_
    refine CG.region ?_
    refine RG.buildOwn (r := rpDExpr) (ys := ([] : List DExpr)) (xs := []) Try.underlying30 ti28 rfl rfl rfl rfl rfl trivial rfl (fun l c => ?_)
    refine RG.op (ok_move (ht rfl)) rfl ?_
    obtain ⟨x, q_x, h⟩ := bs h
    refine RG.append ti28 rfl rfl rfl rfl Try.underlying30 rfl rfl (ht rfl) (ht rfl) q_x (fun l1 c1 => ?_)
    refine RG.op (ok_assign (ht rfl)) rfl ?_
    refine RG.nil ?_
    refine AT.next ?_
    refine CG.ret ?_
    cases so h
    exact AT.retO rfl rfl
set_option maxRecDepth 100000 in
theorem f30_ok (n : DLNode) (by1 : Int) {R : DLNode} (h : logic_copied n by1 = some R) : Spec Try.prog 30 [tD rpDLNode n, tD (rI .i64) by1] (tD rpDLNode R) := by
  refine Spec.of Try.func30 rfl rfl rfl fun w0 S0 => ?_
  refine CG.seq ?_
  refine CG.region ?_
  refine RG.boxO (ht rfl) rfl (fun b => ?_)
  refine RG.alloc (r := rpDLNode) (x := (⟨(0 : Int), (0 : Int), (0 : Int), (0 : Int), [], false, (⟨[]⟩ : DExpr), [], [], [], [], (0 : Int)⟩ : DLNode)) ti33 (fun _ => zrDLNode _) rfl (fun b1 => ?_)
  refine RG.nil ?_
  refine AT.next ?_
  refine CG.sjoin1 (Z := fun n1 => logic_copied_k1 by1 n1 = some R) (Of := fun n1 => [bx rpDLNode 33 b n1, bx rpDLNode 33 b1 (⟨(0 : Int), (0 : Int), (0 : Int), (0 : Int), [], false, (⟨[]⟩ : DExpr), [], [], [], [], (0 : Int)⟩ : DLNode)]) (Gf := fun n1 => [(1, tD (rI .i64) by1), (2, tV (bptr b 0)), (4, tV (bptr b1 0))]) (fun n1 h => ?_) (fun K => ?_)
  · skip
    refine CG.sjoin1 (Z := fun n2 => logic_copied_k2 n2 = some R) (Of := fun n2 => [bx rpDLNode 33 b n2, bx rpDLNode 33 b1 (⟨(0 : Int), (0 : Int), (0 : Int), (0 : Int), [], false, (⟨[]⟩ : DExpr), [], [], [], [], (0 : Int)⟩ : DLNode)]) (Gf := fun n2 => [(2, tV (bptr b 0)), (4, tV (bptr b1 0))]) (fun n2 h => ?_) (fun K1 => ?_)
    · skip
      refine CG.seq ?_
      obtain ⟨r, q_r, h⟩ := bs h
      obtain ⟨r1, q_r1, h⟩ := bs h
      obtain ⟨r2, q_r2, h⟩ := bs h
      refine CG.drawM 10 (ts := [tV (bptr b 4), tD (rSl (rI .i64)) n2.Kinds, tD (rSl (rI .i64)) r, tV (bptr b 7), tD (rSl (rI .i64)) n2.Keys, tD (rSl (rI .i64)) r1, tV (bptr b 10), tD (rSl rpDOrd) n2.Order, tD (rSl rpDOrd) r2, tV (bptr b 4)]) mixed rfl rfl rfl
        ⟨⟨[⟨2, _, none⟩], _, rfl, ⟨rfl, trivial⟩, rfl, rfl, OpG.plain rfl (ok_fieldAddrC (n := 4) fd33_4 rfl (ht rfl) rfl)⟩,
        ⟨⟨[⟨23, _, some 0⟩], _, rfl, ⟨rfl, trivial⟩, rfl, rfl, OpG.plain rfl (ok_loadB ti25 rfl rfl flDLNode_4 (.head _) (ht rfl))⟩,
        ⟨⟨[⟨24, _, some 1⟩], _, rfl, ⟨rfl, trivial⟩, rfl, rfl, OpG.plain rfl (ok_call cb19 (f19_ok _ q_r) ⟨(ht rfl), trivial⟩)⟩,
        ⟨⟨[⟨2, _, none⟩], _, rfl, ⟨rfl, trivial⟩, rfl, rfl, OpG.plain rfl (ok_fieldAddrC (n := 7) fd33_7 rfl (ht rfl) rfl)⟩,
        ⟨⟨[⟨26, _, some 3⟩], _, rfl, ⟨rfl, trivial⟩, rfl, rfl, OpG.plain rfl (ok_loadB ti25 rfl rfl flDLNode_7 (.head _) (ht rfl))⟩,
        ⟨⟨[⟨27, _, some 4⟩], _, rfl, ⟨rfl, trivial⟩, rfl, rfl, OpG.plain rfl (ok_call cb19 (f19_ok _ q_r1) ⟨(ht rfl), trivial⟩)⟩,
        ⟨⟨[⟨2, _, none⟩], _, rfl, ⟨rfl, trivial⟩, rfl, rfl, OpG.plain rfl (ok_fieldAddrC (n := 10) fd33_10 rfl (ht rfl) rfl)⟩,
        ⟨⟨[⟨29, _, some 6⟩], _, rfl, ⟨rfl, trivial⟩, rfl, rfl, OpG.plain rfl (ok_loadB ti31 rfl rfl flDLNode_10 (.head _) (ht rfl))⟩,
        ⟨⟨[⟨30, _, some 7⟩], _, rfl, ⟨rfl, trivial⟩, rfl, rfl, OpG.plain rfl (ok_call cb51 (f51_ok _ q_r2) ⟨(ht rfl), trivial⟩)⟩,
        ⟨⟨[⟨2, _, none⟩], _, rfl, ⟨rfl, trivial⟩, rfl, rfl, OpG.plain rfl (ok_fieldAddrC (n := 4) fd33_4 rfl (ht rfl) rfl)⟩,
        trivial⟩⟩⟩⟩⟩⟩⟩⟩⟩⟩ ?_
      refine RG.storeB ti25 rfl sfDLNode_4 rfl (ht rfl) (ht rfl) ?_
      refine RG.op (ok_fieldAddrC (n := 7) fd33_7 rfl (ht rfl) rfl) rfl ?_
      refine RG.storeB ti25 rfl sfDLNode_7 rfl (ht rfl) (ht rfl) ?_
      refine RG.op (ok_fieldAddrC (n := 10) fd33_10 rfl (ht rfl) rfl) rfl ?_
      refine RG.storeB ti31 rfl sfDLNode_10 rfl (ht rfl) (ht rfl) ?_
      refine RG.nil ?_
      refine AT.next ?_
      refine CG.seq ?_
      refine CG.region ?_
      refine RG.op (ok_fieldAddrC (n := 6) fd33_6 rfl (ht rfl) rfl) rfl ?_
      refine RG.op (ok_fieldAddrC (n := 6) fd28_0 rfl (ht rfl) rfl) rfl ?_
      refine RG.op (ok_loadB ti26 rfl rfl (fld_comp flDLNode_6 flDExpr_0) (.head _) (ht rfl)) rfl ?_
      obtain ⟨r3, q_r3, h⟩ := bs h
      refine RG.callO cb52 (f52_own _ q_r3) ⟨(ht rfl), trivial⟩ rfl (fun l c => ?_)
      refine RG.op (ok_fieldAddrC (n := 6) fd33_6 rfl (ht rfl) rfl) rfl ?_
      refine RG.op (ok_fieldAddrC (n := 6) fd28_0 rfl (ht rfl) rfl) rfl ?_
      refine RG.freeze ?_
      refine RG.tipAt 38 rfl ?_
      refine RG.front1 ?_
      refine RG.storeB ti26 rfl (sfld_comp flDLNode_6 sfDLNode_6 sfDExpr_0) rfl (ht rfl) (tO_d (ht rfl)) ?_
      refine RG.nil ?_
      refine AT.next ?_
      refine CG.seq ?_
      obtain ⟨r4, q_r4, h⟩ := bs h
      obtain ⟨r5, q_r5, h⟩ := bs h
      refine CG.drawS 7 [tc (tV (bptr b 8)), tc (tD (rSl rpDAgg) (({ (DLNode.mk n2.Op n2.A n2.B n2.Table r n2.Left n2.Cond r1 n2.Aggs n2.Items r2 n2.Limit) with Cond := ({ (DLNode.mk n2.Op n2.A n2.B n2.Table r n2.Left n2.Cond r1 n2.Aggs n2.Items r2 n2.Limit).Cond with Nodes := r3 } : DExpr) } : DLNode).Aggs)), ([2], fun s => tV (oslV ((s.getD 0 zoi).h 0).1 ((s.getD 0 zoi).h 0).2 r4.length)), tc (tV (bptr b 9)), tc (tD (rSl rpDExpr) (({ (DLNode.mk n2.Op n2.A n2.B n2.Table r n2.Left n2.Cond r1 n2.Aggs n2.Items r2 n2.Limit) with Cond := ({ (DLNode.mk n2.Op n2.A n2.B n2.Table r n2.Left n2.Cond r1 n2.Aggs n2.Items r2 n2.Limit).Cond with Nodes := r3 } : DExpr) } : DLNode).Items)), ([5], fun s => tV (oslV ((s.getD 0 zoi).h 0).1 ((s.getD 0 zoi).h 0).2 r5.length)), tc (tV (bptr b 8))] [false, false, true, false, false, true, false] [fun _ => [bx rpDLNode 33 b ({ (DLNode.mk n2.Op n2.A n2.B n2.Table r n2.Left n2.Cond r1 n2.Aggs n2.Items r2 n2.Limit) with Cond := ({ (DLNode.mk n2.Op n2.A n2.B n2.Table r n2.Left n2.Cond r1 n2.Aggs n2.Items r2 n2.Limit).Cond with Nodes := r3 } : DExpr) } : DLNode), tip rpDENode 64 l c r3, bx rpDLNode 33 b1 (⟨(0 : Int), (0 : Int), (0 : Int), (0 : Int), [], false, (⟨[]⟩ : DExpr), [], [], [], [], (0 : Int)⟩ : DLNode)], fun sg => [arr rpDAgg 51 ((sg 2).h 0).1 ((sg 2).h 0).2 r4, bx rpDLNode 33 b ({ (DLNode.mk n2.Op n2.A n2.B n2.Table r n2.Left n2.Cond r1 n2.Aggs n2.Items r2 n2.Limit) with Cond := ({ (DLNode.mk n2.Op n2.A n2.B n2.Table r n2.Left n2.Cond r1 n2.Aggs n2.Items r2 n2.Limit).Cond with Nodes := r3 } : DExpr) } : DLNode), tip rpDENode 64 l c r3, bx rpDLNode 33 b1 (⟨(0 : Int), (0 : Int), (0 : Int), (0 : Int), [], false, (⟨[]⟩ : DExpr), [], [], [], [], (0 : Int)⟩ : DLNode)], fun sg => [arr rpDExpr 28 ((sg 5).h 0).1 ((sg 5).h 0).2 r5, arr rpDAgg 51 ((sg 2).h 0).1 ((sg 2).h 0).2 r4, bx rpDLNode 33 b ({ (DLNode.mk n2.Op n2.A n2.B n2.Table r n2.Left n2.Cond r1 n2.Aggs n2.Items r2 n2.Limit) with Cond := ({ (DLNode.mk n2.Op n2.A n2.B n2.Table r n2.Left n2.Cond r1 n2.Aggs n2.Items r2 n2.Limit).Cond with Nodes := r3 } : DExpr) } : DLNode), tip rpDENode 64 l c r3, bx rpDLNode 33 b1 (⟨(0 : Int), (0 : Int), (0 : Int), (0 : Int), [], false, (⟨[]⟩ : DExpr), [], [], [], [], (0 : Int)⟩ : DLNode)]] rfl mixed rfl rfl rfl rfl rfl
        ⟨⟨[⟨2, fun _ => tV (bptr b 0), none⟩], _, 0, 0, rfl, ⟨(fun _ => rfl), trivial⟩, rfl, rfl, rfl, rfl, rfl, fun _ sg _ _ => OpG.plain rfl (ok_fieldAddrC (n := 8) fd33_8 rfl (ht rfl) rfl)⟩,
        ⟨⟨[⟨41, fun _ => tV (bptr b 8), some 0⟩], _, 0, 0, rfl, ⟨(fun _ => rfl), trivial⟩, rfl, rfl, rfl, rfl, rfl, win1 (fun sg => OpG.plain rfl (ok_loadB ti29 rfl rfl flDLNode_8 (.head _) (ht rfl)))⟩,
        ⟨⟨[⟨42, fun _ => tD (rSl rpDAgg) (({ (DLNode.mk n2.Op n2.A n2.B n2.Table r n2.Left n2.Cond r1 n2.Aggs n2.Items r2 n2.Limit) with Cond := ({ (DLNode.mk n2.Op n2.A n2.B n2.Table r n2.Left n2.Cond r1 n2.Aggs n2.Items r2 n2.Limit).Cond with Nodes := r3 } : DExpr) } : DLNode).Aggs), some 1⟩], _, rfl, ⟨(fun _ => rfl), trivial⟩, rfl, rfl, rfl, fun sg => EffG.plain rfl (eff_callA (xs := [.tmp 42]) (ts := [tD (rSl rpDAgg) (({ (DLNode.mk n2.Op n2.A n2.B n2.Table r n2.Left n2.Cond r1 n2.Aggs n2.Items r2 n2.Limit) with Cond := ({ (DLNode.mk n2.Op n2.A n2.B n2.Table r n2.Left n2.Cond r1 n2.Aggs n2.Items r2 n2.Limit).Cond with Nodes := r3 } : DExpr) } : DLNode).Aggs)]) cb53 (f53_own _ q_r4) ⟨(ht rfl), trivial⟩)⟩,
        ⟨⟨[⟨2, fun _ => tV (bptr b 0), none⟩], _, 0, 1, rfl, ⟨(fun _ => rfl), trivial⟩, rfl, rfl, rfl, rfl, rfl, fun _ sg _ _ => OpG.plain rfl (ok_fieldAddrC (n := 9) fd33_9 rfl (ht rfl) rfl)⟩,
        ⟨⟨[⟨44, fun _ => tV (bptr b 9), some 3⟩], _, 0, 1, rfl, ⟨(fun _ => rfl), trivial⟩, rfl, rfl, rfl, rfl, rfl, winS (fun sg => OpG.plain rfl (ok_loadB ti30 rfl rfl flDLNode_9 (.head _) (ht rfl))) (win1 (fun sg => OpG.plain rfl (ok_loadB ti30 rfl rfl flDLNode_9 (.tail _ (.head _)) (ht rfl))))⟩,
        ⟨⟨[⟨45, fun _ => tD (rSl rpDExpr) (({ (DLNode.mk n2.Op n2.A n2.B n2.Table r n2.Left n2.Cond r1 n2.Aggs n2.Items r2 n2.Limit) with Cond := ({ (DLNode.mk n2.Op n2.A n2.B n2.Table r n2.Left n2.Cond r1 n2.Aggs n2.Items r2 n2.Limit).Cond with Nodes := r3 } : DExpr) } : DLNode).Items), some 4⟩], _, rfl, ⟨(fun _ => rfl), trivial⟩, rfl, rfl, rfl, fun sg => EffG.plain rfl (eff_callA (xs := [.tmp 45]) (ts := [tD (rSl rpDExpr) (({ (DLNode.mk n2.Op n2.A n2.B n2.Table r n2.Left n2.Cond r1 n2.Aggs n2.Items r2 n2.Limit) with Cond := ({ (DLNode.mk n2.Op n2.A n2.B n2.Table r n2.Left n2.Cond r1 n2.Aggs n2.Items r2 n2.Limit).Cond with Nodes := r3 } : DExpr) } : DLNode).Items)]) cb54 (f54_own _ q_r5) ⟨(ht rfl), trivial⟩)⟩,
        ⟨⟨[⟨2, fun _ => tV (bptr b 0), none⟩], _, 1, 2, rfl, ⟨(fun _ => rfl), trivial⟩, rfl, rfl, rfl, rfl, rfl, fun _ sg _ _ => OpG.plain rfl (ok_fieldAddrC (n := 8) fd33_8 rfl (ht rfl) rfl)⟩,
        trivial⟩⟩⟩⟩⟩⟩⟩ (fun sg => ?_)
      refine (show RG _ _ _ _ [arr rpDExpr 28 ((sg 5).h 0).1 ((sg 5).h 0).2 r5, arr rpDAgg 51 ((sg 2).h 0).1 ((sg 2).h 0).2 r4, bx rpDLNode 33 b ({ (DLNode.mk n2.Op n2.A n2.B n2.Table r n2.Left n2.Cond r1 n2.Aggs n2.Items r2 n2.Limit) with Cond := ({ (DLNode.mk n2.Op n2.A n2.B n2.Table r n2.Left n2.Cond r1 n2.Aggs n2.Items r2 n2.Limit).Cond with Nodes := r3 } : DExpr) } : DLNode), tip rpDENode 64 l c r3, bx rpDLNode 33 b1 (⟨(0 : Int), (0 : Int), (0 : Int), (0 : Int), [], false, (⟨[]⟩ : DExpr), [], [], [], [], (0 : Int)⟩ : DLNode)] _ from ?_)
      refine RG.front2 ?_
      refine RG.storeFX ti29 rfl (sxDLNode_to_8_at_8 _ _) rfl (ht rfl) (hRV (ht rfl)) ?_
      refine RG.op (ok_fieldAddrC (n := 9) fd33_9 rfl (ht rfl) rfl) rfl ?_
      refine RG.storeFX ti30 rfl (sxOLNode_8_to_8_9_at_9 _ _ _) rfl (ht rfl) (hRV (ht rfl)) ?_
      refine RG.nil ?_
      refine AT.next ?_
      refine CG.seq ?_
      refine CG.seq ?_
      refine CG.region ?_
      refine RG.op (ok_fieldAddrC (n := 8) fd33_8 rfl (ht rfl) rfl) rfl ?_
      refine RG.op (ok_loadFV ti29 flOLNode_8_9_8 (.head _) rfl (ht rfl)) rfl ?_
      refine RG.op (ok_lenO Try.underlying29 (.tail _ (.tail _ (.head _))) (ht rfl)) rfl ?_
      refine RG.op (ok_move hI) rfl ?_
      refine RG.nil ?_
      refine AT.next ?_
      refine CG.block ?_
      refine CG.have_lenA (.tail _ (.tail _ (.head _))) (fun hN => ?_)
      refine CG.loop ?_
      refine LG.front3 ?_
      refine LG.drop ?_
      refine LG.front1 ?_
      refine LG.front2 ?_
      refine LG.front2 ?_
      refine LG.front3 ?_
      refine LG.sub (LG.list6 (Z := fun ls i n3 l1 c1 l2 c2 => (r4.drop i = ls) ∧ logic_copied_l1 ls i n3 = some R) (Of := fun _ i n3 l1 c1 l2 c2 => [bx rpDLNode 33 b1 (⟨(0 : Int), (0 : Int), (0 : Int), (0 : Int), [], false, (⟨[]⟩ : DExpr), [], [], [], [], (0 : Int)⟩ : DLNode), bx rpOLNode_8_9 33 b (mkOLNode_8_9 n3 (oslV l1 c1 n3.Aggs.length) (oslV l2 c2 n3.Items.length)), arr rpDAgg 51 l1 c1 n3.Aggs, arr rpDExpr 28 l2 c2 n3.Items]) (Gf := fun _ i n3 l1 c1 l2 c2 => [(2, tV (bptr b 0)), (4, tV (bptr b1 0)), (51, tD (rI .i64) (r4.length : Int)), (52, tD (rI .i64) (i : Int))]) (fun i n3 l1 c1 l2 c2 h => ?_) (fun e tl ih i n3 l1 c1 l2 c2 h => ?_) r4 0 ({ ({ ({ (DLNode.mk n2.Op n2.A n2.B n2.Table r n2.Left n2.Cond r1 n2.Aggs n2.Items r2 n2.Limit) with Cond := ({ (DLNode.mk n2.Op n2.A n2.B n2.Table r n2.Left n2.Cond r1 n2.Aggs n2.Items r2 n2.Limit).Cond with Nodes := r3 } : DExpr) } : DLNode) with Aggs := r4 } : DLNode) with Items := r5 } : DLNode) ((sg 2).h 0).1 ((sg 2).h 0).2 ((sg 5).h 0).1 ((sg 5).h 0).2 ⟨rfl, h⟩) ⟨rfl, rfl, rfl, rfl, trivial⟩
      · obtain ⟨hx, h⟩ := h
        refine LG.unfold ?_
        refine CG.seq ?_
        refine CG.region ?_
        refine RG.op (ok_lss (ht rfl) (ht rfl)) rfl ?_
        refine RG.nil ?_
        refine AT.next ?_
        refine CG.seq ?_
        refine CG.condF (ht rfl) (dropF hx) ?_
        refine CG.exit ?_
        refine AT.then_exit (AT.then_exit (AT.in_exit ?_))
        refine AT.next ?_
        refine CG.seq ?_
        refine CG.seq ?_
        refine CG.region ?_
        refine RG.op (ok_fieldAddrC (n := 9) fd33_9 rfl (ht rfl) rfl) rfl ?_
        refine RG.op (ok_loadFV ti30 flOLNode_8_9_9 (.tail _ (.head _)) rfl (ht rfl)) rfl ?_
        refine RG.op (ok_lenO Try.underlying30 (.tail _ (.tail _ (.tail _ (.head _)))) (ht rfl)) rfl ?_
        refine RG.op (ok_move hI) rfl ?_
        refine RG.nil ?_
        refine AT.next ?_
        refine CG.block ?_
        refine CG.have_lenA (.tail _ (.tail _ (.tail _ (.head _)))) (fun hN1 => ?_)
        refine CG.loop ?_
        refine LG.sub (LG.list6 (Z := fun ls1 i1 n4 l3 c3 l4 c4 => (n3.Items.drop i1 = ls1) ∧ logic_copied_l2 ls1 i1 n4 = some R) (Of := fun _ i1 n4 l3 c3 l4 c4 => [bx rpDLNode 33 b1 (⟨(0 : Int), (0 : Int), (0 : Int), (0 : Int), [], false, (⟨[]⟩ : DExpr), [], [], [], [], (0 : Int)⟩ : DLNode), bx rpOLNode_8_9 33 b (mkOLNode_8_9 n4 (oslV l3 c3 n4.Aggs.length) (oslV l4 c4 n4.Items.length)), arr rpDAgg 51 l3 c3 n4.Aggs, arr rpDExpr 28 l4 c4 n4.Items]) (Gf := fun _ i1 n4 l3 c3 l4 c4 => [(2, tV (bptr b 0)), (4, tV (bptr b1 0)), (72, tD (rI .i64) (n3.Items.length : Int)), (73, tD (rI .i64) (i1 : Int))]) (fun i1 n4 l3 c3 l4 c4 h => ?_) (fun e1 tl1 ih1 i1 n4 l3 c3 l4 c4 h => ?_) n3.Items 0 n3 l1 c1 l2 c2 ⟨rfl, h⟩) ⟨rfl, rfl, rfl, rfl, trivial⟩
        · obtain ⟨hx1, h⟩ := h
          refine LG.unfold ?_
          refine CG.seq ?_
          refine CG.region ?_
          refine RG.op (ok_lss (ht rfl) (ht rfl)) rfl ?_
          refine RG.nil ?_
          refine AT.next ?_
          refine CG.seq ?_
          refine CG.condF (ht rfl) (dropF hx1) ?_
          refine CG.exit ?_
          refine AT.then_exit (AT.then_exit (AT.in_exit ?_))
          refine AT.next ?_
          refine CG.seq ?_
          refine CG.region ?_
          refine RG.front2 ?_
          refine RG.freeze ?_
          refine RG.front3 ?_
          refine RG.freeze ?_
          refine RG.op (ok_loadObj (q := rpDLNode) (y := n4) ti33 rfl rfl rfl rfl (.tail _ (.tail _ (.tail _ (.head _)))) (fun _ _ _ ho h => cvOLNode_8_9_to_D (own_tip ho (.tail _ (.head _))) (own_tip ho (.head _)) h) (ht rfl)) rfl ?_
          refine RG.front2 ?_
          refine RG.storeB ti33 rfl sfld_whole rfl (ht rfl) (ht rfl) ?_
          refine RG.settleB 4 rfl ?_
          refine RG.nil ?_
          refine AT.next ?_
          refine CG.ret ?_
          refine AT.drop ?_
          refine AT.drop ?_
          refine AT.drop ?_
          cases so h
          exact AT.ret1c rfl ti33 rfl rfl rfl
        · obtain ⟨hx1, h⟩ := h
          refine LG.unfold ?_
          refine CG.seq ?_
          refine CG.region ?_
          refine RG.op (ok_lss (ht rfl) (ht rfl)) rfl ?_
          refine RG.nil ?_
          refine AT.next ?_
          refine CG.seq ?_
          refine CG.condT (ht rfl) (dropT hx1) ?_
          refine CG.skip ?_
          refine AT.next ?_
          refine CG.seq ?_
          refine CG.block ?_
          refine CG.seq ?_
          refine CG.region ?_
          refine RG.op (ok_move (ht rfl)) rfl ?_
          refine RG.op (ok_assign (ht rfl)) rfl ?_
          refine RG.nil ?_
          refine AT.next ?_
          obtain ⟨e2, q_e2, h⟩ := bs h
          obtain ⟨r6, q_r6, h⟩ := bs h
          refine CG.drawM 12 (ts := [tV (bptr b 9), tV (oslV l4 c4 n4.Items.length), tD (rI .i64) (i1 : Int), tV (bptr b 9), tV (oslV l4 c4 n4.Items.length), tD (rI .i64) (i1 : Int), tV (eptr l4 ((i1 : Int).toNat * 1 + 0)), tV (eptr l4 ((i1 : Int).toNat * 1 + 0)), tD (rSl rpDENode) e2.Nodes, tD (rSl rpDENode) r6, tV (eptr l4 ((i1 : Int).toNat * 1 + 0)), tV (eptr l4 ((i1 : Int).toNat * 1 + 0))]) mixed rfl rfl rfl
            ⟨⟨[⟨2, _, none⟩], _, rfl, ⟨rfl, trivial⟩, rfl, rfl, OpG.plain rfl (ok_fieldAddrC (n := 9) fd33_9 rfl (ht rfl) rfl)⟩,
            ⟨⟨[⟨76, _, some 0⟩], _, rfl, ⟨rfl, trivial⟩, rfl, rfl, OpG.plain rfl (ok_loadFV ti30 flOLNode_8_9_9 (.tail _ (.head _)) rfl (ht rfl))⟩,
            ⟨⟨[⟨6, _, none⟩], _, rfl, ⟨rfl, trivial⟩, rfl, rfl, OpG.plain rfl (ok_move (ht rfl))⟩,
            ⟨⟨[⟨2, _, none⟩], _, rfl, ⟨rfl, trivial⟩, rfl, rfl, OpG.plain rfl (ok_fieldAddrC (n := 9) fd33_9 rfl (ht rfl) rfl)⟩,
            ⟨⟨[⟨79, _, some 3⟩], _, rfl, ⟨rfl, trivial⟩, rfl, rfl, OpG.plain rfl (ok_loadFV ti30 flOLNode_8_9_9 (.tail _ (.head _)) rfl (ht rfl))⟩,
            ⟨⟨[⟨6, _, none⟩], _, rfl, ⟨rfl, trivial⟩, rfl, rfl, OpG.plain rfl (ok_move (ht rfl))⟩,
            ⟨⟨[⟨80, _, some 4⟩, ⟨81, _, some 5⟩], _, rfl, ⟨rfl, rfl, trivial⟩, rfl, rfl, OpG.plain rfl (ok_indexAddrO Try.underlying30 ti28 (.tail _ (.tail _ (.tail _ (.head _)))) (ht rfl) (ht rfl) q_e2)⟩,
            ⟨⟨[⟨82, _, some 6⟩], _, rfl, ⟨rfl, trivial⟩, rfl, rfl, OpG.plain rfl (ok_fieldAddrF (o := (i1 : Int).toNat * 1 + 0) (n := (i1 : Int).toNat * 1 + 0) fd28_0 rfl (.tail _ (.tail _ (.tail _ (.head _)))) q_e2 (ht rfl) rfl)⟩,
            ⟨⟨[⟨83, _, some 7⟩], _, rfl, ⟨rfl, trivial⟩, rfl, rfl, OpG.plain rfl (ok_loadE (r := rpDExpr) (i := (i1 : Int)) (foff := 0) ti26 rfl rfl flDExpr_0 rfl (.tail _ (.tail _ (.tail _ (.head _)))) q_e2 (ht rfl))⟩,
            ⟨⟨[⟨84, _, some 8⟩], _, rfl, ⟨rfl, trivial⟩, rfl, rfl, OpG.plain rfl (ok_call cb52 (f52_ok _ q_r6) ⟨(ht rfl), trivial⟩)⟩,
            ⟨⟨[⟨77, _, some 1⟩, ⟨78, _, some 2⟩], _, rfl, ⟨rfl, rfl, trivial⟩, rfl, rfl, OpG.plain rfl (ok_indexAddrO Try.underlying30 ti28 (.tail _ (.tail _ (.tail _ (.head _)))) (ht rfl) (ht rfl) q_e2)⟩,
            ⟨⟨[⟨86, _, some 10⟩], _, rfl, ⟨rfl, trivial⟩, rfl, rfl, OpG.plain rfl (ok_fieldAddrF (o := (i1 : Int).toNat * 1 + 0) (n := (i1 : Int).toNat * 1 + 0) fd28_0 rfl (.tail _ (.tail _ (.tail _ (.head _)))) q_e2 (ht rfl) rfl)⟩,
            trivial⟩⟩⟩⟩⟩⟩⟩⟩⟩⟩⟩⟩ ?_
          refine RG.front3 ?_
          obtain ⟨st, q_st, h⟩ := bs h
          refine RG.storeE ti26 rfl sfDExpr_0 rfl q_e2 (so q_st) (ht rfl) (ht rfl) ?_
          refine RG.relen2 (set_len (so q_st)) 77 rfl ?_
          refine RG.relen2 (set_len (so q_st)) 80 rfl ?_
          refine RG.castO (O' := [arr rpDExpr 28 l4 c4 st, bx rpDLNode 33 b1 (⟨(0 : Int), (0 : Int), (0 : Int), (0 : Int), [], false, (⟨[]⟩ : DExpr), [], [], [], [], (0 : Int)⟩ : DLNode), bx rpOLNode_8_9 33 b (mkOLNode_8_9 n4 (oslV l3 c3 n4.Aggs.length) (oslV l4 c4 st.length)), arr rpDAgg 51 l3 c3 n4.Aggs]) (by rw [set_len (so q_st)]) ?_
          refine RG.nil ?_
          refine AT.in_normal ?_
          refine AT.next ?_
          refine CG.region ?_
          refine RG.op (ok_incN (dropL hx1 hN1) (ht rfl) hI) rfl ?_
          refine RG.op (ok_move (ht rfl)) rfl ?_
          refine RG.nil ?_
          refine AT.front3 ?_
          refine AT.front3 ?_
          refine AT.front3 ?_
          exact AT.round (LG.sub (ih1 (i1 + 1) ({ n4 with Items := st } : DLNode) l3 c3 l4 c4 ⟨dropS hx1, h⟩) ⟨rfl, rfl, rfl, rfl, trivial⟩)
      · obtain ⟨hx, h⟩ := h
        refine LG.unfold ?_
        refine CG.seq ?_
        refine CG.region ?_
        refine RG.op (ok_lss (ht rfl) (ht rfl)) rfl ?_
        refine RG.nil ?_
        refine AT.next ?_
        refine CG.seq ?_
        refine CG.condT (ht rfl) (dropT hx) ?_
        refine CG.skip ?_
        refine AT.next ?_
        refine CG.seq ?_
        refine CG.block ?_
        refine CG.seq ?_
        refine CG.region ?_
        refine RG.op (ok_move (ht rfl)) rfl ?_
        refine RG.op (ok_assign (ht rfl)) rfl ?_
        refine RG.nil ?_
        refine AT.next ?_
        obtain ⟨e3, q_e3, h⟩ := bs h
        obtain ⟨r7, q_r7, h⟩ := bs h
        refine CG.drawM 14 (ts := [tV (bptr b 8), tV (oslV l1 c1 n3.Aggs.length), tD (rI .i64) (i : Int), tV (bptr b 8), tV (oslV l1 c1 n3.Aggs.length), tD (rI .i64) (i : Int), tV (eptr l1 ((i : Int).toNat * 2 + 0)), tV (eptr l1 ((i : Int).toNat * 2 + 1)), tV (eptr l1 ((i : Int).toNat * 2 + 1)), tD (rSl rpDENode) e3.Arg.Nodes, tD (rSl rpDENode) r7, tV (eptr l1 ((i : Int).toNat * 2 + 0)), tV (eptr l1 ((i : Int).toNat * 2 + 1)), tV (eptr l1 ((i : Int).toNat * 2 + 1))]) mixed rfl rfl rfl
          ⟨⟨[⟨2, _, none⟩], _, rfl, ⟨rfl, trivial⟩, rfl, rfl, OpG.plain rfl (ok_fieldAddrC (n := 8) fd33_8 rfl (ht rfl) rfl)⟩,
          ⟨⟨[⟨55, _, some 0⟩], _, rfl, ⟨rfl, trivial⟩, rfl, rfl, OpG.plain rfl (ok_loadFV ti29 flOLNode_8_9_8 (.tail _ (.head _)) rfl (ht rfl))⟩,
          ⟨⟨[⟨5, _, none⟩], _, rfl, ⟨rfl, trivial⟩, rfl, rfl, OpG.plain rfl (ok_move (ht rfl))⟩,
          ⟨⟨[⟨2, _, none⟩], _, rfl, ⟨rfl, trivial⟩, rfl, rfl, OpG.plain rfl (ok_fieldAddrC (n := 8) fd33_8 rfl (ht rfl) rfl)⟩,
          ⟨⟨[⟨58, _, some 3⟩], _, rfl, ⟨rfl, trivial⟩, rfl, rfl, OpG.plain rfl (ok_loadFV ti29 flOLNode_8_9_8 (.tail _ (.head _)) rfl (ht rfl))⟩,
          ⟨⟨[⟨5, _, none⟩], _, rfl, ⟨rfl, trivial⟩, rfl, rfl, OpG.plain rfl (ok_move (ht rfl))⟩,
          ⟨⟨[⟨59, _, some 4⟩, ⟨60, _, some 5⟩], _, rfl, ⟨rfl, rfl, trivial⟩, rfl, rfl, OpG.plain rfl (ok_indexAddrO Try.underlying29 ti51 (.tail _ (.tail _ (.head _))) (ht rfl) (ht rfl) q_e3)⟩,
          ⟨⟨[⟨61, _, some 6⟩], _, rfl, ⟨rfl, trivial⟩, rfl, rfl, OpG.plain rfl (ok_fieldAddrF (o := (i : Int).toNat * 2 + 0) (n := (i : Int).toNat * 2 + 1) fd51_1 rfl (.tail _ (.tail _ (.head _))) q_e3 (ht rfl) rfl)⟩,
          ⟨⟨[⟨62, _, some 7⟩], _, rfl, ⟨rfl, trivial⟩, rfl, rfl, OpG.plain rfl (ok_fieldAddrF (o := (i : Int).toNat * 2 + 1) (n := (i : Int).toNat * 2 + 1) fd28_0 rfl (.tail _ (.tail _ (.head _))) q_e3 (ht rfl) rfl)⟩,
          ⟨⟨[⟨63, _, some 8⟩], _, rfl, ⟨rfl, trivial⟩, rfl, rfl, OpG.plain rfl (ok_loadE (r := rpDAgg) (i := (i : Int)) (foff := 1) ti26 rfl rfl (fld_comp flDAgg_1 flDExpr_0) rfl (.tail _ (.tail _ (.head _))) q_e3 (ht rfl))⟩,
          ⟨⟨[⟨64, _, some 9⟩], _, rfl, ⟨rfl, trivial⟩, rfl, rfl, OpG.plain rfl (ok_call cb52 (f52_ok _ q_r7) ⟨(ht rfl), trivial⟩)⟩,
          ⟨⟨[⟨56, _, some 1⟩, ⟨57, _, some 2⟩], _, rfl, ⟨rfl, rfl, trivial⟩, rfl, rfl, OpG.plain rfl (ok_indexAddrO Try.underlying29 ti51 (.tail _ (.tail _ (.head _))) (ht rfl) (ht rfl) q_e3)⟩,
          ⟨⟨[⟨66, _, some 11⟩], _, rfl, ⟨rfl, trivial⟩, rfl, rfl, OpG.plain rfl (ok_fieldAddrF (o := (i : Int).toNat * 2 + 0) (n := (i : Int).toNat * 2 + 1) fd51_1 rfl (.tail _ (.tail _ (.head _))) q_e3 (ht rfl) rfl)⟩,
          ⟨⟨[⟨67, _, some 12⟩], _, rfl, ⟨rfl, trivial⟩, rfl, rfl, OpG.plain rfl (ok_fieldAddrF (o := (i : Int).toNat * 2 + 1) (n := (i : Int).toNat * 2 + 1) fd28_0 rfl (.tail _ (.tail _ (.head _))) q_e3 (ht rfl) rfl)⟩,
          trivial⟩⟩⟩⟩⟩⟩⟩⟩⟩⟩⟩⟩⟩⟩ ?_
        refine RG.front2 ?_
        obtain ⟨st1, q_st1, h⟩ := bs h
        refine RG.storeE ti26 rfl (sfld_comp flDAgg_1 sfDAgg_1 sfDExpr_0) rfl q_e3 (so q_st1) (ht rfl) (ht rfl) ?_
        refine RG.relen2 (set_len (so q_st1)) 56 rfl ?_
        refine RG.relen2 (set_len (so q_st1)) 59 rfl ?_
        refine RG.castO (O' := [arr rpDAgg 51 l1 c1 st1, bx rpDLNode 33 b1 (⟨(0 : Int), (0 : Int), (0 : Int), (0 : Int), [], false, (⟨[]⟩ : DExpr), [], [], [], [], (0 : Int)⟩ : DLNode), bx rpOLNode_8_9 33 b (mkOLNode_8_9 n3 (oslV l1 c1 st1.length) (oslV l2 c2 n3.Items.length)), arr rpDExpr 28 l2 c2 n3.Items]) (by rw [set_len (so q_st1)]) ?_
        refine RG.nil ?_
        refine AT.in_normal ?_
        refine AT.next ?_
        refine CG.region ?_
        refine RG.op (ok_incN (dropL hx hN) (ht rfl) hI) rfl ?_
        refine RG.op (ok_move (ht rfl)) rfl ?_
        refine RG.nil ?_
        refine AT.front3 ?_
        refine AT.front1 ?_
        refine AT.front3 ?_
        refine AT.front3 ?_
        exact AT.round (LG.sub (ih (i + 1) ({ n3 with Aggs := st1 } : DLNode) l1 c1 l2 c2 ⟨dropS hx, h⟩) ⟨rfl, rfl, rfl, rfl, trivial⟩)
    · skip
      refine CG.seq ?_
      refine CG.region ?_
      refine RG.op (ok_fieldAddrC (n := 2) fd33_2 rfl (ht rfl) rfl) rfl ?_
      refine RG.op (ok_loadB ti3 rfl rfl flDLNode_2 (.head _) (ht rfl)) rfl ?_
      refine RG.op (ok_geq (ht rfl) hI) rfl ?_
      refine RG.nil ?_
      refine AT.next ?_
      refine CG.cond (ht rfl) (fun hc => ?_) (fun hc => ?_)
      · have h := ct h hc
        refine CG.region ?_
        refine RG.op (ok_fieldAddrC (n := 2) fd33_2 rfl (ht rfl) rfl) rfl ?_
        refine RG.op (ok_loadB ti3 rfl rfl flDLNode_2 (.head _) (ht rfl)) rfl ?_
        refine RG.op (ok_move (ht rfl)) rfl ?_
        refine RG.op (ok_add (ht rfl) (ht rfl)) rfl ?_
        refine RG.op (ok_fieldAddrC (n := 2) fd33_2 rfl (ht rfl) rfl) rfl ?_
        refine RG.storeB ti3 rfl sfDLNode_2 rfl (ht rfl) (ht rfl) ?_
        refine RG.nil ?_
        exact AT.sub (K1 (DLNode.mk n1.Op n1.A (IntKind.i64.wrap (n1.B + by1)) n1.Table n1.Kinds n1.Left n1.Cond n1.Keys n1.Aggs n1.Items n1.Order n1.Limit) h) ⟨rfl, rfl, trivial⟩
      · have h := cf h hc
        refine CG.skip ?_
        exact AT.sub (K1 n1 h) ⟨rfl, rfl, trivial⟩
  · skip
    refine CG.seq ?_
    refine CG.region ?_
    refine RG.op (ok_fieldAddrC (n := 1) fd33_1 rfl (ht rfl) rfl) rfl ?_
    refine RG.op (ok_loadB ti3 rfl rfl flDLNode_1 (.tail _ (.head _)) (ht rfl)) rfl ?_
    refine RG.op (ok_geq (ht rfl) hI) rfl ?_
    refine RG.nil ?_
    refine AT.next ?_
    refine CG.cond (ht rfl) (fun hc => ?_) (fun hc => ?_)
    · have h := ct h hc
      refine CG.region ?_
      refine RG.op (ok_fieldAddrC (n := 1) fd33_1 rfl (ht rfl) rfl) rfl ?_
      refine RG.op (ok_loadB ti3 rfl rfl flDLNode_1 (.tail _ (.head _)) (ht rfl)) rfl ?_
      refine RG.op (ok_move (ht rfl)) rfl ?_
      refine RG.op (ok_add (ht rfl) (ht rfl)) rfl ?_
      refine RG.op (ok_fieldAddrC (n := 1) fd33_1 rfl (ht rfl) rfl) rfl ?_
      refine RG.front1 ?_
      refine RG.storeB ti3 rfl sfDLNode_1 rfl (ht rfl) (ht rfl) ?_
      refine RG.nil ?_
      exact AT.sub (K (DLNode.mk n.Op (IntKind.i64.wrap (n.A + by1)) n.B n.Table n.Kinds n.Left n.Cond n.Keys n.Aggs n.Items n.Order n.Limit) h) ⟨rfl, rfl, rfl, trivial⟩
    · have h := cf h hc
      refine CG.skip ?_
      refine AT.front1 ?_
      exact AT.sub (K n h) ⟨rfl, rfl, rfl, trivial⟩

end Go.Proofs.Ytbhkincjkpeaoaa

