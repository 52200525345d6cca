/- The walks, part 2. -/
import Derived.Test.YtchjhcgkfglgiaaT
import Derived.Test.YtchjhcgkfglgiaaP1
namespace Go.Proofs.Ytchjhcgkfglgiaa
open Go

set_option maxRecDepth 100000 in
theorem f9_ok {R : Bool} (h : law05_wakes = some R) : Spec Try.prog 9 [] (tD rB R) := by
  refine Spec.of Try.func9 rfl rfl rfl fun w0 S0 => ?_
  refine CG.seq ?_
  refine CG.region ?_
  refine RG.op (ok_assign hB) rfl ?_
  refine RG.nil ?_
  refine AT.next ?_
  refine CG.seq ?_
  refine CG.region ?_
  refine RG.op (ok_buildSlice (r := (rI .i64)) (ys := [(1 : Int), (5 : Int)]) (xs := [.const (.int .i64 (1)), .const (.int .i64 (5))]) Try.underlying82 ti2 rfl rfl rfl rfl rfl ⟨hI, hI, trivial⟩) rfl ?_
  obtain ⟨r, q_r, h⟩ := bs h
  refine RG.callO cb33 (f33_own _ q_r) ⟨(ht rfl), trivial⟩ rfl (fun l c => ?_)
  refine RG.op (ok_buildSlice (r := (rI .i64)) (ys := [(2 : Int), (6 : Int)]) (xs := [.const (.int .i64 (2)), .const (.int .i64 (6))]) Try.underlying82 ti2 rfl rfl rfl rfl rfl ⟨hI, hI, trivial⟩) rfl ?_
  obtain ⟨r1, q_r1, h⟩ := bs h
  refine RG.callO cb33 (f33_own _ q_r1) ⟨(ht rfl), trivial⟩ rfl (fun l1 c1 => ?_)
  refine RG.op (ok_buildSlice (r := (rI .i64)) (ys := [(1 : Int), (4 : Int)]) (xs := [.const (.int .i64 (1)), .const (.int .i64 (4))]) Try.underlying82 ti2 rfl rfl rfl rfl rfl ⟨hI, hI, trivial⟩) rfl ?_
  obtain ⟨r2, q_r2, h⟩ := bs h
  refine RG.callO cb33 (f33_own _ q_r2) ⟨(ht rfl), trivial⟩ rfl (fun l2 c2 => ?_)
  refine RG.front2 ?_
  refine RG.freeze ?_
  refine RG.tipAt 5 rfl ?_
  refine RG.front2 ?_
  refine RG.freeze ?_
  refine RG.tipAt 7 rfl ?_
  refine RG.front2 ?_
  refine RG.freeze ?_
  refine RG.tipAt 9 rfl ?_
  refine RG.op (ok_buildSlice (r := (rSl rpDValue)) (ys := [r, r1, r2]) (xs := [.tmp 5, .tmp 7, .tmp 9]) Try.underlying22 ti26 rfl rfl rfl rfl rfl ⟨(tO_d (ht rfl)), (tO_d (ht rfl)), (tO_d (ht rfl)), trivial⟩) rfl ?_
  refine RG.op (ok_buildSlice (r := (rI .i64)) (ys := [(0 : Int)]) (xs := [.const (.int .i64 (0))]) Try.underlying37 ti3 rfl rfl rfl rfl rfl ⟨hI, trivial⟩) rfl ?_
  obtain ⟨r3, q_r3, h⟩ := bs h
  refine RG.op (ok_call cb31 (f31_ok _ _ q_r3) ⟨(ht rfl), (ht rfl), trivial⟩) rfl ?_
  refine RG.op (ok_move (ht rfl)) rfl ?_
  refine RG.op (ok_extract rfl (ht rfl)) rfl ?_
  refine RG.op (ok_extract rfl (ht rfl)) rfl ?_
  refine RG.op (ok_assign (ht rfl)) rfl ?_
  refine RG.op (ok_assign (ht rfl)) rfl ?_
  refine RG.nil ?_
  refine AT.next ?_
  refine CG.seq ?_
  obtain ⟨t, q_t, h⟩ := bs h
  obtain ⟨e, h1t, h0t⟩ := og q_t
  have q_eg := fun hb => (h1t hb).1
  obtain ⟨t1, q_t1, h⟩ := bs h
  obtain ⟨e1, h1t1, h0t1⟩ := og q_t1
  have q_e1g := fun hb => (h1t1 hb).1
  obtain ⟨e2, h1t1⟩ := og2 (fun hb => (h1t1 hb).2)
  have q_e2g := fun hb => (h1t1 hb).1
  obtain ⟨r4, h1t1⟩ := og2 (fun hb => (h1t1 hb).2)
  have q_r4g := fun hb => (h1t1 hb).1
  obtain ⟨r5, h1t1⟩ := og2 (fun hb => (h1t1 hb).2)
  have q_r5g := fun hb => (h1t1 hb).1
  obtain ⟨t2, q_t2, h⟩ := bs h
  obtain ⟨r6, h1t2, h0t2⟩ := og q_t2
  have q_r6g := fun hb => (h1t2 hb).1
  obtain ⟨r7, h1t2⟩ := og2 (fun hb => (h1t2 hb).2)
  have q_r7g := fun hb => (h1t2 hb).1
  obtain ⟨r8, h1t2⟩ := og2 (fun hb => (h1t2 hb).2)
  have q_r8g := fun hb => (h1t2 hb).1
  refine CG.draw (ts := [tD (rI .i64) r3.2, tD rB (r3.2 == (0 : Int)), tD rB (r3.2 == (0 : Int)), tOpt (r3.2 == (0 : Int)) (tD (rSl rpDGroup) r3.1), tOpt (r3.2 == (0 : Int)) (tD (rI .i64) (r3.1.length : Int)), tOpt (r3.2 == (0 : Int)) (tD rB ((r3.1.length : Int) == (2 : Int))), tD rB ((r3.2 == (0 : Int)) && ((r3.1.length : Int) == (2 : Int))), tD rB ((r3.2 == (0 : Int)) && ((r3.1.length : Int) == (2 : Int))), tOpt ((r3.2 == (0 : Int)) && ((r3.1.length : Int) == (2 : Int))) (tD (rSl rpDGroup) r3.1), tOpt ((r3.2 == (0 : Int)) && ((r3.1.length : Int) == (2 : Int))) (tPtr rpDGroup e), tOpt ((r3.2 == (0 : Int)) && ((r3.1.length : Int) == (2 : Int))) (tPtr (rSl (rSl rpDValue)) e.Rows), tOpt ((r3.2 == (0 : Int)) && ((r3.1.length : Int) == (2 : Int))) (tD (rSl (rSl rpDValue)) e.Rows), tOpt ((r3.2 == (0 : Int)) && ((r3.1.length : Int) == (2 : Int))) (tD (rI .i64) (e.Rows.length : Int)), tOpt ((r3.2 == (0 : Int)) && ((r3.1.length : Int) == (2 : Int))) (tD rB ((e.Rows.length : Int) == (2 : Int))), tD rB t, tD rB t, tOpt t (tD (rSl rpDGroup) r3.1), tOpt t (tPtr rpDGroup e1), tOpt t (tPtr (rSl (rSl rpDValue)) e1.Rows), tOpt t (tD (rSl (rSl rpDValue)) e1.Rows), tOpt t (tPtr (rSl rpDValue) e2), tOpt t (tD (rSl rpDValue) e2), tOpt t (tD (rSl (rI .i64)) ([(1 : Int), (4 : Int)])), tOpt t (tD (rSl rpDValue) r4), tOpt t (tD (rI .i64) r5), tOpt t (tD rB (r5 == (0 : Int))), tD rB t1, tD rB t1, tOpt t1 (tD (rSl (rI .i64)) ([(1 : Int)])), tOpt t1 (tD (rSl rpDValue) r6), tOpt t1 (tD (rSl (rI .i64)) ([(1 : Int), (0 : Int)])), tOpt t1 (tD (rSl rpDValue) r7), tOpt t1 (tD (rI .i64) r8), tOpt t1 (tD rB (r8 == (-1 : Int))), tD rB t2, tD rB t2]) mixed rfl rfl
    ⟨⟨[⟨2, _, none⟩], _, rfl, ⟨rfl, trivial⟩, rfl, rfl, OpG.plain rfl (ok_move (ht rfl))⟩,
    ⟨⟨[⟨15, _, some 0⟩], _, rfl, ⟨rfl, trivial⟩, rfl, rfl, OpG.plain rfl (ok_eqlI (ht rfl) hI)⟩,
    ⟨⟨[⟨16, _, some 1⟩], _, rfl, ⟨rfl, trivial⟩, rfl, rfl, OpG.plain rfl (ok_move (ht rfl))⟩,
    ⟨⟨[⟨1, _, none⟩, ⟨17, _, some 2⟩], _, rfl, ⟨rfl, rfl, trivial⟩, rfl, rfl, OpG.gt rfl rfl rfl rfl (fun hg => ok_move (ht rfl))⟩,
    ⟨⟨[⟨18, _, some 3⟩, ⟨17, _, some 2⟩], _, rfl, ⟨rfl, rfl, trivial⟩, rfl, rfl, OpG.gt rfl rfl rfl rfl (fun hg => ok_lenSl Try.underlying53 (htO rfl hg))⟩,
    ⟨⟨[⟨19, _, some 4⟩, ⟨17, _, some 2⟩], _, rfl, ⟨rfl, rfl, trivial⟩, rfl, rfl, OpG.gt rfl rfl rfl rfl (fun hg => ok_eqlI (htO rfl hg) hI)⟩,
    ⟨⟨[⟨17, _, some 2⟩, ⟨20, _, some 5⟩], _, rfl, ⟨rfl, rfl, trivial⟩, rfl, rfl, OpG.plain rfl (ok_pickAnd (ht rfl) (fun hb => (htO rfl hb)))⟩,
    ⟨⟨[⟨21, _, some 6⟩], _, rfl, ⟨rfl, trivial⟩, rfl, rfl, OpG.plain rfl (ok_move (ht rfl))⟩,
    ⟨⟨[⟨1, _, none⟩, ⟨22, _, some 7⟩], _, rfl, ⟨rfl, rfl, trivial⟩, rfl, rfl, OpG.gt rfl rfl rfl rfl (fun hg => ok_move (ht rfl))⟩,
    ⟨⟨[⟨23, _, some 8⟩, ⟨22, _, some 7⟩], _, rfl, ⟨rfl, rfl, trivial⟩, rfl, rfl, OpG.gt rfl rfl rfl rfl (fun hg => ok_indexAddr Try.underlying53 ti57 rfl (htO rfl hg) hI (q_eg hg))⟩,
    ⟨⟨[⟨24, _, some 9⟩, ⟨22, _, some 7⟩], _, rfl, ⟨rfl, rfl, trivial⟩, rfl, rfl, OpG.gt rfl rfl rfl rfl (fun hg => ok_fieldAddr fd57_1 rfl flDGroup_1 rfl (htO rfl hg))⟩,
    ⟨⟨[⟨25, _, some 10⟩, ⟨22, _, some 7⟩], _, rfl, ⟨rfl, rfl, trivial⟩, rfl, rfl, OpG.gt rfl rfl rfl rfl (fun hg => ok_load ti22 rfl rfl (htO rfl hg))⟩,
    ⟨⟨[⟨26, _, some 11⟩, ⟨22, _, some 7⟩], _, rfl, ⟨rfl, rfl, trivial⟩, rfl, rfl, OpG.gt rfl rfl rfl rfl (fun hg => ok_lenSl Try.underlying22 (htO rfl hg))⟩,
    ⟨⟨[⟨27, _, some 12⟩, ⟨22, _, some 7⟩], _, rfl, ⟨rfl, rfl, trivial⟩, rfl, rfl, OpG.gt rfl rfl rfl rfl (fun hg => ok_eqlI (htO rfl hg) hI)⟩,
    ⟨⟨[⟨22, _, some 7⟩, ⟨28, _, some 13⟩], _, rfl, ⟨rfl, rfl, trivial⟩, rfl, rfl, OpG.plain rfl (ok_pickAndM (ht rfl) (fun hb => (htO rfl hb)) (fun hb => (h1t hb).2) h0t)⟩,
    ⟨⟨[⟨29, _, some 14⟩], _, rfl, ⟨rfl, trivial⟩, rfl, rfl, OpG.plain rfl (ok_move (ht rfl))⟩,
    ⟨⟨[⟨1, _, none⟩, ⟨30, _, some 15⟩], _, rfl, ⟨rfl, rfl, trivial⟩, rfl, rfl, OpG.gt rfl rfl rfl rfl (fun hg => ok_move (ht rfl))⟩,
    ⟨⟨[⟨31, _, some 16⟩, ⟨30, _, some 15⟩], _, rfl, ⟨rfl, rfl, trivial⟩, rfl, rfl, OpG.gt rfl rfl rfl rfl (fun hg => ok_indexAddr Try.underlying53 ti57 rfl (htO rfl hg) hI (q_e1g hg))⟩,
    ⟨⟨[⟨32, _, some 17⟩, ⟨30, _, some 15⟩], _, rfl, ⟨rfl, rfl, trivial⟩, rfl, rfl, OpG.gt rfl rfl rfl rfl (fun hg => ok_fieldAddr fd57_1 rfl flDGroup_1 rfl (htO rfl hg))⟩,
    ⟨⟨[⟨33, _, some 18⟩, ⟨30, _, some 15⟩], _, rfl, ⟨rfl, rfl, trivial⟩, rfl, rfl, OpG.gt rfl rfl rfl rfl (fun hg => ok_load ti22 rfl rfl (htO rfl hg))⟩,
    ⟨⟨[⟨34, _, some 19⟩, ⟨30, _, some 15⟩], _, rfl, ⟨rfl, rfl, trivial⟩, rfl, rfl, OpG.gt rfl rfl rfl rfl (fun hg => ok_indexAddr Try.underlying22 ti26 rfl (htO rfl hg) hI (q_e2g hg))⟩,
    ⟨⟨[⟨35, _, some 20⟩, ⟨30, _, some 15⟩], _, rfl, ⟨rfl, rfl, trivial⟩, rfl, rfl, OpG.gt rfl rfl rfl rfl (fun hg => ok_load ti26 rfl rfl (htO rfl hg))⟩,
    ⟨⟨[⟨30, _, some 15⟩], _, rfl, ⟨rfl, trivial⟩, rfl, rfl, OpG.gt rfl rfl rfl rfl (fun hg => ok_buildSlice (r := (rI .i64)) (ys := [(1 : Int), (4 : Int)]) (xs := [.const (.int .i64 (1)), .const (.int .i64 (4))]) Try.underlying82 ti2 rfl rfl rfl rfl rfl ⟨hI, hI, trivial⟩)⟩,
    ⟨⟨[⟨37, _, some 22⟩, ⟨30, _, some 15⟩], _, rfl, ⟨rfl, rfl, trivial⟩, rfl, rfl, OpG.gt rfl rfl rfl rfl (fun hg => ok_call cb33 (f33_ok _ (q_r4g hg)) ⟨(htO rfl hg), trivial⟩)⟩,
    ⟨⟨[⟨36, _, some 21⟩, ⟨38, _, some 23⟩, ⟨30, _, some 15⟩], _, rfl, ⟨rfl, rfl, rfl, trivial⟩, rfl, rfl, OpG.gt rfl rfl rfl rfl (fun hg => ok_call cb14 (f14_ok _ _ (q_r5g hg)) ⟨(htO rfl hg), (htO rfl hg), trivial⟩)⟩,
    ⟨⟨[⟨39, _, some 24⟩, ⟨30, _, some 15⟩], _, rfl, ⟨rfl, rfl, trivial⟩, rfl, rfl, OpG.gt rfl rfl rfl rfl (fun hg => ok_eqlI (htO rfl hg) hI)⟩,
    ⟨⟨[⟨30, _, some 15⟩, ⟨40, _, some 25⟩], _, rfl, ⟨rfl, rfl, trivial⟩, rfl, rfl, OpG.plain rfl (ok_pickAndM (ht rfl) (fun hb => (htO rfl hb)) (fun hb => (h1t1 hb).2) h0t1)⟩,
    ⟨⟨[⟨41, _, some 26⟩], _, rfl, ⟨rfl, trivial⟩, rfl, rfl, OpG.plain rfl (ok_move (ht rfl))⟩,
    ⟨⟨[⟨42, _, some 27⟩], _, rfl, ⟨rfl, trivial⟩, rfl, rfl, OpG.gt rfl rfl rfl rfl (fun hg => ok_buildSlice (r := (rI .i64)) (ys := [(1 : Int)]) (xs := [.const (.int .i64 (1))]) Try.underlying82 ti2 rfl rfl rfl rfl rfl ⟨hI, trivial⟩)⟩,
    ⟨⟨[⟨43, _, some 28⟩, ⟨42, _, some 27⟩], _, rfl, ⟨rfl, rfl, trivial⟩, rfl, rfl, OpG.gt rfl rfl rfl rfl (fun hg => ok_call cb33 (f33_ok _ (q_r6g hg)) ⟨(htO rfl hg), trivial⟩)⟩,
    ⟨⟨[⟨42, _, some 27⟩], _, rfl, ⟨rfl, trivial⟩, rfl, rfl, OpG.gt rfl rfl rfl rfl (fun hg => ok_buildSlice (r := (rI .i64)) (ys := [(1 : Int), (0 : Int)]) (xs := [.const (.int .i64 (1)), .const (.int .i64 (0))]) Try.underlying82 ti2 rfl rfl rfl rfl rfl ⟨hI, hI, trivial⟩)⟩,
    ⟨⟨[⟨45, _, some 30⟩, ⟨42, _, some 27⟩], _, rfl, ⟨rfl, rfl, trivial⟩, rfl, rfl, OpG.gt rfl rfl rfl rfl (fun hg => ok_call cb33 (f33_ok _ (q_r7g hg)) ⟨(htO rfl hg), trivial⟩)⟩,
    ⟨⟨[⟨44, _, some 29⟩, ⟨46, _, some 31⟩, ⟨42, _, some 27⟩], _, rfl, ⟨rfl, rfl, rfl, trivial⟩, rfl, rfl, OpG.gt rfl rfl rfl rfl (fun hg => ok_call cb14 (f14_ok _ _ (q_r8g hg)) ⟨(htO rfl hg), (htO rfl hg), trivial⟩)⟩,
    ⟨⟨[⟨47, _, some 32⟩, ⟨42, _, some 27⟩], _, rfl, ⟨rfl, rfl, trivial⟩, rfl, rfl, OpG.gt rfl rfl rfl rfl (fun hg => ok_eqlI (htO rfl hg) hI)⟩,
    ⟨⟨[⟨42, _, some 27⟩, ⟨48, _, some 33⟩], _, rfl, ⟨rfl, rfl, trivial⟩, rfl, rfl, OpG.plain rfl (ok_pickAndM (ht rfl) (fun hb => (htO rfl hb)) (fun hb => (h1t2 hb).2) h0t2)⟩,
    ⟨⟨[⟨49, _, some 34⟩], _, rfl, ⟨rfl, trivial⟩, rfl, rfl, OpG.plain rfl (ok_assign (ht rfl))⟩,
    trivial⟩⟩⟩⟩⟩⟩⟩⟩⟩⟩⟩⟩⟩⟩⟩⟩⟩⟩⟩⟩⟩⟩⟩⟩⟩⟩⟩⟩⟩⟩⟩⟩⟩⟩⟩⟩ ?_
  refine AT.next ?_
  refine CG.ret ?_
  refine AT.drop ?_
  refine AT.drop ?_
  refine AT.drop ?_
  cases so h
  exact AT.ret1 rfl rfl

set_option maxRecDepth 100000 in
theorem f17_ok (r : (List DValue)) {R : Bool} (h : law05_large r = some R) : Spec Try.prog 17 [tD (rSl rpDValue) r] (tD rB R) := by
  refine Spec.of Try.func17 rfl rfl rfl fun w0 S0 => ?_
  refine CG.seq ?_
  refine CG.region ?_
  refine RG.op (ok_assign hB) rfl ?_
  refine RG.nil ?_
  refine AT.next ?_
  refine CG.seq ?_
  refine CG.seq ?_
  refine CG.region ?_
  refine RG.op (ok_move (ht rfl)) rfl ?_
  refine RG.op (ok_lenSl Try.underlying26 (ht rfl)) rfl ?_
  refine RG.op (ok_gtr (ht rfl) hI) rfl ?_
  refine RG.nil ?_
  refine AT.next ?_
  refine CG.cond (ht rfl) (fun hc => ?_) (fun hc => ?_)
  · have h := ct h hc
    refine CG.seq ?_
    refine CG.region ?_
    refine RG.op (ok_assign hB) rfl ?_
    refine RG.nil ?_
    refine AT.next ?_
    refine CG.ret ?_
    refine AT.then_ret ?_
    cases so h
    exact AT.ret1 rfl rfl
  · have h := cf h hc
    refine CG.skip ?_
    refine AT.next ?_
    refine CG.seq ?_
    refine CG.seq ?_
    refine CG.region ?_
    refine RG.op (ok_move (ht rfl)) rfl ?_
    refine RG.op (ok_lenSl Try.underlying26 (ht rfl)) rfl ?_
    refine RG.op (ok_move hI) rfl ?_
    refine RG.nil ?_
    refine AT.next ?_
    refine CG.block ?_
    refine CG.have_len (k := 8) rfl (fun hN => ?_)
    refine CG.loop ?_
    refine LG.sub (LG.list1 (Z := fun ls i  => (r.drop i = ls) ∧ law05_large_l1 ls  = some R) (Of := fun _ i  => []) (Gf := fun _ i  => [(8, tD (rSl rpDValue) r), (9, tD (rI .i64) (r.length : Int)), (10, tD (rI .i64) (i : Int))]) (fun i  h => ?_) (fun e tl ih i  h => ?_) r 0  ⟨rfl, h⟩) ⟨rfl, rfl, rfl, trivial⟩
    · obtain ⟨hx, h⟩ := h
      refine LG.unfold ?_
      refine CG.seq ?_
      refine CG.region ?_
      refine RG.op (ok_lss (ht rfl) (ht rfl)) rfl ?_
      refine RG.nil ?_
      refine AT.next ?_
      refine CG.seq ?_
      refine CG.condF (ht rfl) (dropF hx) ?_
      refine CG.exit ?_
      refine AT.then_exit (AT.then_exit (AT.in_exit ?_))
      refine AT.next ?_
      refine CG.seq ?_
      refine CG.region ?_
      refine RG.op (ok_assign hB) rfl ?_
      refine RG.nil ?_
      refine AT.next ?_
      refine CG.ret ?_
      cases so h
      exact AT.ret1 rfl rfl
    · obtain ⟨hx, h⟩ := h
      refine LG.unfold ?_
      refine CG.seq ?_
      refine CG.region ?_
      refine RG.op (ok_lss (ht rfl) (ht rfl)) rfl ?_
      refine RG.nil ?_
      refine AT.next ?_
      refine CG.seq ?_
      refine CG.condT (ht rfl) (dropT hx) ?_
      refine CG.skip ?_
      refine AT.next ?_
      refine CG.seq ?_
      refine CG.block ?_
      refine CG.seq ?_
      refine CG.region ?_
      refine RG.op (ok_indexAddr Try.underlying26 ti33 rfl (ht rfl) (ht rfl) (dropI hx)) rfl ?_
      refine RG.op (ok_load ti33 rfl rfl (ht rfl)) rfl ?_
      refine RG.alloc (r := rpDValue) (x := (⟨(0 : Int), (0 : Int), (0 : Int), []⟩ : DValue)) ti33 (fun _ => zrDValue _) rfl (fun b => ?_)
      refine RG.storeB ti33 rfl sfld_whole rfl (ht rfl) (ht rfl) ?_
      refine RG.settleB 4 rfl ?_
      refine RG.nil ?_
      refine AT.next ?_
      refine CG.seq ?_
      refine CG.region ?_
      refine RG.op (ok_fieldAddr fd33_3 rfl flDValue_3 rfl (ht rfl)) rfl ?_
      refine RG.op (ok_load ti9 rfl rfl (ht rfl)) rfl ?_
      refine RG.op (ok_lenS Try.underlying9 (ht rfl)) rfl ?_
      refine RG.op (ok_gtr (ht rfl) hI) rfl ?_
      refine RG.nil ?_
      refine AT.next ?_
      refine CG.cond (ht rfl) (fun hc => ?_) (fun hc => ?_)
      · have h := ct h hc
        refine CG.seq ?_
        refine CG.region ?_
        refine RG.op (ok_assign hB) rfl ?_
        refine RG.nil ?_
        refine AT.next ?_
        refine CG.ret ?_
        refine AT.in_ret (AT.then_ret (AT.then_ret (AT.in_ret (AT.then_ret ?_))))
        cases so h
        exact AT.ret1 rfl rfl
      · have h := cf h hc
        refine CG.skip ?_
        refine AT.in_normal ?_
        refine AT.next ?_
        refine CG.region ?_
        refine RG.op (ok_incN (dropL hx hN) (ht rfl) hI) rfl ?_
        refine RG.op (ok_move (ht rfl)) rfl ?_
        refine RG.nil ?_
        exact AT.round (LG.sub (ih (i + 1)  ⟨dropS hx, h⟩) ⟨rfl, rfl, rfl, trivial⟩)

set_option maxRecDepth 100000 in
theorem f10_ok (l : (List (List DValue))) {R : Bool} (h : law05_over l = some R) : Spec Try.prog 10 [tD (rSl (rSl rpDValue)) l] (tD rB R) := by
  refine Spec.of Try.func10 rfl rfl rfl fun w0 S0 => ?_
  refine CG.seq ?_
  refine CG.region ?_
  refine RG.op (ok_assign hB) rfl ?_
  refine RG.nil ?_
  refine AT.next ?_
  refine CG.seq ?_
  refine CG.seq ?_
  refine CG.region ?_
  refine RG.op (ok_move (ht rfl)) rfl ?_
  refine RG.op (ok_lenSl Try.underlying22 (ht rfl)) rfl ?_
  refine RG.op (ok_gtr (ht rfl) hI) rfl ?_
  refine RG.nil ?_
  refine AT.next ?_
  refine CG.cond (ht rfl) (fun hc => ?_) (fun hc => ?_)
  · have h := ct h hc
    refine CG.seq ?_
    refine CG.region ?_
    refine RG.op (ok_assign hB) rfl ?_
    refine RG.nil ?_
    refine AT.next ?_
    refine CG.ret ?_
    refine AT.then_ret ?_
    cases so h
    exact AT.ret1 rfl rfl
  · have h := cf h hc
    refine CG.skip ?_
    refine AT.next ?_
    refine CG.seq ?_
    refine CG.seq ?_
    refine CG.region ?_
    refine RG.op (ok_move (ht rfl)) rfl ?_
    refine RG.op (ok_lenSl Try.underlying22 (ht rfl)) rfl ?_
    refine RG.op (ok_move hI) rfl ?_
    refine RG.nil ?_
    refine AT.next ?_
    refine CG.block ?_
    refine CG.have_len (k := 8) rfl (fun hN => ?_)
    refine CG.loop ?_
    refine LG.sub (LG.list1 (Z := fun ls i  => (l.drop i = ls) ∧ law05_over_l1 ls  = some R) (Of := fun _ i  => []) (Gf := fun _ i  => [(8, tD (rSl (rSl rpDValue)) l), (9, tD (rI .i64) (l.length : Int)), (10, tD (rI .i64) (i : Int))]) (fun i  h => ?_) (fun e tl ih i  h => ?_) l 0  ⟨rfl, h⟩) ⟨rfl, rfl, rfl, trivial⟩
    · obtain ⟨hx, h⟩ := h
      refine LG.unfold ?_
      refine CG.seq ?_
      refine CG.region ?_
      refine RG.op (ok_lss (ht rfl) (ht rfl)) rfl ?_
      refine RG.nil ?_
      refine AT.next ?_
      refine CG.seq ?_
      refine CG.condF (ht rfl) (dropF hx) ?_
      refine CG.exit ?_
      refine AT.then_exit (AT.then_exit (AT.in_exit ?_))
      refine AT.next ?_
      refine CG.seq ?_
      refine CG.region ?_
      refine RG.op (ok_assign hB) rfl ?_
      refine RG.nil ?_
      refine AT.next ?_
      refine CG.ret ?_
      cases so h
      exact AT.ret1 rfl rfl
    · obtain ⟨hx, h⟩ := h
      refine LG.unfold ?_
      refine CG.seq ?_
      refine CG.region ?_
      refine RG.op (ok_lss (ht rfl) (ht rfl)) rfl ?_
      refine RG.nil ?_
      refine AT.next ?_
      refine CG.seq ?_
      refine CG.condT (ht rfl) (dropT hx) ?_
      refine CG.skip ?_
      refine AT.next ?_
      refine CG.seq ?_
      refine CG.block ?_
      refine CG.seq ?_
      refine CG.region ?_
      refine RG.op (ok_indexAddr Try.underlying22 ti26 rfl (ht rfl) (ht rfl) (dropI hx)) rfl ?_
      refine RG.op (ok_load ti26 rfl rfl (ht rfl)) rfl ?_
      refine RG.op (ok_assign (ht rfl)) rfl ?_
      refine RG.nil ?_
      refine AT.next ?_
      refine CG.seq ?_
      refine CG.region ?_
      refine RG.op (ok_move (ht rfl)) rfl ?_
      obtain ⟨r, q_r, h⟩ := bs h
      refine RG.op (ok_call cb17 (f17_ok _ q_r) ⟨(ht rfl), trivial⟩) rfl ?_
      refine RG.nil ?_
      refine AT.next ?_
      refine CG.cond (ht rfl) (fun hc => ?_) (fun hc => ?_)
      · have h := ct h hc
        refine CG.seq ?_
        refine CG.region ?_
        refine RG.op (ok_assign hB) rfl ?_
        refine RG.nil ?_
        refine AT.next ?_
        refine CG.ret ?_
        refine AT.in_ret (AT.then_ret (AT.then_ret (AT.in_ret (AT.then_ret ?_))))
        cases so h
        exact AT.ret1 rfl rfl
      · have h := cf h hc
        refine CG.skip ?_
        refine AT.in_normal ?_
        refine AT.next ?_
        refine CG.region ?_
        refine RG.op (ok_incN (dropL hx hN) (ht rfl) hI) rfl ?_
        refine RG.op (ok_move (ht rfl)) rfl ?_
        refine RG.nil ?_
        exact AT.round (LG.sub (ih (i + 1)  ⟨dropS hx, h⟩) ⟨rfl, rfl, rfl, trivial⟩)

set_option maxRecDepth 100000 in
theorem f34_ok (v : DValue) {R : Bool} (h : ref02_Right v = some R) : Spec Try.prog 34 [tD rpDValue v] (tD rB R) := by
  refine Spec.of Try.func34 rfl rfl rfl fun w0 S0 => ?_
  refine CG.seq ?_
  refine CG.region ?_
  refine RG.op (ok_box (ht rfl)) rfl ?_
  refine RG.op (ok_assign hB) rfl ?_
  refine RG.nil ?_
  refine AT.next ?_
  refine CG.seq ?_
  refine CG.seq ?_
  refine CG.region ?_
  refine RG.op (ok_fieldAddr fd33_0 rfl flDValue_0 rfl (ht rfl)) rfl ?_
  refine RG.op (ok_load ti3 rfl rfl (ht rfl)) rfl ?_
  refine RG.nil ?_
  refine AT.next ?_
  refine CG.block ?_
  refine CG.seq ?_
  refine CG.region ?_
  refine RG.op (ok_eqlI (ht rfl) hI) rfl ?_
  refine RG.op (ok_assign (ht rfl)) rfl ?_
  refine RG.nil ?_
  refine AT.next ?_
  refine CG.cond (ht rfl) (fun hc => ?_) (fun hc => ?_)
  · have h := ct h hc
    refine CG.seq ?_
    refine CG.region ?_
    refine RG.op (ok_load ti33 rfl rfl (ht rfl)) rfl ?_
    refine RG.op (ok_build (y := (⟨(0 : Int), (0 : Int), (0 : Int), []⟩ : DValue)) ti33 fs33 zrDValue (rfl)) rfl ?_
    refine RG.op (ok_eqlD eq33 (ht rfl) (ht rfl)) rfl ?_
    refine RG.op (ok_assign (ht rfl)) rfl ?_
    refine RG.nil ?_
    refine AT.next ?_
    refine CG.ret ?_
    refine AT.in_ret (AT.then_ret ?_)
    cases so h
    exact AT.ret1 rfl rfl
  · have h := cf h hc
    refine CG.seq ?_
    refine CG.region ?_
    refine RG.op (ok_eqlI (ht rfl) hI) rfl ?_
    refine RG.op (ok_assign (ht rfl)) rfl ?_
    refine RG.nil ?_
    refine AT.next ?_
    refine CG.cond (ht rfl) (fun hc => ?_) (fun hc => ?_)
    · have h := ct h hc
      refine CG.seq ?_
      refine CG.region ?_
      refine RG.op (ok_fieldAddr fd33_2 rfl flDValue_2 rfl (ht rfl)) rfl ?_
      refine RG.op (ok_load ti31 rfl rfl (ht rfl)) rfl ?_
      refine RG.op (ok_eqlI (ht rfl) hI) rfl ?_
      refine RG.op (ok_move (ht rfl)) rfl ?_
      refine RG.opGt rfl rfl rfl rfl (fun hg => ok_fieldAddr fd33_3 rfl flDValue_3 rfl (ht rfl)) ?_
      refine RG.opGt rfl rfl rfl rfl (fun hg => ok_load ti9 rfl rfl (htO rfl hg)) ?_
      refine RG.opGt rfl rfl rfl rfl (fun hg => ok_eqlS (htO rfl hg) hS) ?_
      refine RG.op (ok_pickAnd (ht rfl) (fun hb => (htO rfl hb))) rfl ?_
      refine RG.op (ok_move (ht rfl)) rfl ?_
      refine RG.opGt rfl rfl rfl rfl (fun hg => ok_fieldAddr fd33_1 rfl flDValue_1 rfl (ht rfl)) ?_
      refine RG.opGt rfl rfl rfl rfl (fun hg => ok_load ti2 rfl rfl (htO rfl hg)) ?_
      refine RG.opGt rfl rfl rfl rfl (fun hg => ok_eqlI (htO rfl hg) hI) ?_
      refine RG.opGt rfl rfl rfl rfl (fun hg => ok_move (htO rfl hg)) ?_
      refine RG.opGof rfl rfl rfl rfl (fun hg => ok_fieldAddr fd33_1 rfl flDValue_1 rfl (ht rfl)) ?_
      refine RG.opGof rfl rfl rfl rfl (fun hg => ok_load ti2 rfl rfl (htO rfl hg)) ?_
      refine RG.opGof rfl rfl rfl rfl (fun hg => ok_eqlI (htO rfl hg) hI) ?_
      refine RG.opGt rfl rfl rfl rfl (fun hg => ok_pickOr (htO rfl hg) (fun hb => (htO rfl (andi hg (noti hb))))) ?_
      refine RG.op (ok_pickAnd (ht rfl) (fun hb => (htO rfl hb))) rfl ?_
      refine RG.op (ok_assign (ht rfl)) rfl ?_
      refine RG.nil ?_
      refine AT.next ?_
      refine CG.ret ?_
      refine AT.in_ret (AT.then_ret ?_)
      cases so h
      exact AT.ret1 rfl rfl
    · have h := cf h hc
      refine CG.seq ?_
      refine CG.region ?_
      refine RG.op (ok_eqlI (ht rfl) hI) rfl ?_
      refine RG.op (ok_assign (ht rfl)) rfl ?_
      refine RG.nil ?_
      refine AT.next ?_
      refine CG.cond (ht rfl) (fun hc => ?_) (fun hc => ?_)
      · have h := ct h hc
        refine CG.seq ?_
        refine CG.region ?_
        refine RG.op (ok_fieldAddr fd33_2 rfl flDValue_2 rfl (ht rfl)) rfl ?_
        refine RG.op (ok_load ti31 rfl rfl (ht rfl)) rfl ?_
        refine RG.op (ok_eqlI (ht rfl) hI) rfl ?_
        refine RG.op (ok_move (ht rfl)) rfl ?_
        refine RG.opGt rfl rfl rfl rfl (fun hg => ok_fieldAddr fd33_3 rfl flDValue_3 rfl (ht rfl)) ?_
        refine RG.opGt rfl rfl rfl rfl (fun hg => ok_load ti9 rfl rfl (htO rfl hg)) ?_
        refine RG.opGt rfl rfl rfl rfl (fun hg => ok_eqlS (htO rfl hg) hS) ?_
        refine RG.op (ok_pickAnd (ht rfl) (fun hb => (htO rfl hb))) rfl ?_
        refine RG.op (ok_assign (ht rfl)) rfl ?_
        refine RG.nil ?_
        refine AT.next ?_
        refine CG.ret ?_
        refine AT.in_ret (AT.then_ret ?_)
        cases so h
        exact AT.ret1 rfl rfl
      · have h := cf h hc
        refine CG.seq ?_
        refine CG.region ?_
        refine RG.op (ok_eqlI (ht rfl) hI) rfl ?_
        refine RG.op (ok_assign (ht rfl)) rfl ?_
        refine RG.nil ?_
        refine AT.next ?_
        refine CG.cond (ht rfl) (fun hc => ?_) (fun hc => ?_)
        · have h := ct h hc
          refine CG.seq ?_
          refine CG.region ?_
          refine RG.op (ok_fieldAddr fd33_1 rfl flDValue_1 rfl (ht rfl)) rfl ?_
          refine RG.op (ok_load ti2 rfl rfl (ht rfl)) rfl ?_
          refine RG.op (ok_eqlI (ht rfl) hI) rfl ?_
          refine RG.op (ok_move (ht rfl)) rfl ?_
          refine RG.opGt rfl rfl rfl rfl (fun hg => ok_fieldAddr fd33_2 rfl flDValue_2 rfl (ht rfl)) ?_
          refine RG.opGt rfl rfl rfl rfl (fun hg => ok_load ti31 rfl rfl (htO rfl hg)) ?_
          refine RG.opGt rfl rfl rfl rfl (fun hg => ok_eqlI (htO rfl hg) hI) ?_
          refine RG.op (ok_pickAnd (ht rfl) (fun hb => (htO rfl hb))) rfl ?_
          refine RG.op (ok_move (ht rfl)) rfl ?_
          refine RG.opGt rfl rfl rfl rfl (fun hg => ok_fieldAddr fd33_3 rfl flDValue_3 rfl (ht rfl)) ?_
          refine RG.opGt rfl rfl rfl rfl (fun hg => ok_load ti9 rfl rfl (htO rfl hg)) ?_
          refine RG.opGt rfl rfl rfl rfl (fun hg => ok_lenS Try.underlying9 (htO rfl hg)) ?_
          refine RG.opGt rfl rfl rfl rfl (fun hg => ok_leq (htO rfl hg) hI) ?_
          refine RG.op (ok_pickAnd (ht rfl) (fun hb => (htO rfl hb))) rfl ?_
          refine RG.op (ok_assign (ht rfl)) rfl ?_
          refine RG.nil ?_
          refine AT.next ?_
          refine CG.ret ?_
          refine AT.in_ret (AT.then_ret ?_)
          cases so h
          exact AT.ret1 rfl rfl
        · have h := cf h hc
          refine CG.skip ?_
          refine AT.in_normal ?_
          refine AT.next ?_
          refine CG.seq ?_
          refine CG.region ?_
          refine RG.op (ok_fieldAddr fd33_0 rfl flDValue_0 rfl (ht rfl)) rfl ?_
          refine RG.op (ok_load ti3 rfl rfl (ht rfl)) rfl ?_
          refine RG.op (ok_eqlI (ht rfl) hI) rfl ?_
          refine RG.op (ok_move (ht rfl)) rfl ?_
          refine RG.opGt rfl rfl rfl rfl (fun hg => ok_fieldAddr fd33_3 rfl flDValue_3 rfl (ht rfl)) ?_
          refine RG.opGt rfl rfl rfl rfl (fun hg => ok_load ti9 rfl rfl (htO rfl hg)) ?_
          refine RG.opGt rfl rfl rfl rfl (fun hg => ok_eqlS (htO rfl hg) hS) ?_
          refine RG.op (ok_pickAnd (ht rfl) (fun hb => (htO rfl hb))) rfl ?_
          refine RG.op (ok_assign (ht rfl)) rfl ?_
          refine RG.nil ?_
          refine AT.next ?_
          refine CG.ret ?_
          cases so h
          exact AT.ret1 rfl rfl

set_option maxRecDepth 100000 in
theorem f11_ok (r : (List DValue)) {R : Bool} (h : ref05_Right r = some R) : Spec Try.prog 11 [tD (rSl rpDValue) r] (tD rB R) := by
  refine Spec.of Try.func11 rfl rfl rfl fun w0 S0 => ?_
  refine CG.seq ?_
  refine CG.region ?_
  refine RG.op (ok_assign hB) rfl ?_
  refine RG.nil ?_
  refine AT.next ?_
  refine CG.seq ?_
  refine CG.seq ?_
  refine CG.region ?_
  refine RG.op (ok_move (ht rfl)) rfl ?_
  refine RG.op (ok_lenSl Try.underlying26 (ht rfl)) rfl ?_
  refine RG.op (ok_gtr (ht rfl) hI) rfl ?_
  refine RG.nil ?_
  refine AT.next ?_
  refine CG.cond (ht rfl) (fun hc => ?_) (fun hc => ?_)
  · have h := ct h hc
    refine CG.seq ?_
    refine CG.region ?_
    refine RG.op (ok_assign hB) rfl ?_
    refine RG.nil ?_
    refine AT.next ?_
    refine CG.ret ?_
    refine AT.then_ret ?_
    cases so h
    exact AT.ret1 rfl rfl
  · have h := cf h hc
    refine CG.skip ?_
    refine AT.next ?_
    refine CG.seq ?_
    refine CG.seq ?_
    refine CG.region ?_
    refine RG.op (ok_assign hI) rfl ?_
    refine RG.nil ?_
    refine AT.next ?_
    refine CG.block ?_
    refine CG.have_len (k := 0) rfl (fun hN => ?_)
    refine CG.loop ?_
    refine LG.sub (LG.list1 (Z := fun ls i  => (r.drop i = ls) ∧ ref05_Right_l1 ls  = some R) (Of := fun _ i  => []) (Gf := fun _ i  => [(0, tD (rSl rpDValue) r), (3, tD (rI .i64) (i : Int))]) (fun i  h => ?_) (fun e tl ih i  h => ?_) r 0  ⟨rfl, h⟩) ⟨rfl, rfl, trivial⟩
    · obtain ⟨hx, h⟩ := h
      refine LG.unfold ?_
      refine CG.seq ?_
      refine CG.seq ?_
      refine CG.region ?_
      refine RG.op (ok_move (ht rfl)) rfl ?_
      refine RG.op (ok_move (ht rfl)) rfl ?_
      refine RG.op (ok_lenSl Try.underlying26 (ht rfl)) rfl ?_
      refine RG.op (ok_lss (ht rfl) (ht rfl)) rfl ?_
      refine RG.nil ?_
      refine AT.next ?_
      refine CG.condF (ht rfl) (dropF hx) ?_
      refine CG.exit ?_
      refine AT.then_exit (AT.then_exit (AT.in_exit ?_))
      refine AT.next ?_
      refine CG.seq ?_
      refine CG.region ?_
      refine RG.op (ok_assign hB) rfl ?_
      refine RG.nil ?_
      refine AT.next ?_
      refine CG.ret ?_
      cases so h
      exact AT.ret1 rfl rfl
    · obtain ⟨hx, h⟩ := h
      refine LG.unfold ?_
      refine CG.seq ?_
      refine CG.seq ?_
      refine CG.region ?_
      refine RG.op (ok_move (ht rfl)) rfl ?_
      refine RG.op (ok_move (ht rfl)) rfl ?_
      refine RG.op (ok_lenSl Try.underlying26 (ht rfl)) rfl ?_
      refine RG.op (ok_lss (ht rfl) (ht rfl)) rfl ?_
      refine RG.nil ?_
      refine AT.next ?_
      refine CG.condT (ht rfl) (dropT hx) ?_
      refine CG.skip ?_
      refine AT.next ?_
      refine CG.seq ?_
      refine CG.block ?_
      refine CG.seq ?_
      refine CG.region ?_
      refine RG.op (ok_move (ht rfl)) rfl ?_
      refine RG.op (ok_move (ht rfl)) rfl ?_
      refine RG.op (ok_indexAddr Try.underlying26 ti33 rfl (ht rfl) (ht rfl) (dropI hx)) rfl ?_
      refine RG.op (ok_load ti33 rfl rfl (ht rfl)) rfl ?_
      obtain ⟨r1, q_r1, h⟩ := bs h
      refine RG.op (ok_call cb34 (f34_ok _ q_r1) ⟨(ht rfl), trivial⟩) rfl ?_
      refine RG.op (ok_not (ht rfl)) rfl ?_
      refine RG.nil ?_
      refine AT.next ?_
      refine CG.cond (ht rfl) (fun hc => ?_) (fun hc => ?_)
      · have h := ct h hc
        refine CG.seq ?_
        refine CG.region ?_
        refine RG.op (ok_assign hB) rfl ?_
        refine RG.nil ?_
        refine AT.next ?_
        refine CG.ret ?_
        refine AT.in_ret (AT.then_ret (AT.then_ret (AT.in_ret (AT.then_ret ?_))))
        cases so h
        exact AT.ret1 rfl rfl
      · have h := cf h hc
        refine CG.skip ?_
        refine AT.in_normal ?_
        refine AT.next ?_
        refine CG.region ?_
        refine RG.op (ok_move (ht rfl)) rfl ?_
        refine RG.op (ok_incN (dropL hx hN) (ht rfl) hI) rfl ?_
        refine RG.op (ok_assign (ht rfl)) rfl ?_
        refine RG.nil ?_
        exact AT.round (LG.sub (ih (i + 1)  ⟨dropS hx, h⟩) ⟨rfl, rfl, trivial⟩)

set_option maxRecDepth 100000 in
theorem f12_ok (r : (List DValue)) {R : Int} (h : row_Check r = some R) : Spec Try.prog 12 [tD (rSl rpDValue) r] (tD (rI .i64) R) := by
  refine Spec.of Try.func12 rfl rfl rfl fun w0 S0 => ?_
  refine CG.seq ?_
  refine CG.region ?_
  refine RG.op (ok_assign hI) rfl ?_
  refine RG.nil ?_
  refine AT.next ?_
  refine CG.seq ?_
  refine CG.seq ?_
  refine CG.region ?_
  refine RG.op (ok_move (ht rfl)) rfl ?_
  obtain ⟨r1, q_r1, h⟩ := bs h
  refine RG.op (ok_call cb35 (f35_ok _ q_r1) ⟨(ht rfl), trivial⟩) rfl ?_
  refine RG.op (ok_not (ht rfl)) rfl ?_
  refine RG.nil ?_
  refine AT.next ?_
  refine CG.cond (ht rfl) (fun hc => ?_) (fun hc => ?_)
  · have h := ct h hc
    refine CG.seq ?_
    refine CG.region ?_
    refine RG.op (ok_assign hI) rfl ?_
    refine RG.nil ?_
    refine AT.next ?_
    refine CG.ret ?_
    refine AT.then_ret ?_
    cases so h
    exact AT.ret1 rfl rfl
  · have h := cf h hc
    refine CG.skip ?_
    refine AT.next ?_
    refine CG.seq ?_
    refine CG.region ?_
    refine RG.op (ok_assign hI) rfl ?_
    refine RG.nil ?_
    refine AT.next ?_
    refine CG.ret ?_
    cases so h
    exact AT.ret1 rfl rfl

set_option maxRecDepth 100000 in
theorem f37_ok (less : Bool) {R : Int} (h : ref05_sign less = some R) : Spec Try.prog 37 [tD rB less] (tD (rI .i64) R) := by
  refine Spec.of Try.func37 rfl rfl rfl fun w0 S0 => ?_
  refine CG.seq ?_
  refine CG.region ?_
  refine RG.op (ok_assign hI) rfl ?_
  refine RG.nil ?_
  refine AT.next ?_
  refine CG.seq ?_
  refine CG.seq ?_
  refine CG.region ?_
  refine RG.op (ok_move (ht rfl)) rfl ?_
  refine RG.nil ?_
  refine AT.next ?_
  refine CG.cond (ht rfl) (fun hc => ?_) (fun hc => ?_)
  · have h := ct h hc
    refine CG.seq ?_
    refine CG.region ?_
    refine RG.op (ok_assign hI) rfl ?_
    refine RG.nil ?_
    refine AT.next ?_
    refine CG.ret ?_
    refine AT.then_ret ?_
    cases so h
    exact AT.ret1 rfl rfl
  · have h := cf h hc
    refine CG.skip ?_
    refine AT.next ?_
    refine CG.seq ?_
    refine CG.region ?_
    refine RG.op (ok_assign hI) rfl ?_
    refine RG.nil ?_
    refine AT.next ?_
    refine CG.ret ?_
    cases so h
    exact AT.ret1 rfl rfl

set_option maxRecDepth 100000 in
theorem f36_ok (a1 : DValue) (b : DValue) {R : Int} (h : ref05_Value a1 b = some R) : Spec Try.prog 36 [tD rpDValue a1, tD rpDValue b] (tD (rI .i64) R) := by
  refine Spec.of Try.func36 rfl rfl rfl fun w0 S0 => ?_
  refine CG.seq ?_
  refine CG.region ?_
  refine RG.op (ok_box (ht rfl)) rfl ?_
  refine RG.op (ok_box (ht rfl)) rfl ?_
  refine RG.op (ok_assign hI) rfl ?_
  refine RG.nil ?_
  refine AT.next ?_
  refine CG.seq ?_
  refine CG.seq ?_
  refine CG.region ?_
  refine RG.op (ok_fieldAddr fd33_0 rfl flDValue_0 rfl (ht rfl)) rfl ?_
  refine RG.op (ok_load ti3 rfl rfl (ht rfl)) rfl ?_
  refine RG.op (ok_fieldAddr fd33_0 rfl flDValue_0 rfl (ht rfl)) rfl ?_
  refine RG.op (ok_load ti3 rfl rfl (ht rfl)) rfl ?_
  refine RG.op (ok_neqI (ht rfl) (ht rfl)) rfl ?_
  refine RG.nil ?_
  refine AT.next ?_
  refine CG.cond (ht rfl) (fun hc => ?_) (fun hc => ?_)
  · have h := ct h hc
    refine CG.seq ?_
    refine CG.region ?_
    refine RG.op (ok_fieldAddr fd33_0 rfl flDValue_0 rfl (ht rfl)) rfl ?_
    refine RG.op (ok_load ti3 rfl rfl (ht rfl)) rfl ?_
    refine RG.op (ok_fieldAddr fd33_0 rfl flDValue_0 rfl (ht rfl)) rfl ?_
    refine RG.op (ok_load ti3 rfl rfl (ht rfl)) rfl ?_
    refine RG.op (ok_lss (ht rfl) (ht rfl)) rfl ?_
    obtain ⟨r, q_r, h⟩ := bs h
    refine RG.op (ok_call cb37 (f37_ok _ q_r) ⟨(ht rfl), trivial⟩) rfl ?_
    refine RG.op (ok_assign (ht rfl)) rfl ?_
    refine RG.nil ?_
    refine AT.next ?_
    refine CG.ret ?_
    refine AT.then_ret ?_
    cases so h
    exact AT.ret1 rfl rfl
  · have h := cf h hc
    refine CG.skip ?_
    refine AT.next ?_
    refine CG.seq ?_
    refine CG.seq ?_
    refine CG.region ?_
    refine RG.op (ok_fieldAddr fd33_1 rfl flDValue_1 rfl (ht rfl)) rfl ?_
    refine RG.op (ok_load ti2 rfl rfl (ht rfl)) rfl ?_
    refine RG.op (ok_fieldAddr fd33_1 rfl flDValue_1 rfl (ht rfl)) rfl ?_
    refine RG.op (ok_load ti2 rfl rfl (ht rfl)) rfl ?_
    refine RG.op (ok_neqI (ht rfl) (ht rfl)) rfl ?_
    refine RG.nil ?_
    refine AT.next ?_
    refine CG.cond (ht rfl) (fun hc => ?_) (fun hc => ?_)
    · have h := ct h hc
      refine CG.seq ?_
      refine CG.region ?_
      refine RG.op (ok_fieldAddr fd33_1 rfl flDValue_1 rfl (ht rfl)) rfl ?_
      refine RG.op (ok_load ti2 rfl rfl (ht rfl)) rfl ?_
      refine RG.op (ok_fieldAddr fd33_1 rfl flDValue_1 rfl (ht rfl)) rfl ?_
      refine RG.op (ok_load ti2 rfl rfl (ht rfl)) rfl ?_
      refine RG.op (ok_lss (ht rfl) (ht rfl)) rfl ?_
      obtain ⟨r1, q_r1, h⟩ := bs h
      refine RG.op (ok_call cb37 (f37_ok _ q_r1) ⟨(ht rfl), trivial⟩) rfl ?_
      refine RG.op (ok_assign (ht rfl)) rfl ?_
      refine RG.nil ?_
      refine AT.next ?_
      refine CG.ret ?_
      refine AT.then_ret ?_
      cases so h
      exact AT.ret1 rfl rfl
    · have h := cf h hc
      refine CG.skip ?_
      refine AT.next ?_
      refine CG.seq ?_
      refine CG.seq ?_
      refine CG.region ?_
      refine RG.op (ok_fieldAddr fd33_2 rfl flDValue_2 rfl (ht rfl)) rfl ?_
      refine RG.op (ok_load ti31 rfl rfl (ht rfl)) rfl ?_
      refine RG.op (ok_fieldAddr fd33_2 rfl flDValue_2 rfl (ht rfl)) rfl ?_
      refine RG.op (ok_load ti31 rfl rfl (ht rfl)) rfl ?_
      refine RG.op (ok_neqI (ht rfl) (ht rfl)) rfl ?_
      refine RG.nil ?_
      refine AT.next ?_
      refine CG.cond (ht rfl) (fun hc => ?_) (fun hc => ?_)
      · have h := ct h hc
        refine CG.seq ?_
        refine CG.region ?_
        refine RG.op (ok_fieldAddr fd33_2 rfl flDValue_2 rfl (ht rfl)) rfl ?_
        refine RG.op (ok_load ti31 rfl rfl (ht rfl)) rfl ?_
        refine RG.op (ok_fieldAddr fd33_2 rfl flDValue_2 rfl (ht rfl)) rfl ?_
        refine RG.op (ok_load ti31 rfl rfl (ht rfl)) rfl ?_
        refine RG.op (ok_lss (ht rfl) (ht rfl)) rfl ?_
        obtain ⟨r2, q_r2, h⟩ := bs h
        refine RG.op (ok_call cb37 (f37_ok _ q_r2) ⟨(ht rfl), trivial⟩) rfl ?_
        refine RG.op (ok_assign (ht rfl)) rfl ?_
        refine RG.nil ?_
        refine AT.next ?_
        refine CG.ret ?_
        refine AT.then_ret ?_
        cases so h
        exact AT.ret1 rfl rfl
      · have h := cf h hc
        refine CG.skip ?_
        refine AT.next ?_
        refine CG.seq ?_
        refine CG.seq ?_
        refine CG.region ?_
        refine RG.op (ok_fieldAddr fd33_3 rfl flDValue_3 rfl (ht rfl)) rfl ?_
        refine RG.op (ok_load ti9 rfl rfl (ht rfl)) rfl ?_
        refine RG.op (ok_fieldAddr fd33_3 rfl flDValue_3 rfl (ht rfl)) rfl ?_
        refine RG.op (ok_load ti9 rfl rfl (ht rfl)) rfl ?_
        refine RG.op (ok_neqS (ht rfl) (ht rfl)) rfl ?_
        refine RG.nil ?_
        refine AT.next ?_
        refine CG.cond (ht rfl) (fun hc => ?_) (fun hc => ?_)
        · have h := ct h hc
          refine CG.seq ?_
          refine CG.region ?_
          refine RG.op (ok_fieldAddr fd33_3 rfl flDValue_3 rfl (ht rfl)) rfl ?_
          refine RG.op (ok_load ti9 rfl rfl (ht rfl)) rfl ?_
          refine RG.op (ok_fieldAddr fd33_3 rfl flDValue_3 rfl (ht rfl)) rfl ?_
          refine RG.op (ok_load ti9 rfl rfl (ht rfl)) rfl ?_
          refine RG.op (ok_lssS (ht rfl) (ht rfl)) rfl ?_
          obtain ⟨r3, q_r3, h⟩ := bs h
          refine RG.op (ok_call cb37 (f37_ok _ q_r3) ⟨(ht rfl), trivial⟩) rfl ?_
          refine RG.op (ok_assign (ht rfl)) rfl ?_
          refine RG.nil ?_
          refine AT.next ?_
          refine CG.ret ?_
          refine AT.then_ret ?_
          cases so h
          exact AT.ret1 rfl rfl
        · have h := cf h hc
          refine CG.skip ?_
          refine AT.next ?_
          refine CG.seq ?_
          refine CG.region ?_
          refine RG.op (ok_assign hI) rfl ?_
          refine RG.nil ?_
          refine AT.next ?_
          refine CG.ret ?_
          cases so h
          exact AT.ret1 rfl rfl

set_option maxRecDepth 100000 in
theorem f13_ok (a1 : (List DValue)) (b : (List DValue)) {R : Int} (h : ref05_Compare a1 b = some R) : Spec Try.prog 13 [tD (rSl rpDValue) a1, tD (rSl rpDValue) b] (tD (rI .i64) R) := by
  refine Spec.of Try.func13 rfl rfl rfl fun w0 S0 => ?_
  refine CG.seq ?_
  refine CG.region ?_
  refine RG.op (ok_assign hI) rfl ?_
  refine RG.nil ?_
  refine AT.next ?_
  refine CG.seq ?_
  refine CG.seq ?_
  refine CG.region ?_
  refine RG.op (ok_assign hI) rfl ?_
  refine RG.nil ?_
  refine AT.next ?_
  refine CG.block ?_
  refine CG.loop ?_
  refine LG.sub (LG.ind1 (Z := fun n i => ref05_Compare_l1 a1 b n i = some R) (Of := fun i => []) (Gf := fun i => [(0, tD (rSl rpDValue) a1), (1, tD (rSl rpDValue) b), (5, tD (rI .i64) i)]) (fun i h => nn h) (fun n ih i h => ?_) FUEL (0 : Int) h) ⟨rfl, rfl, rfl, trivial⟩
  refine LG.unfold ?_
  refine CG.seq ?_
  refine CG.seq ?_
  refine CG.region ?_
  refine RG.op (ok_move (ht rfl)) rfl ?_
  refine RG.op (ok_move (ht rfl)) rfl ?_
  refine RG.op (ok_lenSl Try.underlying26 (ht rfl)) rfl ?_
  refine RG.op (ok_lss (ht rfl) (ht rfl)) rfl ?_
  refine RG.op (ok_move (ht rfl)) rfl ?_
  refine RG.opGt rfl rfl rfl rfl (fun hg => ok_move (ht rfl)) ?_
  refine RG.opGt rfl rfl rfl rfl (fun hg => ok_move (ht rfl)) ?_
  refine RG.opGt rfl rfl rfl rfl (fun hg => ok_lenSl Try.underlying26 (htO rfl hg)) ?_
  refine RG.opGt rfl rfl rfl rfl (fun hg => ok_lss (htO rfl hg) (htO rfl hg)) ?_
  refine RG.op (ok_pickAnd (ht rfl) (fun hb => (htO rfl hb))) rfl ?_
  refine RG.nil ?_
  refine AT.next ?_
  refine CG.cond (ht rfl) (fun hc => ?_) (fun hc => ?_)
  · have h := ct h hc
    refine CG.skip ?_
    refine AT.next ?_
    refine CG.seq ?_
    refine CG.block ?_
    refine CG.seq ?_
    obtain ⟨e, q_e, h⟩ := bs h
    obtain ⟨e1, q_e1, h⟩ := bs h
    obtain ⟨r, q_r, h⟩ := bs h
    refine CG.draw (ts := [tD (rSl rpDValue) a1, tD (rI .i64) i, tPtr rpDValue e, tD rpDValue e, tD (rSl rpDValue) b, tD (rI .i64) i, tPtr rpDValue e1, tD rpDValue e1, tD (rI .i64) r, tD (rI .i64) r]) mixed rfl rfl
      ⟨⟨[⟨0, _, none⟩], _, rfl, ⟨rfl, trivial⟩, rfl, rfl, OpG.plain rfl (ok_move (ht rfl))⟩,
      ⟨⟨[⟨5, _, none⟩], _, rfl, ⟨rfl, trivial⟩, rfl, rfl, OpG.plain rfl (ok_move (ht rfl))⟩,
      ⟨⟨[⟨19, _, some 0⟩, ⟨20, _, some 1⟩], _, rfl, ⟨rfl, rfl, trivial⟩, rfl, rfl, OpG.plain rfl (ok_indexAddr Try.underlying26 ti33 rfl (ht rfl) (ht rfl) q_e)⟩,
      ⟨⟨[⟨21, _, some 2⟩], _, rfl, ⟨rfl, trivial⟩, rfl, rfl, OpG.plain rfl (ok_load ti33 rfl rfl (ht rfl))⟩,
      ⟨⟨[⟨1, _, none⟩], _, rfl, ⟨rfl, trivial⟩, rfl, rfl, OpG.plain rfl (ok_move (ht rfl))⟩,
      ⟨⟨[⟨5, _, none⟩], _, rfl, ⟨rfl, trivial⟩, rfl, rfl, OpG.plain rfl (ok_move (ht rfl))⟩,
      ⟨⟨[⟨23, _, some 4⟩, ⟨24, _, some 5⟩], _, rfl, ⟨rfl, rfl, trivial⟩, rfl, rfl, OpG.plain rfl (ok_indexAddr Try.underlying26 ti33 rfl (ht rfl) (ht rfl) q_e1)⟩,
      ⟨⟨[⟨25, _, some 6⟩], _, rfl, ⟨rfl, trivial⟩, rfl, rfl, OpG.plain rfl (ok_load ti33 rfl rfl (ht rfl))⟩,
      ⟨⟨[⟨22, _, some 3⟩, ⟨26, _, some 7⟩], _, rfl, ⟨rfl, rfl, trivial⟩, rfl, rfl, OpG.plain rfl (ok_call cb36 (f36_ok _ _ q_r) ⟨(ht rfl), (ht rfl), trivial⟩)⟩,
      ⟨⟨[⟨27, _, some 8⟩], _, rfl, ⟨rfl, trivial⟩, rfl, rfl, OpG.plain rfl (ok_assign (ht rfl))⟩,
      trivial⟩⟩⟩⟩⟩⟩⟩⟩⟩⟩ ?_
    refine AT.next ?_
    refine CG.seq ?_
    refine CG.region ?_
    refine RG.op (ok_move (ht rfl)) rfl ?_
    refine RG.op (ok_neqI (ht rfl) hI) rfl ?_
    refine RG.nil ?_
    refine AT.next ?_
    refine CG.cond (ht rfl) (fun hc => ?_) (fun hc => ?_)
    · have h := ct h hc
      refine CG.seq ?_
      refine CG.region ?_
      refine RG.op (ok_move (ht rfl)) rfl ?_
      refine RG.op (ok_assign (ht rfl)) rfl ?_
      refine RG.nil ?_
      refine AT.next ?_
      refine CG.ret ?_
      refine AT.in_ret (AT.then_ret (AT.then_ret (AT.in_ret (AT.then_ret ?_))))
      cases so h
      exact AT.ret1 rfl rfl
    · have h := cf h hc
      refine CG.skip ?_
      refine AT.in_normal ?_
      refine AT.next ?_
      refine CG.region ?_
      refine RG.op (ok_move (ht rfl)) rfl ?_
      refine RG.op (ok_add (ht rfl) hI) rfl ?_
      refine RG.op (ok_assign (ht rfl)) rfl ?_
      refine RG.nil ?_
      exact AT.round (LG.sub (ih (IntKind.i64.wrap (i + (1 : Int))) h) ⟨rfl, rfl, rfl, trivial⟩)
  · have h := cf h hc
    refine CG.exit ?_
    refine AT.then_exit (AT.then_exit (AT.in_exit ?_))
    refine AT.next ?_
    refine CG.seq ?_
    refine CG.seq ?_
    refine CG.region ?_
    refine RG.op (ok_move (ht rfl)) rfl ?_
    refine RG.op (ok_lenSl Try.underlying26 (ht rfl)) rfl ?_
    refine RG.op (ok_move (ht rfl)) rfl ?_
    refine RG.op (ok_lenSl Try.underlying26 (ht rfl)) rfl ?_
    refine RG.op (ok_eqlI (ht rfl) (ht rfl)) rfl ?_
    refine RG.nil ?_
    refine AT.next ?_
    refine CG.cond (ht rfl) (fun hc => ?_) (fun hc => ?_)
    · have h := ct h hc
      refine CG.seq ?_
      refine CG.region ?_
      refine RG.op (ok_assign hI) rfl ?_
      refine RG.nil ?_
      refine AT.next ?_
      refine CG.ret ?_
      refine AT.then_ret ?_
      cases so h
      exact AT.ret1 rfl rfl
    · have h := cf h hc
      refine CG.skip ?_
      refine AT.next ?_
      refine CG.seq ?_
      refine CG.region ?_
      refine RG.op (ok_move (ht rfl)) rfl ?_
      refine RG.op (ok_lenSl Try.underlying26 (ht rfl)) rfl ?_
      refine RG.op (ok_move (ht rfl)) rfl ?_
      refine RG.op (ok_lenSl Try.underlying26 (ht rfl)) rfl ?_
      refine RG.op (ok_lss (ht rfl) (ht rfl)) rfl ?_
      obtain ⟨r1, q_r1, h⟩ := bs h
      refine RG.op (ok_call cb37 (f37_ok _ q_r1) ⟨(ht rfl), trivial⟩) rfl ?_
      refine RG.op (ok_assign (ht rfl)) rfl ?_
      refine RG.nil ?_
      refine AT.next ?_
      refine CG.ret ?_
      cases so h
      exact AT.ret1 rfl rfl

set_option maxRecDepth 100000 in
theorem f39_ok (s1 : (List (List DValue))) (s2 : (List (List DValue))) (eq : ((List DValue) → (List DValue) → Option Bool)) {R : Bool} (h : slices_EqualFunc_api_Row_api_Row_api_Row_api_Row s1 s2 eq = some R) : Spec Try.prog 39 [tD (rSl (rSl rpDValue)) s1, tD (rSl (rSl rpDValue)) s2, (tFun Try.prog (fun (x : (List DValue) × (List DValue)) => [tD (rSl rpDValue) x.1, tD (rSl rpDValue) x.2]) (fun (x : Bool) => tD rB x) (fun (x : (List DValue) × (List DValue)) => eq x.1 x.2))] (tD rB R) := by
  refine Spec.of Try.func39 rfl rfl rfl fun w0 S0 => ?_
  refine CG.seq ?_
  refine CG.region ?_
  refine RG.op (ok_assign hB) rfl ?_
  refine RG.nil ?_
  refine AT.next ?_
  refine CG.seq ?_
  refine CG.seq ?_
  refine CG.region ?_
  refine RG.op (ok_move (ht rfl)) rfl ?_
  refine RG.op (ok_lenSl Try.underlying22 (ht rfl)) rfl ?_
  refine RG.op (ok_move (ht rfl)) rfl ?_
  refine RG.op (ok_lenSl Try.underlying22 (ht rfl)) rfl ?_
  refine RG.op (ok_neqI (ht rfl) (ht rfl)) rfl ?_
  refine RG.nil ?_
  refine AT.next ?_
  refine CG.cond (ht rfl) (fun hc => ?_) (fun hc => ?_)
  · have h := ct h hc
    refine CG.seq ?_
    refine CG.region ?_
    refine RG.op (ok_assign hB) rfl ?_
    refine RG.nil ?_
    refine AT.next ?_
    refine CG.ret ?_
    refine AT.then_ret ?_
    cases so h
    exact AT.ret1 rfl rfl
  · have h := cf h hc
    refine CG.skip ?_
    refine AT.next ?_
    refine CG.seq ?_
    refine CG.seq ?_
    refine CG.region ?_
    refine RG.op (ok_move (ht rfl)) rfl ?_
    refine RG.op (ok_lenSl Try.underlying22 (ht rfl)) rfl ?_
    refine RG.op (ok_move hI) rfl ?_
    refine RG.nil ?_
    refine AT.next ?_
    refine CG.block ?_
    refine CG.have_len (k := 15) rfl (fun hN => ?_)
    refine CG.loop ?_
    refine LG.sub (LG.list1 (Z := fun ls i  => (s1.drop i = ls) ∧ slices_EqualFunc_api_Row_api_Row_api_Row_api_Row_l1 s2 eq ls i  = some R) (Of := fun _ i  => []) (Gf := fun _ i  => [(1, tD (rSl (rSl rpDValue)) s2), (2, (tFun Try.prog (fun (x : (List DValue) × (List DValue)) => [tD (rSl rpDValue) x.1, tD (rSl rpDValue) x.2]) (fun (x : Bool) => tD rB x) (fun (x : (List DValue) × (List DValue)) => eq x.1 x.2))), (15, tD (rSl (rSl rpDValue)) s1), (16, tD (rI .i64) (s1.length : Int)), (17, tD (rI .i64) (i : Int))]) (fun i  h => ?_) (fun e tl ih i  h => ?_) s1 0  ⟨rfl, h⟩) ⟨rfl, rfl, rfl, rfl, rfl, trivial⟩
    · obtain ⟨hx, h⟩ := h
      refine LG.unfold ?_
      refine CG.seq ?_
      refine CG.region ?_
      refine RG.op (ok_lss (ht rfl) (ht rfl)) rfl ?_
      refine RG.nil ?_
      refine AT.next ?_
      refine CG.seq ?_
      refine CG.condF (ht rfl) (dropF hx) ?_
      refine CG.exit ?_
      refine AT.then_exit (AT.then_exit (AT.in_exit ?_))
      refine AT.next ?_
      refine CG.seq ?_
      refine CG.region ?_
      refine RG.op (ok_assign hB) rfl ?_
      refine RG.nil ?_
      refine AT.next ?_
      refine CG.ret ?_
      cases so h
      exact AT.ret1 rfl rfl
    · obtain ⟨hx, h⟩ := h
      refine LG.unfold ?_
      refine CG.seq ?_
      refine CG.region ?_
      refine RG.op (ok_lss (ht rfl) (ht rfl)) rfl ?_
      refine RG.nil ?_
      refine AT.next ?_
      refine CG.seq ?_
      refine CG.condT (ht rfl) (dropT hx) ?_
      refine CG.skip ?_
      refine AT.next ?_
      refine CG.seq ?_
      refine CG.block ?_
      refine CG.seq ?_
      refine CG.region ?_
      refine RG.op (ok_move (ht rfl)) rfl ?_
      refine RG.op (ok_indexAddr Try.underlying22 ti26 rfl (ht rfl) (ht rfl) (dropI hx)) rfl ?_
      refine RG.op (ok_load ti26 rfl rfl (ht rfl)) rfl ?_
      refine RG.op (ok_assign (ht rfl)) rfl ?_
      refine RG.op (ok_assign (ht rfl)) rfl ?_
      refine RG.nil ?_
      refine AT.next ?_
      refine CG.seq ?_
      refine CG.region ?_
      refine RG.op (ok_move (ht rfl)) rfl ?_
      refine RG.op (ok_move (ht rfl)) rfl ?_
      obtain ⟨e1, q_e1, h⟩ := bs h
      refine RG.op (ok_indexAddr Try.underlying22 ti26 rfl (ht rfl) (ht rfl) q_e1) rfl ?_
      refine RG.op (ok_load ti26 rfl rfl (ht rfl)) rfl ?_
      refine RG.op (ok_assign (ht rfl)) rfl ?_
      refine RG.nil ?_
      refine AT.next ?_
      refine CG.seq ?_
      refine CG.region ?_
      refine RG.op (ok_move (ht rfl)) rfl ?_
      refine RG.op (ok_move (ht rfl)) rfl ?_
      refine RG.op (ok_move (ht rfl)) rfl ?_
      obtain ⟨r, q_r, h⟩ := bs h
      refine RG.op (ok_callV (x := ((e, e1) : (List DValue) × (List DValue))) (ht rfl) q_r ⟨(ht rfl), (ht rfl), trivial⟩) rfl ?_
      refine RG.op (ok_not (ht rfl)) rfl ?_
      refine RG.nil ?_
      refine AT.next ?_
      refine CG.cond (ht rfl) (fun hc => ?_) (fun hc => ?_)
      · have h := ct h hc
        refine CG.seq ?_
        refine CG.region ?_
        refine RG.op (ok_assign hB) rfl ?_
        refine RG.nil ?_
        refine AT.next ?_
        refine CG.ret ?_
        refine AT.in_ret (AT.then_ret (AT.then_ret (AT.in_ret (AT.then_ret ?_))))
        cases so h
        exact AT.ret1 rfl rfl
      · have h := cf h hc
        refine CG.skip ?_
        refine AT.in_normal ?_
        refine AT.next ?_
        refine CG.region ?_
        refine RG.op (ok_incN (dropL hx hN) (ht rfl) hI) rfl ?_
        refine RG.op (ok_move (ht rfl)) rfl ?_
        refine RG.nil ?_
        exact AT.round (LG.sub (ih (i + 1)  ⟨dropS hx, h⟩) ⟨rfl, rfl, rfl, rfl, rfl, trivial⟩)

set_option maxRecDepth 100000 in
theorem f15_ok (a1 : (List (List DValue))) (b : (List (List DValue))) {R : Bool} (h : row_Same a1 b = some R) : Spec Try.prog 15 [tD (rSl (rSl rpDValue)) a1, tD (rSl (rSl rpDValue)) b] (tD rB R) := by
  refine Spec.of Try.func15 rfl rfl rfl fun w0 S0 => ?_
  refine CG.seq ?_
  refine CG.region ?_
  refine RG.op (ok_assign hB) rfl ?_
  refine RG.nil ?_
  refine AT.next ?_
  refine CG.seq ?_
  refine CG.region ?_
  refine RG.op (ok_move (ht rfl)) rfl ?_
  refine RG.op (ok_move (ht rfl)) rfl ?_
  obtain ⟨r, q_r, h⟩ := bs h
  refine RG.op (ok_call cb39 (f39_ok _ _ _ q_r) ⟨(ht rfl), (ht rfl), (hFn cb40 fun x y h => f40_ok _ _ h), trivial⟩) rfl ?_
  refine RG.op (ok_assign (ht rfl)) rfl ?_
  refine RG.nil ?_
  refine AT.next ?_
  refine CG.ret ?_
  cases so h
  exact AT.ret1 rfl rfl

set_option maxRecDepth 100000 in
theorem f16_own (l : (List (List DValue))) {R : (List (List DValue))} (h : law05_copied l = some R) : SpecO Try.prog 16 [tD (rSl (rSl rpDValue)) l] false (rSl rpDValue) 26 R := by
  refine SpecO.of Try.func16 rfl rfl rfl fun w0 S0 => ?_
  refine CG.seq ?_
  refine CG.region ?_
  refine RG.fresh false (rSl rpDValue) 26 ?_
  refine RG.op (ok_assign hVn) rfl ?_
  refine RG.nil ?_
  refine AT.next ?_
  refine CG.seq ?_
  refine CG.region ?_
  refine RG.fresh false (rSl rpDValue) 26 ?_
  refine RG.op (ok_assign hVn) rfl ?_
  refine RG.nil ?_
  refine AT.next ?_
  refine CG.seq ?_
  refine CG.seq ?_
  refine CG.region ?_
  refine RG.op (ok_move (ht rfl)) rfl ?_
  refine RG.op (ok_lenSl Try.underlying22 (ht rfl)) rfl ?_
  refine RG.op (ok_move hI) rfl ?_
  refine RG.nil ?_
  refine AT.next ?_
  refine CG.block ?_
  refine CG.have_len (k := 6) rfl (fun hN => ?_)
  refine CG.loop ?_
  refine LG.front1 ?_
  refine LG.drop ?_
  refine LG.sub (LG.list4 (Z := fun ls i out l1 c => (l.drop i = ls) ∧ law05_copied_l1 ls out = some R) (Of := fun _ i out l1 c => [arr (rSl rpDValue) 26 l1 c out]) (Gf := fun _ i out l1 c => [(3, tV (oslV l1 c out.length)), (6, tD (rSl (rSl rpDValue)) l), (7, tD (rI .i64) (l.length : Int)), (8, tD (rI .i64) (i : Int))]) (fun i out l1 c h => ?_) (fun e tl ih i out l1 c h => ?_) l 0 ([] : List (List DValue)) none 0 ⟨rfl, h⟩) ⟨rfl, rfl, rfl, rfl, trivial⟩
  · obtain ⟨hx, h⟩ := h
    refine LG.unfold ?_
    refine CG.seq ?_
    refine CG.region ?_
    refine RG.op (ok_lss (ht rfl) (ht rfl)) rfl ?_
    refine RG.nil ?_
    refine AT.next ?_
    refine CG.seq ?_
    refine CG.condF (ht rfl) (dropF hx) ?_
    refine CG.exit ?_
    refine AT.then_exit (AT.then_exit (AT.in_exit ?_))
    refine AT.next ?_
    refine CG.seq ?_
    refine CG.region ?_
    refine RG.op (ok_move (ht rfl)) rfl ?_
    refine RG.op (ok_assign (ht rfl)) rfl ?_
    refine RG.nil ?_
    refine AT.next ?_
    refine CG.ret ?_
    cases so h
    exact AT.retO rfl rfl
  · obtain ⟨hx, h⟩ := h
    refine LG.unfold ?_
    refine CG.seq ?_
    refine CG.region ?_
    refine RG.op (ok_lss (ht rfl) (ht rfl)) rfl ?_
    refine RG.nil ?_
    refine AT.next ?_
    refine CG.seq ?_
    refine CG.condT (ht rfl) (dropT hx) ?_
    refine CG.skip ?_
    refine AT.next ?_
    refine CG.seq ?_
    refine CG.block ?_
    refine CG.seq ?_
    refine CG.region ?_
    refine RG.op (ok_indexAddr Try.underlying22 ti26 rfl (ht rfl) (ht rfl) (dropI hx)) rfl ?_
    refine RG.op (ok_load ti26 rfl rfl (ht rfl)) rfl ?_
    refine RG.op (ok_assign (ht rfl)) rfl ?_
    refine RG.nil ?_
    refine AT.next ?_
    refine CG.region ?_
    refine RG.op (ok_move (ht rfl)) rfl ?_
    refine RG.buildOwn (r := rpDValue) (ys := ([] : List DValue)) (xs := []) Try.underlying26 ti33 rfl rfl rfl rfl rfl trivial rfl (fun l2 c1 => ?_)
    refine RG.op (ok_move (ht rfl)) rfl ?_
    obtain ⟨l3, q_l3, h⟩ := bs h
    refine RG.append ti33 rfl rfl rfl rfl Try.underlying26 rfl rfl (ht rfl) (ht rfl) q_l3 (fun l4 c2 => ?_)
    refine RG.freeze ?_
    refine RG.tipAt 15 rfl ?_
    refine RG.op (ok_buildSlice (r := (rSl rpDValue)) (ys := [l3]) (xs := [.tmp 15]) Try.underlying22 ti26 rfl rfl rfl rfl rfl ⟨(tO_d (ht rfl)), trivial⟩) rfl ?_
    refine RG.front1 ?_
    obtain ⟨out1, q_out1, h⟩ := bs h
    refine RG.append ti26 rfl rfl rfl rfl Try.underlying22 rfl rfl (ht rfl) (ht rfl) q_out1 (fun l5 c3 => ?_)
    refine RG.op (ok_assign (ht rfl)) rfl ?_
    refine RG.nil ?_
    refine AT.in_normal ?_
    refine AT.next ?_
    refine CG.region ?_
    refine RG.op (ok_incN (dropL hx hN) (ht rfl) hI) rfl ?_
    refine RG.op (ok_move (ht rfl)) rfl ?_
    refine RG.nil ?_
    refine AT.front1 ?_
    refine AT.drop ?_
    exact AT.round (LG.sub (ih (i + 1) out1 l5 c3 ⟨dropS hx, h⟩) ⟨rfl, rfl, rfl, rfl, trivial⟩)
theorem f16_ok (l : (List (List DValue))) {R : (List (List DValue))} (h : law05_copied l = some R) : Spec Try.prog 16 [tD (rSl (rSl rpDValue)) l] (tD (rSl (rSl rpDValue)) R) := (f16_own _ h).spec

set_option maxRecDepth 100000 in
theorem f3_ok (p : (List (List DValue))) (p1 : (List (List DValue))) {R : Bool} (h : law05_RowTells p p1 = some R) : Spec Try.prog 3 [tD (rSl (rSl rpDValue)) p, tD (rSl (rSl rpDValue)) p1] (tD rB R) := by
  refine Spec.of Try.func3 rfl rfl rfl fun w0 S0 => ?_
  refine CG.seq ?_
  refine CG.region ?_
  refine RG.op (ok_assign hB) rfl ?_
  refine RG.nil ?_
  refine AT.next ?_
  refine CG.seq ?_
  refine CG.seq ?_
  refine CG.region ?_
  obtain ⟨r, q_r, h⟩ := bs h
  refine RG.op (ok_call cb9 (f9_ok  q_r) trivial) rfl ?_
  refine RG.op (ok_not (ht rfl)) rfl ?_
  refine RG.nil ?_
  refine AT.next ?_
  refine CG.cond (ht rfl) (fun hc => ?_) (fun hc => ?_)
  · have h := ct h hc
    refine CG.seq ?_
    refine CG.region ?_
    refine RG.op (ok_assign hB) rfl ?_
    refine RG.nil ?_
    refine AT.next ?_
    refine CG.ret ?_
    refine AT.then_ret ?_
    cases so h
    exact AT.ret1 rfl rfl
  · have h := cf h hc
    refine CG.skip ?_
    refine AT.next ?_
    refine CG.seq ?_
    refine CG.seq ?_
    refine CG.region ?_
    refine RG.op (ok_move (ht rfl)) rfl ?_
    obtain ⟨r1, q_r1, h⟩ := bs h
    refine RG.op (ok_call cb10 (f10_ok _ q_r1) ⟨(ht rfl), trivial⟩) rfl ?_
    refine RG.op (ok_move (ht rfl)) rfl ?_
    obtain ⟨t, q_t, h⟩ := bs h
    refine RG.opGf rfl rfl rfl rfl (fun hg => ok_move (ht rfl)) ?_
    obtain ⟨r2, h1t, h0t⟩ := og q_t
    have q_r2g := fun hb => (h1t hb).1
    refine RG.opGf rfl rfl rfl rfl (fun hg => ok_call cb10 (f10_ok _ (q_r2g hg)) ⟨(htO rfl hg), trivial⟩) ?_
    refine RG.op (ok_pickOrM (ht rfl) (fun hb => (htO rfl (noti hb))) (fun hb => (h1t hb).2) h0t) rfl ?_
    refine RG.nil ?_
    refine AT.next ?_
    refine CG.cond (ht rfl) (fun hc => ?_) (fun hc => ?_)
    · have h := ct h hc
      refine CG.seq ?_
      refine CG.region ?_
      refine RG.op (ok_assign hB) rfl ?_
      refine RG.nil ?_
      refine AT.next ?_
      refine CG.ret ?_
      refine AT.then_ret ?_
      cases so h
      exact AT.ret1 rfl rfl
    · have h := cf h hc
      refine CG.skip ?_
      refine AT.next ?_
      refine CG.seq ?_
      refine CG.seq ?_
      refine CG.region ?_
      refine RG.op (ok_move (ht rfl)) rfl ?_
      refine RG.op (ok_lenSl Try.underlying22 (ht rfl)) rfl ?_
      refine RG.op (ok_move hI) rfl ?_
      refine RG.nil ?_
      refine AT.next ?_
      refine CG.block ?_
      refine CG.have_len (k := 21) rfl (fun hN => ?_)
      refine CG.loop ?_
      refine LG.sub (LG.list1 (Z := fun ls i  => (p.drop i = ls) ∧ law05_RowTells_l1 p p1 ls i  = some R) (Of := fun _ i  => []) (Gf := fun _ i  => [(0, tD (rSl (rSl rpDValue)) p), (1, tD (rSl (rSl rpDValue)) p1), (21, tD (rSl (rSl rpDValue)) p), (22, tD (rI .i64) (p.length : Int)), (23, tD (rI .i64) (i : Int))]) (fun i  h => ?_) (fun e tl ih i  h => ?_) p 0  ⟨rfl, h⟩) ⟨rfl, rfl, rfl, rfl, rfl, trivial⟩
      · obtain ⟨hx, h⟩ := h
        refine LG.unfold ?_
        refine CG.seq ?_
        refine CG.region ?_
        refine RG.op (ok_lss (ht rfl) (ht rfl)) rfl ?_
        refine RG.nil ?_
        refine AT.next ?_
        refine CG.seq ?_
        refine CG.condF (ht rfl) (dropF hx) ?_
        refine CG.exit ?_
        refine AT.then_exit (AT.then_exit (AT.in_exit ?_))
        refine AT.next ?_
        refine CG.seq ?_
        refine CG.region ?_
        refine RG.op (ok_move (ht rfl)) rfl ?_
        refine RG.op (ok_lenSl Try.underlying22 (ht rfl)) rfl ?_
        refine RG.op (ok_move (ht rfl)) rfl ?_
        refine RG.op (ok_lenSl Try.underlying22 (ht rfl)) rfl ?_
        refine RG.op (ok_eqlI (ht rfl) (ht rfl)) rfl ?_
        refine RG.op (ok_assign (ht rfl)) rfl ?_
        refine RG.nil ?_
        refine AT.next ?_
        refine CG.seq ?_
        refine CG.seq ?_
        refine CG.region ?_
        refine RG.op (ok_assign hI) rfl ?_
        refine RG.nil ?_
        refine AT.next ?_
        refine CG.block ?_
        refine CG.loop ?_
        refine LG.sub (LG.ind2 (Z := fun n x x1 => law05_RowTells_l2 p p1 n x x1 = some R) (Of := fun x x1 => []) (Gf := fun x x1 => [(0, tD (rSl (rSl rpDValue)) p), (1, tD (rSl (rSl rpDValue)) p1), (10, tD rB x), (11, tD (rI .i64) x1)]) (fun x x1 h => nn h) (fun n ih1 x x1 h => ?_) FUEL ((p.length : Int) == (p1.length : Int)) (0 : Int) h) ⟨rfl, rfl, rfl, rfl, trivial⟩
        refine LG.unfold ?_
        refine CG.seq ?_
        refine CG.seq ?_
        refine CG.region ?_
        refine RG.op (ok_move (ht rfl)) rfl ?_
        refine RG.op (ok_move (ht rfl)) rfl ?_
        refine RG.op (ok_lenSl Try.underlying22 (ht rfl)) rfl ?_
        refine RG.op (ok_lss (ht rfl) (ht rfl)) rfl ?_
        refine RG.op (ok_move (ht rfl)) rfl ?_
        refine RG.opGt rfl rfl rfl rfl (fun hg => ok_move (ht rfl)) ?_
        refine RG.op (ok_pickAnd (ht rfl) (fun hb => (htO rfl hb))) rfl ?_
        refine RG.nil ?_
        refine AT.next ?_
        refine CG.cond (ht rfl) (fun hc => ?_) (fun hc => ?_)
        · have h := ct h hc
          refine CG.skip ?_
          refine AT.next ?_
          refine CG.seq ?_
          refine CG.block ?_
          refine CG.seq ?_
          obtain ⟨e1, q_e1, h⟩ := bs h
          obtain ⟨e2, q_e2, h⟩ := bs h
          refine CG.draw (ts := [tD (rSl (rSl rpDValue)) p, tD (rI .i64) x1, tPtr (rSl rpDValue) e1, tD (rSl rpDValue) e1, tD (rI .i64) (e1.length : Int), tD (rSl (rSl rpDValue)) p1, tD (rI .i64) x1, tPtr (rSl rpDValue) e2, tD (rSl rpDValue) e2, tD (rI .i64) (e2.length : Int), tD rB ((e1.length : Int) == (e2.length : Int)), tD rB ((e1.length : Int) == (e2.length : Int))]) mixed rfl rfl
            ⟨⟨[⟨0, _, none⟩], _, rfl, ⟨rfl, trivial⟩, rfl, rfl, OpG.plain rfl (ok_move (ht rfl))⟩,
            ⟨⟨[⟨11, _, none⟩], _, rfl, ⟨rfl, trivial⟩, rfl, rfl, OpG.plain rfl (ok_move (ht rfl))⟩,
            ⟨⟨[⟨89, _, some 0⟩, ⟨90, _, some 1⟩], _, rfl, ⟨rfl, rfl, trivial⟩, rfl, rfl, OpG.plain rfl (ok_indexAddr Try.underlying22 ti26 rfl (ht rfl) (ht rfl) q_e1)⟩,
            ⟨⟨[⟨91, _, some 2⟩], _, rfl, ⟨rfl, trivial⟩, rfl, rfl, OpG.plain rfl (ok_load ti26 rfl rfl (ht rfl))⟩,
            ⟨⟨[⟨92, _, some 3⟩], _, rfl, ⟨rfl, trivial⟩, rfl, rfl, OpG.plain rfl (ok_lenSl Try.underlying26 (ht rfl))⟩,
            ⟨⟨[⟨1, _, none⟩], _, rfl, ⟨rfl, trivial⟩, rfl, rfl, OpG.plain rfl (ok_move (ht rfl))⟩,
            ⟨⟨[⟨11, _, none⟩], _, rfl, ⟨rfl, trivial⟩, rfl, rfl, OpG.plain rfl (ok_move (ht rfl))⟩,
            ⟨⟨[⟨94, _, some 5⟩, ⟨95, _, some 6⟩], _, rfl, ⟨rfl, rfl, trivial⟩, rfl, rfl, OpG.plain rfl (ok_indexAddr Try.underlying22 ti26 rfl (ht rfl) (ht rfl) q_e2)⟩,
            ⟨⟨[⟨96, _, some 7⟩], _, rfl, ⟨rfl, trivial⟩, rfl, rfl, OpG.plain rfl (ok_load ti26 rfl rfl (ht rfl))⟩,
            ⟨⟨[⟨97, _, some 8⟩], _, rfl, ⟨rfl, trivial⟩, rfl, rfl, OpG.plain rfl (ok_lenSl Try.underlying26 (ht rfl))⟩,
            ⟨⟨[⟨93, _, some 4⟩, ⟨98, _, some 9⟩], _, rfl, ⟨rfl, rfl, trivial⟩, rfl, rfl, OpG.plain rfl (ok_eqlI (ht rfl) (ht rfl))⟩,
            ⟨⟨[⟨99, _, some 10⟩], _, rfl, ⟨rfl, trivial⟩, rfl, rfl, OpG.plain rfl (ok_assign (ht rfl))⟩,
            trivial⟩⟩⟩⟩⟩⟩⟩⟩⟩⟩⟩⟩ ?_
          refine AT.next ?_
          refine CG.seq ?_
          refine CG.region ?_
          refine RG.op (ok_assign hI) rfl ?_
          refine RG.nil ?_
          refine AT.next ?_
          refine CG.block ?_
          refine CG.loop ?_
          refine LG.sub (LG.ind2 (Z := fun n1 x2 x3 => law05_RowTells_l3 (law05_RowTells_l2 p p1 n) x1 e1 e2 n1 x2 x3 = some R) (Of := fun x2 x3 => []) (Gf := fun x2 x3 => [(0, tD (rSl (rSl rpDValue)) p), (1, tD (rSl (rSl rpDValue)) p1), (10, tD rB x2), (11, tD (rI .i64) x1), (12, tD (rI .i64) x3)]) (fun x2 x3 h => nn h) (fun n1 ih2 x2 x3 h => ?_) FUEL ((e1.length : Int) == (e2.length : Int)) (0 : Int) h) ⟨rfl, rfl, rfl, rfl, rfl, trivial⟩
          refine LG.unfold ?_
          refine CG.seq ?_
          refine CG.seq ?_
          refine CG.region ?_
          refine RG.op (ok_move (ht rfl)) rfl ?_
          refine RG.op (ok_move (ht rfl)) rfl ?_
          refine RG.op (ok_move (ht rfl)) rfl ?_
          refine RG.op (ok_indexAddr Try.underlying22 ti26 rfl (ht rfl) (ht rfl) q_e1) rfl ?_
          refine RG.op (ok_load ti26 rfl rfl (ht rfl)) rfl ?_
          refine RG.op (ok_lenSl Try.underlying26 (ht rfl)) rfl ?_
          refine RG.op (ok_lss (ht rfl) (ht rfl)) rfl ?_
          refine RG.op (ok_move (ht rfl)) rfl ?_
          refine RG.opGt rfl rfl rfl rfl (fun hg => ok_move (ht rfl)) ?_
          refine RG.op (ok_pickAnd (ht rfl) (fun hb => (htO rfl hb))) rfl ?_
          refine RG.nil ?_
          refine AT.next ?_
          refine CG.cond (ht rfl) (fun hc => ?_) (fun hc => ?_)
          · have h := ct h hc
            refine CG.skip ?_
            refine AT.next ?_
            refine CG.seq ?_
            refine CG.block ?_
            obtain ⟨e3, q_e3, h⟩ := bs h
            obtain ⟨e4, q_e4, h⟩ := bs h
            refine CG.draw (ts := [tD (rSl (rSl rpDValue)) p, tD (rI .i64) x1, tPtr (rSl rpDValue) e1, tD (rSl rpDValue) e1, tD (rI .i64) x3, tPtr rpDValue e3, tD rpDValue e3, tD (rSl (rSl rpDValue)) p1, tD (rI .i64) x1, tPtr (rSl rpDValue) e2, tD (rSl rpDValue) e2, tD (rI .i64) x3, tPtr rpDValue e4, tD rpDValue e4, tD rB (decide (e3 = e4)), tD rB (decide (e3 = e4))]) mixed rfl rfl
              ⟨⟨[⟨0, _, none⟩], _, rfl, ⟨rfl, trivial⟩, rfl, rfl, OpG.plain rfl (ok_move (ht rfl))⟩,
              ⟨⟨[⟨11, _, none⟩], _, rfl, ⟨rfl, trivial⟩, rfl, rfl, OpG.plain rfl (ok_move (ht rfl))⟩,
              ⟨⟨[⟨112, _, some 0⟩, ⟨113, _, some 1⟩], _, rfl, ⟨rfl, rfl, trivial⟩, rfl, rfl, OpG.plain rfl (ok_indexAddr Try.underlying22 ti26 rfl (ht rfl) (ht rfl) q_e1)⟩,
              ⟨⟨[⟨114, _, some 2⟩], _, rfl, ⟨rfl, trivial⟩, rfl, rfl, OpG.plain rfl (ok_load ti26 rfl rfl (ht rfl))⟩,
              ⟨⟨[⟨12, _, none⟩], _, rfl, ⟨rfl, trivial⟩, rfl, rfl, OpG.plain rfl (ok_move (ht rfl))⟩,
              ⟨⟨[⟨115, _, some 3⟩, ⟨116, _, some 4⟩], _, rfl, ⟨rfl, rfl, trivial⟩, rfl, rfl, OpG.plain rfl (ok_indexAddr Try.underlying26 ti33 rfl (ht rfl) (ht rfl) q_e3)⟩,
              ⟨⟨[⟨117, _, some 5⟩], _, rfl, ⟨rfl, trivial⟩, rfl, rfl, OpG.plain rfl (ok_load ti33 rfl rfl (ht rfl))⟩,
              ⟨⟨[⟨1, _, none⟩], _, rfl, ⟨rfl, trivial⟩, rfl, rfl, OpG.plain rfl (ok_move (ht rfl))⟩,
              ⟨⟨[⟨11, _, none⟩], _, rfl, ⟨rfl, trivial⟩, rfl, rfl, OpG.plain rfl (ok_move (ht rfl))⟩,
              ⟨⟨[⟨119, _, some 7⟩, ⟨120, _, some 8⟩], _, rfl, ⟨rfl, rfl, trivial⟩, rfl, rfl, OpG.plain rfl (ok_indexAddr Try.underlying22 ti26 rfl (ht rfl) (ht rfl) q_e2)⟩,
              ⟨⟨[⟨121, _, some 9⟩], _, rfl, ⟨rfl, trivial⟩, rfl, rfl, OpG.plain rfl (ok_load ti26 rfl rfl (ht rfl))⟩,
              ⟨⟨[⟨12, _, none⟩], _, rfl, ⟨rfl, trivial⟩, rfl, rfl, OpG.plain rfl (ok_move (ht rfl))⟩,
              ⟨⟨[⟨122, _, some 10⟩, ⟨123, _, some 11⟩], _, rfl, ⟨rfl, rfl, trivial⟩, rfl, rfl, OpG.plain rfl (ok_indexAddr Try.underlying26 ti33 rfl (ht rfl) (ht rfl) q_e4)⟩,
              ⟨⟨[⟨124, _, some 12⟩], _, rfl, ⟨rfl, trivial⟩, rfl, rfl, OpG.plain rfl (ok_load ti33 rfl rfl (ht rfl))⟩,
              ⟨⟨[⟨118, _, some 6⟩, ⟨125, _, some 13⟩], _, rfl, ⟨rfl, rfl, trivial⟩, rfl, rfl, OpG.plain rfl (ok_eqlD eq33 (ht rfl) (ht rfl))⟩,
              ⟨⟨[⟨126, _, some 14⟩], _, rfl, ⟨rfl, trivial⟩, rfl, rfl, OpG.plain rfl (ok_assign (ht rfl))⟩,
              trivial⟩⟩⟩⟩⟩⟩⟩⟩⟩⟩⟩⟩⟩⟩⟩⟩ ?_
            refine AT.in_normal ?_
            refine AT.next ?_
            refine CG.region ?_
            refine RG.op (ok_move (ht rfl)) rfl ?_
            refine RG.op (ok_add (ht rfl) hI) rfl ?_
            refine RG.op (ok_assign (ht rfl)) rfl ?_
            refine RG.nil ?_
            exact AT.round (LG.sub (ih2 (decide (e3 = e4)) (IntKind.i64.wrap (x3 + (1 : Int))) h) ⟨rfl, rfl, rfl, rfl, rfl, trivial⟩)
          · have h := cf h hc
            refine CG.exit ?_
            refine AT.then_exit (AT.then_exit (AT.in_exit ?_))
            refine AT.in_normal ?_
            refine AT.next ?_
            refine CG.region ?_
            refine RG.op (ok_move (ht rfl)) rfl ?_
            refine RG.op (ok_add (ht rfl) hI) rfl ?_
            refine RG.op (ok_assign (ht rfl)) rfl ?_
            refine RG.nil ?_
            exact AT.round (LG.sub (ih1 x2 (IntKind.i64.wrap (x1 + (1 : Int))) h) ⟨rfl, rfl, rfl, rfl, trivial⟩)
        · have h := cf h hc
          refine CG.exit ?_
          refine AT.then_exit (AT.then_exit (AT.in_exit ?_))
          refine AT.next ?_
          refine CG.seq ?_
          refine CG.region ?_
          refine RG.op (ok_move (ht rfl)) rfl ?_
          refine RG.op (ok_move (ht rfl)) rfl ?_
          obtain ⟨r3, q_r3, h⟩ := bs h
          refine RG.op (ok_call cb15 (f15_ok _ _ q_r3) ⟨(ht rfl), (ht rfl), trivial⟩) rfl ?_
          refine RG.op (ok_move (ht rfl)) rfl ?_
          refine RG.op (ok_eqlB Try.underlying4 (ht rfl) (ht rfl)) rfl ?_
          refine RG.op (ok_move (ht rfl)) rfl ?_
          obtain ⟨t1, q_t1, h⟩ := bs h
          refine RG.opGt rfl rfl rfl rfl (fun hg => ok_move (ht rfl)) ?_
          refine RG.opGt rfl rfl rfl rfl (fun hg => ok_move (ht rfl)) ?_
          obtain ⟨r4, h1t1, h0t1⟩ := og q_t1
          have q_r4g := fun hb => (h1t1 hb).1
          refine RG.opGt rfl rfl rfl rfl (fun hg => ok_call cb16 (f16_ok _ (q_r4g hg)) ⟨(htO rfl hg), trivial⟩) ?_
          obtain ⟨r5, h1t1⟩ := og2 (fun hb => (h1t1 hb).2)
          have q_r5g := fun hb => (h1t1 hb).1
          refine RG.opGt rfl rfl rfl rfl (fun hg => ok_call cb15 (f15_ok _ _ (q_r5g hg)) ⟨(htO rfl hg), (htO rfl hg), trivial⟩) ?_
          refine RG.op (ok_pickAndM (ht rfl) (fun hb => (htO rfl hb)) (fun hb => (h1t1 hb).2) h0t1) rfl ?_
          refine RG.op (ok_assign (ht rfl)) rfl ?_
          refine RG.nil ?_
          refine AT.next ?_
          refine CG.ret ?_
          cases so h
          exact AT.ret1 rfl rfl
      · obtain ⟨hx, h⟩ := h
        refine LG.unfold ?_
        refine CG.seq ?_
        refine CG.region ?_
        refine RG.op (ok_lss (ht rfl) (ht rfl)) rfl ?_
        refine RG.nil ?_
        refine AT.next ?_
        refine CG.seq ?_
        refine CG.condT (ht rfl) (dropT hx) ?_
        refine CG.skip ?_
        refine AT.next ?_
        refine CG.seq ?_
        refine CG.bjoin0 (Z := law05_RowTells_k1 (law05_RowTells_l1 p p1 tl) i = some R) (Of := []) (Gf := [(0, tD (rSl (rSl rpDValue)) p), (1, tD (rSl (rSl rpDValue)) p1), (21, tD (rSl (rSl rpDValue)) p), (22, tD (rI .i64) (p.length : Int)), (23, tD (rI .i64) (i : Int))]) (fun h => ?_) (fun K => ?_)
        · skip
          refine AT.next ?_
          refine CG.region ?_
          refine RG.op (ok_incN (dropL hx hN) (ht rfl) hI) rfl ?_
          refine RG.op (ok_move (ht rfl)) rfl ?_
          refine RG.nil ?_
          exact AT.round (LG.sub (ih (i + 1)  ⟨dropS hx, h⟩) ⟨rfl, rfl, rfl, rfl, rfl, trivial⟩)
        · skip
          refine CG.seq ?_
          refine CG.region ?_
          refine RG.op (ok_move (ht rfl)) rfl ?_
          refine RG.op (ok_indexAddr Try.underlying22 ti26 rfl (ht rfl) (ht rfl) (dropI hx)) rfl ?_
          refine RG.op (ok_load ti26 rfl rfl (ht rfl)) rfl ?_
          refine RG.op (ok_assign (ht rfl)) rfl ?_
          refine RG.op (ok_assign (ht rfl)) rfl ?_
          refine RG.nil ?_
          refine AT.next ?_
          refine CG.seq ?_
          refine CG.region ?_
          refine RG.op (ok_move (ht rfl)) rfl ?_
          obtain ⟨r6, q_r6, h⟩ := bs h
          refine RG.op (ok_call cb11 (f11_ok _ q_r6) ⟨(ht rfl), trivial⟩) rfl ?_
          refine RG.op (ok_assign (ht rfl)) rfl ?_
          refine RG.nil ?_
          refine AT.next ?_
          refine CG.seq ?_
          refine CG.region ?_
          refine RG.op (ok_move (ht rfl)) rfl ?_
          obtain ⟨r7, q_r7, h⟩ := bs h
          refine RG.op (ok_call cb12 (f12_ok _ q_r7) ⟨(ht rfl), trivial⟩) rfl ?_
          refine RG.op (ok_assign (ht rfl)) rfl ?_
          refine RG.nil ?_
          refine AT.next ?_
          refine CG.seq ?_
          refine CG.seq ?_
          refine CG.region ?_
          refine RG.op (ok_move (ht rfl)) rfl ?_
          refine RG.op (ok_move (ht rfl)) rfl ?_
          refine RG.op (ok_eqlI (ht rfl) hI) rfl ?_
          refine RG.op (ok_neqB Try.underlying4 (ht rfl) (ht rfl)) rfl ?_
          refine RG.op (ok_move (ht rfl)) rfl ?_
          refine RG.opGf rfl rfl rfl rfl (fun hg => ok_move (ht rfl)) ?_
          refine RG.opGf rfl rfl rfl rfl (fun hg => ok_not (htO rfl hg)) ?_
          refine RG.opGf rfl rfl rfl rfl (fun hg => ok_move (htO rfl hg)) ?_
          refine RG.opGot rfl rfl rfl rfl (fun hg => ok_move (ht rfl)) ?_
          refine RG.opGot rfl rfl rfl rfl (fun hg => ok_neqI (htO rfl hg) hI) ?_
          refine RG.opGf rfl rfl rfl rfl (fun hg => ok_pickAnd (htO rfl hg) (fun hb => (htO rfl (andi hg hb)))) ?_
          refine RG.op (ok_pickOr (ht rfl) (fun hb => (htO rfl (noti hb)))) rfl ?_
          refine RG.nil ?_
          refine AT.next ?_
          refine CG.cond (ht rfl) (fun hc => ?_) (fun hc => ?_)
          · have h := ct h hc
            refine CG.seq ?_
            refine CG.region ?_
            refine RG.op (ok_assign hB) rfl ?_
            refine RG.nil ?_
            refine AT.next ?_
            refine CG.ret ?_
            refine AT.then_ret (AT.in_ret (AT.then_ret (AT.then_ret (AT.in_ret (AT.then_ret ?_)))))
            cases so h
            exact AT.ret1 rfl rfl
          · have h := cf h hc
            refine CG.skip ?_
            refine AT.next ?_
            refine CG.seq ?_
            refine CG.seq ?_
            refine CG.region ?_
            refine RG.op (ok_move (ht rfl)) rfl ?_
            refine RG.op (ok_move (ht rfl)) rfl ?_
            refine RG.op (ok_lenSl Try.underlying22 (ht rfl)) rfl ?_
            refine RG.op (ok_geq (ht rfl) (ht rfl)) rfl ?_
            refine RG.op (ok_move (ht rfl)) rfl ?_
            refine RG.opGf rfl rfl rfl rfl (fun hg => ok_move (ht rfl)) ?_
            refine RG.opGf rfl rfl rfl rfl (fun hg => ok_eqlI (htO rfl hg) hI) ?_
            refine RG.op (ok_pickOr (ht rfl) (fun hb => (htO rfl (noti hb)))) rfl ?_
            refine RG.nil ?_
            refine AT.next ?_
            refine CG.cond (ht rfl) (fun hc => ?_) (fun hc => ?_)
            · have h := ct h hc
              refine CG.exit ?_
              refine AT.then_exit (AT.in_exit ?_)
              exact AT.sub (K h) ⟨rfl, rfl, rfl, rfl, rfl, trivial⟩
            · have h := cf h hc
              refine CG.skip ?_
              refine AT.next ?_
              refine CG.seq ?_
              refine CG.region ?_
              refine RG.op (ok_assign hI) rfl ?_
              refine RG.nil ?_
              refine AT.next ?_
              refine CG.sjoin1 (Z := fun x4 => law05_RowTells_k2 p1 (law05_RowTells_l1 p p1 tl) i e x4 = some R) (Of := fun x4 => []) (Gf := fun x4 => [(0, tD (rSl (rSl rpDValue)) p), (1, tD (rSl (rSl rpDValue)) p1), (5, tD (rI .i64) (i : Int)), (6, tD (rSl rpDValue) e), (9, tD (rI .i64) x4), (21, tD (rSl (rSl rpDValue)) p), (22, tD (rI .i64) (p.length : Int)), (23, tD (rI .i64) (i : Int))]) (fun x4 h => ?_) (fun K1 => ?_)
              · skip
                refine CG.seq ?_
                refine CG.region ?_
                refine RG.op (ok_move (ht rfl)) rfl ?_
                refine RG.op (ok_move (ht rfl)) rfl ?_
                refine RG.op (ok_move (ht rfl)) rfl ?_
                obtain ⟨e5, q_e5, h⟩ := bs h
                refine RG.op (ok_indexAddr Try.underlying22 ti26 rfl (ht rfl) (ht rfl) q_e5) rfl ?_
                refine RG.op (ok_load ti26 rfl rfl (ht rfl)) rfl ?_
                obtain ⟨r8, q_r8, h⟩ := bs h
                refine RG.op (ok_call cb14 (f14_ok _ _ q_r8) ⟨(ht rfl), (ht rfl), trivial⟩) rfl ?_
                refine RG.op (ok_move (ht rfl)) rfl ?_
                refine RG.op (ok_neqI (ht rfl) (ht rfl)) rfl ?_
                refine RG.nil ?_
                refine AT.next ?_
                refine CG.cond (ht rfl) (fun hc => ?_) (fun hc => ?_)
                · have h := ct h hc
                  refine CG.seq ?_
                  refine CG.region ?_
                  refine RG.op (ok_assign hB) rfl ?_
                  refine RG.nil ?_
                  refine AT.next ?_
                  refine CG.ret ?_
                  refine AT.in_ret (AT.then_ret (AT.then_ret (AT.in_ret (AT.then_ret ?_))))
                  cases so h
                  exact AT.ret1 rfl rfl
                · have h := cf h hc
                  refine CG.skip ?_
                  refine AT.in_normal ?_
                  exact AT.sub (K h) ⟨rfl, rfl, rfl, rfl, rfl, trivial⟩
              · skip
                refine CG.seq ?_
                refine CG.region ?_
                refine RG.op (ok_move (ht rfl)) rfl ?_
                refine RG.op (ok_move (ht rfl)) rfl ?_
                obtain ⟨t2, q_t2, h⟩ := bs h
                refine RG.opGt rfl rfl rfl rfl (fun hg => ok_move (ht rfl)) ?_
                refine RG.opGt rfl rfl rfl rfl (fun hg => ok_move (ht rfl)) ?_
                obtain ⟨e6, h1t2, h0t2⟩ := og q_t2
                have q_e6g := fun hb => (h1t2 hb).1
                refine RG.opGt rfl rfl rfl rfl (fun hg => ok_indexAddr Try.underlying22 ti26 rfl (htO rfl hg) (htO rfl hg) (q_e6g hg)) ?_
                refine RG.opGt rfl rfl rfl rfl (fun hg => ok_load ti26 rfl rfl (htO rfl hg)) ?_
                obtain ⟨r9, h1t2⟩ := og2 (fun hb => (h1t2 hb).2)
                have q_r9g := fun hb => (h1t2 hb).1
                refine RG.opGt rfl rfl rfl rfl (fun hg => ok_call cb11 (f11_ok _ (q_r9g hg)) ⟨(htO rfl hg), trivial⟩) ?_
                refine RG.op (ok_pickAndM (ht rfl) (fun hb => (htO rfl hb)) (fun hb => (h1t2 hb).2) h0t2) rfl ?_
                refine RG.nil ?_
                refine AT.next ?_
                refine CG.cond (ht rfl) (fun hc => ?_) (fun hc => ?_)
                · have h := ct h hc
                  refine CG.region ?_
                  refine RG.op (ok_move (ht rfl)) rfl ?_
                  refine RG.op (ok_move (ht rfl)) rfl ?_
                  refine RG.op (ok_move (ht rfl)) rfl ?_
                  obtain ⟨e7, q_e7, h⟩ := bs h
                  refine RG.op (ok_indexAddr Try.underlying22 ti26 rfl (ht rfl) (ht rfl) q_e7) rfl ?_
                  refine RG.op (ok_load ti26 rfl rfl (ht rfl)) rfl ?_
                  obtain ⟨r10, q_r10, h⟩ := bs h
                  refine RG.op (ok_call cb13 (f13_ok _ _ q_r10) ⟨(ht rfl), (ht rfl), trivial⟩) rfl ?_
                  refine RG.op (ok_assign (ht rfl)) rfl ?_
                  refine RG.nil ?_
                  exact AT.sub (K1 r10 h) ⟨rfl, rfl, rfl, rfl, rfl, rfl, rfl, rfl, trivial⟩
                · have h := cf h hc
                  refine CG.skip ?_
                  exact AT.sub (K1 (0 : Int) h) ⟨rfl, rfl, rfl, rfl, rfl, rfl, rfl, rfl, trivial⟩

end Go.Proofs.Ytchjhcgkfglgiaa
