/- Facts of this claim: P3. -/
import Derived.Test.YtdhledkpgaeoaaaDoorKgT
import Derived.Test.YtdhledkpgaeoaaaDoorKgP2
namespace Go.Proofs.YtdhledkpgaeoaaaDoor
open Go

set_option maxRecDepth 100000 in
theorem f22_ok (r : (List DValue)) (do1 : (List (Int × (DValue → DValue → Option (DValue × Int))))) (n : DENode) (l : (List DValue)) {R : DValue × Int} (h : expr_Eval_1 r do1 n l = some R) : Spec Tryd.prog 22 [tD rpDENode n, tD (rSl rpDValue) l, tPtr (rSl rpDValue) r, tPtr (rT (tMp (fun y : (DValue → DValue → Option (DValue × Int)) => tFn Tryd.prog (fun (x : DValue × DValue) => [tD rpDValue x.1, tD rpDValue x.2]) (fun (x : DValue × Int) => tT [tD rpDValue x.1, tD (rI .i64) x.2]) (fun (x : DValue × DValue) => y x.1 x.2)) (kvI .i64) do1)) ()] (tT [tD rpDValue R.1, tD (rI .i64) R.2]) := by
  refine Spec.of Tryd.func22 rfl rfl rfl fun w0 S0 => ?_
  refine CG.seq ?_
  refine CG.region ?_
  refine RG.op (ok_box (ht rfl)) rfl ?_
  refine RG.alloc (r := rpDValue) (x := (⟨(0 : Int), (0 : Int), (0 : Int), []⟩ : DValue)) ti37 (fun _ => zrDValue _) rfl (fun b => ?_)
  refine RG.op (ok_assign hI) rfl ?_
  refine RG.nil ?_
  refine AT.next ?_
  refine CG.seq ?_
  refine CG.seq ?_
  refine CG.region ?_
  refine RG.op (ok_fieldAddr fd49_0 rfl flDENode_0 rfl (ht rfl)) rfl ?_
  refine RG.op (ok_load ti3 rfl rfl (ht rfl)) rfl ?_
  refine RG.nil ?_
  refine AT.next ?_
  refine CG.block ?_
  refine CG.seq ?_
  refine CG.region ?_
  refine RG.op (ok_eqlI (ht rfl) hI) rfl ?_
  refine RG.op (ok_assign (ht rfl)) rfl ?_
  refine RG.nil ?_
  refine AT.next ?_
  refine CG.cond (ht rfl) (fun hc => ?_) (fun hc => ?_)
  · have h := ct h hc
    refine CG.seq ?_
    refine CG.region ?_
    refine RG.op (ok_fieldAddr fd49_4 rfl flDENode_4 rfl (ht rfl)) rfl ?_
    refine RG.op (ok_load ti37 rfl rfl (ht rfl)) rfl ?_
    refine RG.storeB ti37 rfl sfld_whole rfl (ht rfl) (ht rfl) ?_
    refine RG.op (ok_assign hI) rfl ?_
    refine RG.nil ?_
    refine AT.next ?_
    refine CG.ret ?_
    refine AT.in_ret (AT.then_ret ?_)
    refine AT.settleB 6 rfl ?_
    cases so h
    exact AT.retL (rvs := [.cell 6 37, .tmp 7]) rfl rfl ⟨res_cell ti37 rfl rfl rfl, res_tmp rfl, trivial⟩
  · have h := cf h hc
    refine CG.seq ?_
    refine CG.region ?_
    refine RG.op (ok_eqlI (ht rfl) hI) rfl ?_
    refine RG.op (ok_assign (ht rfl)) rfl ?_
    refine RG.nil ?_
    refine AT.next ?_
    refine CG.cond (ht rfl) (fun hc => ?_) (fun hc => ?_)
    · have h := ct h hc
      refine CG.seq ?_
      refine CG.region ?_
      refine RG.op (ok_load ti26 rfl rfl (ht rfl)) rfl ?_
      refine RG.op (ok_fieldAddr fd49_3 rfl flDENode_3 rfl (ht rfl)) rfl ?_
      refine RG.op (ok_load ti3 rfl rfl (ht rfl)) rfl ?_
      obtain ⟨e, q_e, h⟩ := bs h
      refine RG.op (ok_indexAddr Tryd.underlying26 ti37 rfl (ht rfl) (ht rfl) q_e) rfl ?_
      refine RG.op (ok_load ti37 rfl rfl (ht rfl)) rfl ?_
      refine RG.storeB ti37 rfl sfld_whole rfl (ht rfl) (ht rfl) ?_
      refine RG.op (ok_assign hI) rfl ?_
      refine RG.nil ?_
      refine AT.next ?_
      refine CG.ret ?_
      refine AT.in_ret (AT.then_ret ?_)
      refine AT.settleB 6 rfl ?_
      cases so h
      exact AT.retL (rvs := [.cell 6 37, .tmp 7]) rfl rfl ⟨res_cell ti37 rfl rfl rfl, res_tmp rfl, trivial⟩
    · have h := cf h hc
      refine CG.skip ?_
      refine AT.in_normal ?_
      refine AT.next ?_
      refine CG.seq ?_
      obtain ⟨e1, q_e1, h⟩ := bs h
      obtain ⟨e2, q_e2, h⟩ := bs h
      obtain ⟨r1, q_r1, h⟩ := bs h
      refine CG.drawS 19 [tc (tMp (fun y : (DValue → DValue → Option (DValue × Int)) => tFn Tryd.prog (fun (x : DValue × DValue) => [tD rpDValue x.1, tD rpDValue x.2]) (fun (x : DValue × Int) => tT [tD rpDValue x.1, tD (rI .i64) x.2]) (fun (x : DValue × DValue) => y x.1 x.2)) (kvI .i64) do1), tc (tPtr (rI .i64) n.Tag), tc (tD (rI .i64) n.Tag), tc (tFn Tryd.prog (fun (x : DValue × DValue) => [tD rpDValue x.1, tD rpDValue x.2]) (fun (x : DValue × Int) => tT [tD rpDValue x.1, tD (rI .i64) x.2]) (fun (x : DValue × DValue) => ((mget do1 n.Tag).getD (fun _ _ => none)) x.1 x.2)), tc (tD (rSl rpDValue) l), tc (tPtr rpDValue e1), tc (tD rpDValue e1), tc (tD (rSl rpDValue) l), tc (tD (rSl rpDValue) l), tc (tD (rI .i64) (l.length : Int)), tc (tD (rI .i64) (IntKind.i64.wrap ((l.length : Int) - (1 : Int)))), tc (tPtr rpDValue e2), tc (tD rpDValue e2), tc (tT [tD rpDValue r1.1, tD (rI .i64) r1.2]), tc (tT [tD rpDValue r1.1, tD (rI .i64) r1.2]), tc (tD rpDValue r1.1), tc (tD (rI .i64) r1.2), ([17], fun s => tV (bptr ((s.getD 0 zoi).h 0).2 0)), tc (tAny)] [false, false, false, false, false, false, false, false, false, false, false, false, false, false, false, false, false, true, true] [fun _ => [bx rpDValue 37 b (⟨(0 : Int), (0 : Int), (0 : Int), []⟩ : DValue)], fun sg => [bx rpDValue 37 ((sg 17).h 0).2 (⟨(0 : Int), (0 : Int), (0 : Int), []⟩ : DValue), bx rpDValue 37 b (⟨(0 : Int), (0 : Int), (0 : Int), []⟩ : DValue)], fun sg => [bx rpDValue 37 ((sg 17).h 0).2 r1.1, bx rpDValue 37 b (⟨(0 : Int), (0 : Int), (0 : Int), []⟩ : DValue)]] rfl mixed rfl rfl rfl rfl rfl
        ⟨⟨[⟨3, fun _ => tPtr (rT (tMp (fun y : (DValue → DValue → Option (DValue × Int)) => tFn Tryd.prog (fun (x : DValue × DValue) => [tD rpDValue x.1, tD rpDValue x.2]) (fun (x : DValue × Int) => tT [tD rpDValue x.1, tD (rI .i64) x.2]) (fun (x : DValue × DValue) => y x.1 x.2)) (kvI .i64) do1)) (), none⟩], _, 0, 1, rfl, ⟨(fun _ => rfl), trivial⟩, rfl, rfl, rfl, rfl, rfl, fun _ sg _ _ => OpG.plain rfl (ok_loadF ti57 (ht rfl))⟩,
        ⟨⟨[⟨4, fun _ => tPtr rpDENode n, none⟩], _, 0, 1, rfl, ⟨(fun _ => rfl), trivial⟩, rfl, rfl, rfl, rfl, rfl, fun _ sg _ _ => OpG.plain rfl (ok_fieldAddr fd49_0 rfl flDENode_0 rfl (ht rfl))⟩,
        ⟨⟨[⟨25, fun _ => tPtr (rI .i64) n.Tag, some 1⟩], _, 0, 1, rfl, ⟨(fun _ => rfl), trivial⟩, rfl, rfl, rfl, rfl, rfl, fun _ sg _ _ => OpG.plain rfl (ok_load ti3 rfl rfl (ht rfl))⟩,
        ⟨⟨[⟨24, fun _ => tMp (fun y : (DValue → DValue → Option (DValue × Int)) => tFn Tryd.prog (fun (x : DValue × DValue) => [tD rpDValue x.1, tD rpDValue x.2]) (fun (x : DValue × Int) => tT [tD rpDValue x.1, tD (rI .i64) x.2]) (fun (x : DValue × DValue) => y x.1 x.2)) (kvI .i64) do1, some 0⟩, ⟨26, fun _ => tD (rI .i64) n.Tag, some 2⟩], _, 0, 1, rfl, ⟨(fun _ => rfl), (fun _ => rfl), trivial⟩, rfl, rfl, rfl, rfl, rfl, fun _ sg _ _ => OpG.plain rfl (ok_lookupMp (γ := (fun y : (DValue → DValue → Option (DValue × Int)) => tFn Tryd.prog (fun (x : DValue × DValue) => [tD rpDValue x.1, tD rpDValue x.2]) (fun (x : DValue × Int) => tT [tD rpDValue x.1, tD (rI .i64) x.2]) (fun (x : DValue × DValue) => y x.1 x.2))) (z := (fun _ _ => none)) Tryd.underlying57 (key_int Tryd.underlying3) zv61 (fun _ => tFn_nil) (ht rfl) (keyI (ht rfl)))⟩,
        ⟨⟨[⟨1, fun _ => tD (rSl rpDValue) l, none⟩], _, 0, 1, rfl, ⟨(fun _ => rfl), trivial⟩, rfl, rfl, rfl, rfl, rfl, fun _ sg _ _ => OpG.plain rfl (ok_move (ht rfl))⟩,
        ⟨⟨[⟨28, fun _ => tD (rSl rpDValue) l, some 4⟩], _, 0, 1, rfl, ⟨(fun _ => rfl), trivial⟩, rfl, rfl, rfl, rfl, rfl, fun _ sg _ _ => OpG.plain rfl (ok_indexAddr Tryd.underlying25 ti37 rfl (ht rfl) hI q_e1)⟩,
        ⟨⟨[⟨29, fun _ => tPtr rpDValue e1, some 5⟩], _, 0, 1, rfl, ⟨(fun _ => rfl), trivial⟩, rfl, rfl, rfl, rfl, rfl, fun _ sg _ _ => OpG.plain rfl (ok_load ti37 rfl rfl (ht rfl))⟩,
        ⟨⟨[⟨1, fun _ => tD (rSl rpDValue) l, none⟩], _, 0, 1, rfl, ⟨(fun _ => rfl), trivial⟩, rfl, rfl, rfl, rfl, rfl, fun _ sg _ _ => OpG.plain rfl (ok_move (ht rfl))⟩,
        ⟨⟨[⟨1, fun _ => tD (rSl rpDValue) l, none⟩], _, 0, 1, rfl, ⟨(fun _ => rfl), trivial⟩, rfl, rfl, rfl, rfl, rfl, fun _ sg _ _ => OpG.plain rfl (ok_move (ht rfl))⟩,
        ⟨⟨[⟨32, fun _ => tD (rSl rpDValue) l, some 8⟩], _, 0, 1, rfl, ⟨(fun _ => rfl), trivial⟩, rfl, rfl, rfl, rfl, rfl, fun _ sg _ _ => OpG.plain rfl (ok_lenSl Tryd.underlying25 (ht rfl))⟩,
        ⟨⟨[⟨33, fun _ => tD (rI .i64) (l.length : Int), some 9⟩], _, 0, 1, rfl, ⟨(fun _ => rfl), trivial⟩, rfl, rfl, rfl, rfl, rfl, fun _ sg _ _ => OpG.plain rfl (ok_sub (ht rfl) hI)⟩,
        ⟨⟨[⟨31, fun _ => tD (rSl rpDValue) l, some 7⟩, ⟨34, fun _ => tD (rI .i64) (IntKind.i64.wrap ((l.length : Int) - (1 : Int))), some 10⟩], _, 0, 1, rfl, ⟨(fun _ => rfl), (fun _ => rfl), trivial⟩, rfl, rfl, rfl, rfl, rfl, fun _ sg _ _ => OpG.plain rfl (ok_indexAddr Tryd.underlying25 ti37 rfl (ht rfl) (ht rfl) q_e2)⟩,
        ⟨⟨[⟨35, fun _ => tPtr rpDValue e2, some 11⟩], _, 0, 1, rfl, ⟨(fun _ => rfl), trivial⟩, rfl, rfl, rfl, rfl, rfl, fun _ sg _ _ => OpG.plain rfl (ok_load ti37 rfl rfl (ht rfl))⟩,
        ⟨⟨[⟨27, fun _ => tFn Tryd.prog (fun (x : DValue × DValue) => [tD rpDValue x.1, tD rpDValue x.2]) (fun (x : DValue × Int) => tT [tD rpDValue x.1, tD (rI .i64) x.2]) (fun (x : DValue × DValue) => ((mget do1 n.Tag).getD (fun _ _ => none)) x.1 x.2), some 3⟩, ⟨30, fun _ => tD rpDValue e1, some 6⟩, ⟨36, fun _ => tD rpDValue e2, some 12⟩], _, 0, 1, rfl, ⟨(fun _ => rfl), (fun _ => rfl), (fun _ => rfl), trivial⟩, rfl, rfl, rfl, rfl, rfl, fun _ sg _ _ => OpG.plain rfl (ok_callVn (args := (fun (x : DValue × DValue) => [tD rpDValue x.1, tD rpDValue x.2])) (res := (fun (x : DValue × Int) => tT [tD rpDValue x.1, tD (rI .i64) x.2])) (f := (fun (x : DValue × DValue) => ((mget do1 n.Tag).getD (fun _ _ => none)) x.1 x.2)) (x := ((e1, e2) : DValue × DValue)) (ht rfl) q_r1 ⟨(ht rfl), (ht rfl), trivial⟩)⟩,
        ⟨⟨[⟨37, fun _ => tT [tD rpDValue r1.1, tD (rI .i64) r1.2], some 13⟩], _, 0, 1, rfl, ⟨(fun _ => rfl), trivial⟩, rfl, rfl, rfl, rfl, rfl, fun _ sg _ _ => OpG.plain rfl (ok_move (ht rfl))⟩,
        ⟨⟨[⟨23, fun _ => tT [tD rpDValue r1.1, tD (rI .i64) r1.2], some 14⟩], _, 0, 1, rfl, ⟨(fun _ => rfl), trivial⟩, rfl, rfl, rfl, rfl, rfl, fun _ sg _ _ => OpG.plain rfl (ok_extract rfl (ht rfl))⟩,
        ⟨⟨[⟨23, fun _ => tT [tD rpDValue r1.1, tD (rI .i64) r1.2], some 14⟩], _, 0, 2, rfl, ⟨(fun _ => rfl), trivial⟩, rfl, rfl, rfl, rfl, rfl, fun _ sg _ _ => OpG.plain rfl (ok_extract rfl (ht rfl))⟩,
        ⟨⟨[], _, rfl, trivial, rfl, rfl, rfl, fun sg => EffG.plain rfl (eff_alloc (r := rpDValue) (x := (⟨(0 : Int), (0 : Int), (0 : Int), []⟩ : DValue)) ti37 (fun _ => zrDValue _))⟩,
        ⟨⟨[⟨8, fun sg => tV (bptr ((sg 17).h 0).2 0), some 17⟩, ⟨38, fun _ => tD rpDValue r1.1, some 15⟩], _, rfl, ⟨(fun _ => rfl), (fun _ => rfl), trivial⟩, rfl, rfl, rfl, fun sg => EffG.plain rfl (eff_storeX ti37 rfl (sfx_of sfld_whole) rfl (ht rfl) (ht rfl))⟩,
        trivial⟩⟩⟩⟩⟩⟩⟩⟩⟩⟩⟩⟩⟩⟩⟩⟩⟩⟩⟩ (fun sg => ?_)
      refine (show RG _ _ _ _ [bx rpDValue 37 ((sg 17).h 0).2 r1.1, bx rpDValue 37 b (⟨(0 : Int), (0 : Int), (0 : Int), []⟩ : DValue)] _ from ?_)
      refine RG.settleB 8 rfl ?_
      refine RG.op (ok_assign (ht rfl)) rfl ?_
      refine RG.nil ?_
      refine AT.next ?_
      refine CG.sjoin1 (Z := fun no => expr_Eval_1_k1 r1 no = some R) (Of := fun no => [bx rpDValue 37 b (⟨(0 : Int), (0 : Int), (0 : Int), []⟩ : DValue)]) (Gf := fun no => [(6, tV (bptr b 0)), (8, tPtr rpDValue r1.1), (9, tD (rI .i64) no)]) (fun no h => ?_) (fun K => ?_)
      · skip
        refine CG.seq ?_
        refine CG.region ?_
        refine RG.op (ok_load ti37 rfl rfl (ht rfl)) rfl ?_
        refine RG.op (ok_move (ht rfl)) rfl ?_
        refine RG.storeB ti37 rfl sfld_whole rfl (ht rfl) (ht rfl) ?_
        refine RG.op (ok_assign (ht rfl)) rfl ?_
        refine RG.nil ?_
        refine AT.next ?_
        refine CG.ret ?_
        refine AT.settleB 6 rfl ?_
        cases so h
        exact AT.retL (rvs := [.cell 6 37, .tmp 7]) rfl rfl ⟨res_cell ti37 rfl rfl rfl, res_tmp rfl, trivial⟩
      · skip
        refine CG.seq ?_
        refine CG.region ?_
        refine RG.op (ok_move (ht rfl)) rfl ?_
        refine RG.op (ok_neqI (ht rfl) hI) rfl ?_
        refine RG.op (ok_move (ht rfl)) rfl ?_
        refine RG.opGt rfl rfl rfl rfl (fun hg => ok_move (ht rfl)) ?_
        refine RG.opGt rfl rfl rfl rfl (fun hg => ok_neqI (htO rfl hg) hI) ?_
        refine RG.op (ok_pickAnd (ht rfl) (fun hb => (htO rfl hb))) rfl ?_
        refine RG.nil ?_
        refine AT.next ?_
        refine CG.cond (ht rfl) (fun hc => ?_) (fun hc => ?_)
        · have h := ct h hc
          refine CG.region ?_
          refine RG.op (ok_assign hI) rfl ?_
          refine RG.nil ?_
          exact AT.sub (K (201 : Int) h) ⟨rfl, rfl, rfl, trivial⟩
        · have h := cf h hc
          refine CG.skip ?_
          exact AT.sub (K r1.2 h) ⟨rfl, rfl, rfl, trivial⟩

set_option maxRecDepth 100000 in
theorem f9_ok (e : DExpr) (r : (List DValue)) {R : DValue × Int} (h : expr_Eval e r = some R) : Spec Tryd.prog 9 [tD rpDExpr e, tD (rSl rpDValue) r] (tT [tD rpDValue R.1, tD (rI .i64) R.2]) := by
  refine Spec.of Tryd.func9 rfl rfl rfl fun w0 S0 => ?_
  refine CG.seq ?_
  refine CG.region ?_
  refine RG.op (ok_box (ht rfl)) rfl ?_
  refine RG.op (ok_box (ht rfl)) rfl ?_
  refine RG.alloc (r := rpDValue) (x := (⟨(0 : Int), (0 : Int), (0 : Int), []⟩ : DValue)) ti37 (fun _ => zrDValue _) rfl (fun b => ?_)
  refine RG.op (ok_assign hI) rfl ?_
  refine RG.nil ?_
  refine AT.next ?_
  refine CG.seq ?_
  refine CG.seq ?_
  refine CG.region ?_
  refine RG.op (ok_load ti24 rfl rfl (ht rfl)) rfl ?_
  obtain ⟨r1, q_r1, h⟩ := bs h
  refine RG.op (ok_call cb6 (f6_ok _ q_r1) ⟨(ht rfl), trivial⟩) rfl ?_
  refine RG.op (ok_assign (ht rfl)) rfl ?_
  refine RG.nil ?_
  refine AT.next ?_
  refine CG.seq ?_
  refine CG.region ?_
  refine RG.op (ok_move (ht rfl)) rfl ?_
  refine RG.op (ok_neqI (ht rfl) hI) rfl ?_
  refine RG.nil ?_
  refine AT.next ?_
  refine CG.cond (ht rfl) (fun hc => ?_) (fun hc => ?_)
  · have h := ct h hc
    refine CG.seq ?_
    refine CG.region ?_
    refine RG.op (ok_build (y := (⟨(0 : Int), (0 : Int), (0 : Int), []⟩ : DValue)) ti37 fs37 zrDValue (rfl)) rfl ?_
    refine RG.op (ok_move (ht rfl)) rfl ?_
    refine RG.storeB ti37 rfl sfld_whole rfl (ht rfl) (ht rfl) ?_
    refine RG.op (ok_assign (ht rfl)) rfl ?_
    refine RG.nil ?_
    refine AT.next ?_
    refine CG.ret ?_
    refine AT.then_ret ?_
    refine AT.settleB 4 rfl ?_
    cases so h
    exact AT.retL (rvs := [.cell 4 37, .tmp 5]) rfl rfl ⟨res_cell ti37 rfl rfl rfl, res_tmp rfl, trivial⟩
  · have h := cf h hc
    refine CG.skip ?_
    refine AT.next ?_
    refine CG.seq ?_
    refine CG.seq ?_
    refine CG.region ?_
    refine RG.op (ok_load ti24 rfl rfl (ht rfl)) rfl ?_
    obtain ⟨r2, q_r2, h⟩ := bs h
    refine RG.callO cb8 (f8_own _ q_r2) ⟨(ht rfl), trivial⟩ rfl (fun l c => ?_)
    refine RG.op (ok_lenO Tryd.underlying33 (.head _) (ht rfl)) rfl ?_
    refine RG.op (ok_move hI) rfl ?_
    refine RG.nil ?_
    refine AT.next ?_
    refine CG.block ?_
    refine CG.have_lenA (.head _) (fun hN => ?_)
    refine CG.loop ?_
    refine LG.sub (LG.list2 (Z := fun ls i x => (r2.drop i = ls) ∧ expr_Eval_l1 e r ls x = some R) (Of := fun _ i x => [arr (rI .i64) 3 l c r2, bx rpDValue 37 b x]) (Gf := fun _ i x => [(2, tPtr rpDExpr e), (3, tPtr (rSl rpDValue) r), (4, tV (bptr b 0)), (17, tV (oslV l c r2.length)), (18, tD (rI .i64) (r2.length : Int)), (19, tD (rI .i64) (i : Int))]) (fun i x h => ?_) (fun e1 tl ih i x h => ?_) r2 0 (⟨(0 : Int), (0 : Int), (0 : Int), []⟩ : DValue) ⟨rfl, h⟩) ⟨rfl, rfl, rfl, rfl, rfl, rfl, trivial⟩
    · obtain ⟨hx, h⟩ := h
      refine LG.unfold ?_
      refine CG.seq ?_
      refine CG.region ?_
      refine RG.op (ok_lss (ht rfl) (ht rfl)) rfl ?_
      refine RG.nil ?_
      refine AT.next ?_
      refine CG.seq ?_
      refine CG.condF (ht rfl) (dropF hx) ?_
      refine CG.exit ?_
      refine AT.then_exit (AT.then_exit (AT.in_exit ?_))
      refine AT.next ?_
      refine CG.seq ?_
      refine CG.region ?_
      obtain ⟨r3, q_r3, h⟩ := bs h
      refine RG.op (ok_call cb20 (f20_ok  q_r3) trivial) rfl ?_
      refine RG.alloc (r := rV) (x := .map none) ti57 (fun _ => ⟨rfl, rfl⟩) rfl (fun b1 => ?_)
      refine RG.eff0 (eff_storeX (r' := rT (tMp (fun y : (DValue → DValue → Option (DValue × Int)) => tFn Tryd.prog (fun (x : DValue × DValue) => [tD rpDValue x.1, tD rpDValue x.2]) (fun (x : DValue × Int) => tT [tD rpDValue x.1, tD (rI .i64) x.2]) (fun (x : DValue × DValue) => y x.1 x.2)) (kvI .i64) r3)) (x' := ()) (q := rT (tMp (fun y : (DValue → DValue → Option (DValue × Int)) => tFn Tryd.prog (fun (x : DValue × DValue) => [tD rpDValue x.1, tD rpDValue x.2]) (fun (x : DValue × Int) => tT [tD rpDValue x.1, tD (rI .i64) x.2]) (fun (x : DValue × DValue) => y x.1 x.2)) (kvI .i64) r3)) (y := ()) ti57 rfl (sfx_whole rfl) rfl (ht rfl) (hTT one_map (show HasTy _ _ _ (tMp (fun y : (DValue → DValue → Option (DValue × Int)) => tFn Tryd.prog (fun (x : DValue × DValue) => [tD rpDValue x.1, tD rpDValue x.2]) (fun (x : DValue × Int) => tT [tD rpDValue x.1, tD (rI .i64) x.2]) (fun (x : DValue × DValue) => y x.1 x.2)) (kvI .i64) r3) from (ht rfl)))) (fun _ => ?_)
      refine (show RG _ _ _ _ (bx (rT (tMp (fun y : (DValue → DValue → Option (DValue × Int)) => tFn Tryd.prog (fun (x : DValue × DValue) => [tD rpDValue x.1, tD rpDValue x.2]) (fun (x : DValue × Int) => tT [tD rpDValue x.1, tD (rI .i64) x.2]) (fun (x : DValue × DValue) => y x.1 x.2)) (kvI .i64) r3)) 57 b1 () :: _) _ from ?_)
      refine RG.settleB 9 rfl ?_
      refine RG.nil ?_
      refine AT.next ?_
      refine CG.seq ?_
      refine CG.region ?_
      refine RG.op (ok_load ti24 rfl rfl (ht rfl)) rfl ?_
      refine RG.op ((show OpOK _ _ _ _ ((tFun Tryd.prog (fun (x : DENode × (List DValue)) => [tD rpDENode x.1, tD (rSl rpDValue) x.2]) (fun (x : DValue × Int) => tT [tD rpDValue x.1, tD (rI .i64) x.2]) (fun (x : DENode × (List DValue)) => (expr_Eval_1 r r3) x.1 x.2))) from ok_makeFunc (cts := [tPtr (rSl rpDValue) r, tPtr (rT (tMp (fun y : (DValue → DValue → Option (DValue × Int)) => tFn Tryd.prog (fun (x : DValue × DValue) => [tD rpDValue x.1, tD rpDValue x.2]) (fun (x : DValue × Int) => tT [tD rpDValue x.1, tD (rI .i64) x.2]) (fun (x : DValue × DValue) => y x.1 x.2)) (kvI .i64) r3)) ()]) (caps := [.tmp 3, .tmp 9]) cb22 ⟨(ht rfl), (ht rfl), trivial⟩ (fun x y h => f22_ok _ _ _ _ h))) rfl ?_
      obtain ⟨r4, q_r4, h⟩ := bs h
      refine RG.op (ok_call cb21 (f21_ok _ _ q_r4) ⟨(ht rfl), (ht rfl), trivial⟩) rfl ?_
      refine RG.op (ok_extract rfl (ht rfl)) rfl ?_
      refine RG.op (ok_extract rfl (ht rfl)) rfl ?_
      refine RG.front1 ?_
      refine RG.storeB ti37 rfl sfld_whole rfl (ht rfl) (ht rfl) ?_
      refine RG.op (ok_assign (ht rfl)) rfl ?_
      refine RG.nil ?_
      refine AT.next ?_
      refine CG.ret ?_
      refine AT.settleB 4 rfl ?_
      refine AT.drop ?_
      cases so h
      exact AT.retL (rvs := [.cell 4 37, .tmp 5]) rfl rfl ⟨res_cell ti37 rfl rfl rfl, res_tmp rfl, trivial⟩
    · obtain ⟨hx, h⟩ := h
      refine LG.unfold ?_
      refine CG.seq ?_
      refine CG.region ?_
      refine RG.op (ok_lss (ht rfl) (ht rfl)) rfl ?_
      refine RG.nil ?_
      refine AT.next ?_
      refine CG.seq ?_
      refine CG.condT (ht rfl) (dropT hx) ?_
      refine CG.skip ?_
      refine AT.next ?_
      refine CG.seq ?_
      refine CG.block ?_
      refine CG.seq ?_
      refine CG.region ?_
      refine RG.op (ok_indexAddrO Tryd.underlying33 ti3 (.head _) (ht rfl) (ht rfl) (dropI hx)) rfl ?_
      refine RG.op (ok_loadE (r := (rI .i64)) (i := (i : Int)) (foff := 0) ti3 rfl rfl fld_whole rfl (.head _) (dropI hx) (ht rfl)) rfl ?_
      refine RG.op (ok_assign (ht rfl)) rfl ?_
      refine RG.nil ?_
      refine AT.next ?_
      refine CG.seq ?_
      refine CG.region ?_
      refine RG.op (ok_move (ht rfl)) rfl ?_
      refine RG.op (ok_load ti26 rfl rfl (ht rfl)) rfl ?_
      refine RG.op (ok_lenSl Tryd.underlying26 (ht rfl)) rfl ?_
      refine RG.op (ok_geq (ht rfl) (ht rfl)) rfl ?_
      refine RG.op (ok_move (ht rfl)) rfl ?_
      obtain ⟨t, q_t, h⟩ := bs h
      refine RG.opGf rfl rfl rfl rfl (fun hg => ok_load ti26 rfl rfl (ht rfl)) ?_
      refine RG.opGf rfl rfl rfl rfl (fun hg => ok_move (ht rfl)) ?_
      obtain ⟨e2, h1t, h0t⟩ := og q_t
      have q_e2g := fun hb => (h1t hb).1
      refine RG.opGf rfl rfl rfl rfl (fun hg => ok_indexAddr Tryd.underlying26 ti37 rfl (htO rfl hg) (htO rfl hg) (q_e2g hg)) ?_
      refine RG.opGf rfl rfl rfl rfl (fun hg => ok_load ti37 rfl rfl (htO rfl hg)) ?_
      obtain ⟨r5, h1t⟩ := og2 (fun hb => (h1t hb).2)
      have q_r5g := fun hb => (h1t hb).1
      refine RG.opGf rfl rfl rfl rfl (fun hg => ok_call cb19 (f19_ok _ (q_r5g hg)) ⟨(htO rfl hg), trivial⟩) ?_
      refine RG.opGf rfl rfl rfl rfl (fun hg => ok_not (htO rfl hg)) ?_
      refine RG.op (ok_pickOrM (ht rfl) (fun hb => (htO rfl (noti hb))) (fun hb => (h1t hb).2) h0t) rfl ?_
      refine RG.nil ?_
      refine AT.next ?_
      refine CG.cond (ht rfl) (fun hc => ?_) (fun hc => ?_)
      · have h := ct h hc
        refine CG.seq ?_
        refine CG.region ?_
        refine RG.op (ok_build (y := (⟨(0 : Int), (0 : Int), (0 : Int), []⟩ : DValue)) ti37 fs37 zrDValue (rfl)) rfl ?_
        refine RG.front1 ?_
        refine RG.storeB ti37 rfl sfld_whole rfl (ht rfl) (ht rfl) ?_
        refine RG.op (ok_assign hI) rfl ?_
        refine RG.nil ?_
        refine AT.next ?_
        refine CG.ret ?_
        refine AT.in_ret (AT.then_ret (AT.then_ret (AT.in_ret (AT.then_ret ?_))))
        refine AT.settleB 4 rfl ?_
        refine AT.drop ?_
        cases so h
        exact AT.retL (rvs := [.cell 4 37, .tmp 5]) rfl rfl ⟨res_cell ti37 rfl rfl rfl, res_tmp rfl, trivial⟩
      · have h := cf h hc
        refine CG.skip ?_
        refine AT.in_normal ?_
        refine AT.next ?_
        refine CG.region ?_
        refine RG.op (ok_incN (dropL hx hN) (ht rfl) hI) rfl ?_
        refine RG.op (ok_move (ht rfl)) rfl ?_
        refine RG.nil ?_
        exact AT.round (LG.sub (ih (i + 1) x ⟨dropS hx, h⟩) ⟨rfl, rfl, rfl, rfl, rfl, rfl, trivial⟩)

set_option maxRecDepth 100000 in
theorem f83_m (l : Option Nat) (c : Nat) (out : (List DENode)) (e : DExpr) {R : (List DENode)} (h : expr_laid out e = some R) : SpecM Tryd.prog 83 [tV (oslV l c out.length), tD rpDExpr e] [tip rpDENode 49 l c out] (fun i : OI => tO rpDENode (i.h 0).1 (i.h 0).2 R) (fun i => [tip rpDENode 49 (i.h 0).1 (i.h 0).2 R]) := by
  refine SpecM.of Tryd.func83 rfl rfl rfl fun w0 S0 => ?_
  refine CG.tipAt 0 rfl ?_
  refine CG.seq ?_
  refine CG.region ?_
  refine RG.op (ok_box (ht rfl)) rfl ?_
  refine RG.fresh false rpDENode 49 ?_
  refine RG.op (ok_assign hVn) rfl ?_
  refine RG.nil ?_
  refine AT.next ?_
  refine CG.seq ?_
  refine CG.region ?_
  refine RG.op (ok_move (ht rfl)) rfl ?_
  refine RG.op (ok_lenSl Tryd.underlying22 (tO_d (ht rfl))) rfl ?_
  refine RG.op (ok_assign (ht rfl)) rfl ?_
  refine RG.nil ?_
  refine AT.next ?_
  refine CG.seq ?_
  refine CG.seq ?_
  refine CG.region ?_
  refine RG.op (ok_fieldAddr fd24_0 rfl flDExpr_0 rfl (ht rfl)) rfl ?_
  refine RG.op (ok_load ti22 rfl rfl (ht rfl)) rfl ?_
  refine RG.op (ok_lenSl Tryd.underlying22 (ht rfl)) rfl ?_
  refine RG.op (ok_move hI) rfl ?_
  refine RG.nil ?_
  refine AT.next ?_
  refine CG.block ?_
  refine CG.have_len (k := 11) rfl (fun hN => ?_)
  refine CG.loop ?_
  refine LG.drop ?_
  refine LG.sub (LG.list4 (Z := fun ls i out1 l1 c1 => (e.Nodes.drop i = ls) ∧ expr_laid_l1 out ls out1 = some R) (Of := fun _ i out1 l1 c1 => [tip rpDENode 49 l1 c1 out1]) (Gf := fun _ i out1 l1 c1 => [(0, tO rpDENode l1 c1 out1), (5, tD (rI .i64) (out.length : Int)), (11, tD (rSl rpDENode) e.Nodes), (12, tD (rI .i64) (e.Nodes.length : Int)), (13, tD (rI .i64) (i : Int))]) (fun i out1 l1 c1 h => ?_) (fun e1 tl ih i out1 l1 c1 h => ?_) e.Nodes 0 out l c ⟨rfl, h⟩) ⟨rfl, rfl, rfl, rfl, rfl, trivial⟩
  · obtain ⟨hx, h⟩ := h
    refine LG.unfold ?_
    refine CG.seq ?_
    refine CG.region ?_
    refine RG.op (ok_lss (ht rfl) (ht rfl)) rfl ?_
    refine RG.nil ?_
    refine AT.next ?_
    refine CG.seq ?_
    refine CG.condF (ht rfl) (dropF hx) ?_
    refine CG.exit ?_
    refine AT.then_exit (AT.then_exit (AT.in_exit ?_))
    refine AT.next ?_
    refine CG.seq ?_
    refine CG.region ?_
    refine RG.op (ok_move (ht rfl)) rfl ?_
    refine RG.op (ok_assign (ht rfl)) rfl ?_
    refine RG.nil ?_
    refine AT.next ?_
    refine CG.ret ?_
    cases so h
    exact AT.retM1 rfl (oi l1 c1) rfl rfl (fun _ _ h => h)
  · obtain ⟨hx, h⟩ := h
    refine LG.unfold ?_
    refine CG.seq ?_
    refine CG.region ?_
    refine RG.op (ok_lss (ht rfl) (ht rfl)) rfl ?_
    refine RG.nil ?_
    refine AT.next ?_
    refine CG.seq ?_
    refine CG.condT (ht rfl) (dropT hx) ?_
    refine CG.skip ?_
    refine AT.next ?_
    refine CG.seq ?_
    refine CG.block ?_
    refine CG.seq ?_
    refine CG.region ?_
    refine RG.op (ok_indexAddr Tryd.underlying22 ti49 rfl (ht rfl) (ht rfl) (dropI hx)) rfl ?_
    refine RG.op (ok_load ti49 rfl rfl (ht rfl)) rfl ?_
    refine RG.alloc (r := rpDENode) (x := (⟨(0 : Int), (0 : Int), (0 : Int), (0 : Int), (⟨(0 : Int), (0 : Int), (0 : Int), []⟩ : DValue)⟩ : DENode)) ti49 (fun _ => zrDENode _) rfl (fun b => ?_)
    refine RG.storeB ti49 rfl sfld_whole rfl (ht rfl) (ht rfl) ?_
    refine RG.nil ?_
    refine AT.next ?_
    refine CG.sjoin1 (Z := fun n => expr_laid_k1 out (expr_laid_l1 out tl) out1 n = some R) (Of := fun n => [tip rpDENode 49 l1 c1 out1, bx rpDENode 49 b n]) (Gf := fun n => [(0, tO rpDENode l1 c1 out1), (5, tD (rI .i64) (out.length : Int)), (7, tV (bptr b 0)), (11, tD (rSl rpDENode) e.Nodes), (12, tD (rI .i64) (e.Nodes.length : Int)), (13, tD (rI .i64) (i : Int))]) (fun n h => ?_) (fun K => ?_)
    · skip
      refine CG.sjoin1 (Z := fun n1 => expr_laid_k2 (expr_laid_l1 out tl) out1 n1 = some R) (Of := fun n1 => [tip rpDENode 49 l1 c1 out1, bx rpDENode 49 b n1]) (Gf := fun n1 => [(0, tO rpDENode l1 c1 out1), (5, tD (rI .i64) (out.length : Int)), (7, tV (bptr b 0)), (11, tD (rSl rpDENode) e.Nodes), (12, tD (rI .i64) (e.Nodes.length : Int)), (13, tD (rI .i64) (i : Int))]) (fun n1 h => ?_) (fun K1 => ?_)
      · skip
        refine CG.region ?_
        refine RG.op (ok_move (ht rfl)) rfl ?_
        refine RG.op (ok_loadB ti49 rfl rfl fld_whole (.tail _ (.head _)) (ht rfl)) rfl ?_
        refine RG.op (ok_buildSlice (r := rpDENode) (ys := [n1]) (xs := [.tmp 34]) Tryd.underlying22 ti49 rfl rfl rfl rfl rfl ⟨(ht rfl), trivial⟩) rfl ?_
        obtain ⟨out2, q_out2, h⟩ := bs h
        refine RG.appendT ti49 rfl rfl rfl rfl Tryd.underlying22 rfl rfl (ht rfl) (ht rfl) q_out2 (fun l2 c2 => ?_)
        refine RG.op (ok_assign (ht rfl)) rfl ?_
        refine RG.nil ?_
        refine AT.in_normal ?_
        refine AT.next ?_
        refine CG.region ?_
        refine RG.op (ok_incN (dropL hx hN) (ht rfl) hI) rfl ?_
        refine RG.op (ok_move (ht rfl)) rfl ?_
        refine RG.nil ?_
        refine AT.front1 ?_
        refine AT.drop ?_
        exact AT.round (LG.sub (ih (i + 1) out2 l2 c2 ⟨dropS hx, h⟩) ⟨rfl, rfl, rfl, rfl, rfl, trivial⟩)
      · skip
        refine CG.seq ?_
        refine CG.region ?_
        refine RG.op (ok_fieldAddrC (n := 2) fd49_2 rfl (ht rfl) rfl) rfl ?_
        refine RG.op (ok_loadB ti3 rfl rfl flDENode_2 (.tail _ (.head _)) (ht rfl)) rfl ?_
        refine RG.op (ok_geq (ht rfl) hI) rfl ?_
        refine RG.nil ?_
        refine AT.next ?_
        refine CG.cond (ht rfl) (fun hc => ?_) (fun hc => ?_)
        · have h := ct h hc
          refine CG.region ?_
          refine RG.op (ok_fieldAddrC (n := 2) fd49_2 rfl (ht rfl) rfl) rfl ?_
          refine RG.op (ok_loadB ti3 rfl rfl flDENode_2 (.tail _ (.head _)) (ht rfl)) rfl ?_
          refine RG.op (ok_move (ht rfl)) rfl ?_
          refine RG.op (ok_add (ht rfl) (ht rfl)) rfl ?_
          refine RG.op (ok_fieldAddrC (n := 2) fd49_2 rfl (ht rfl) rfl) rfl ?_
          refine RG.front1 ?_
          refine RG.storeB ti3 rfl sfDENode_2 rfl (ht rfl) (ht rfl) ?_
          refine RG.nil ?_
          refine AT.front1 ?_
          exact AT.sub (K1 (DENode.mk n.Tag n.L (IntKind.i64.wrap (n.R + (out.length : Int))) n.Col n.Value) h) ⟨rfl, rfl, rfl, rfl, rfl, rfl, trivial⟩
        · have h := cf h hc
          refine CG.skip ?_
          exact AT.sub (K1 n h) ⟨rfl, rfl, rfl, rfl, rfl, rfl, trivial⟩
    · skip
      refine CG.seq ?_
      refine CG.region ?_
      refine RG.op (ok_fieldAddrC (n := 1) fd49_1 rfl (ht rfl) rfl) rfl ?_
      refine RG.op (ok_loadB ti3 rfl rfl flDENode_1 (.head _) (ht rfl)) rfl ?_
      refine RG.op (ok_geq (ht rfl) hI) rfl ?_
      refine RG.nil ?_
      refine AT.next ?_
      refine CG.cond (ht rfl) (fun hc => ?_) (fun hc => ?_)
      · have h := ct h hc
        refine CG.region ?_
        refine RG.op (ok_fieldAddrC (n := 1) fd49_1 rfl (ht rfl) rfl) rfl ?_
        refine RG.op (ok_loadB ti3 rfl rfl flDENode_1 (.head _) (ht rfl)) rfl ?_
        refine RG.op (ok_move (ht rfl)) rfl ?_
        refine RG.op (ok_add (ht rfl) (ht rfl)) rfl ?_
        refine RG.op (ok_fieldAddrC (n := 1) fd49_1 rfl (ht rfl) rfl) rfl ?_
        refine RG.storeB ti3 rfl sfDENode_1 rfl (ht rfl) (ht rfl) ?_
        refine RG.nil ?_
        refine AT.front1 ?_
        exact AT.sub (K (DENode.mk e1.Tag (IntKind.i64.wrap (e1.L + (out.length : Int))) e1.R e1.Col e1.Value) h) ⟨rfl, rfl, rfl, rfl, rfl, rfl, trivial⟩
      · have h := cf h hc
        refine CG.skip ?_
        refine AT.front1 ?_
        exact AT.sub (K e1 h) ⟨rfl, rfl, rfl, rfl, rfl, rfl, trivial⟩

set_option maxRecDepth 100000 in
theorem f48_ok (root : DENode) (l : (List DExpr)) {R : DExpr} (h : expr_joined root l = some R) : Spec Tryd.prog 48 [tD rpDENode root, tD (rSl rpDExpr) l] (tD rpDExpr R) := by
  refine Spec.of Tryd.func48 rfl rfl rfl fun w0 S0 => ?_
  refine CG.seq ?_
  refine CG.region ?_
  refine RG.boxO (ht rfl) rfl (fun b => ?_)
  refine RG.alloc (r := rpDExpr) (x := (⟨[]⟩ : DExpr)) ti24 (fun _ => zrDExpr _) rfl (fun b1 => ?_)
  refine RG.nil ?_
  refine AT.next ?_
  refine CG.seq ?_
  refine CG.region ?_
  refine RG.fresh false rpDENode 49 ?_
  refine RG.op (ok_assign hVn) rfl ?_
  refine RG.nil ?_
  refine AT.next ?_
  refine CG.seq ?_
  refine CG.region ?_
  refine RG.op (ok_buildA (r := (rI .i64)) (ys := [(-1 : Int), (-1 : Int)]) (xs := [.const (.int .i64 (-1)), .const (.int .i64 (-1))]) Tryd.underlying68 ti3 rfl ti68 rfl rfl ⟨hI, hI, trivial⟩) rfl ?_
  refine RG.alloc (r := (rArr (rI .i64) 2)) (x := (List.replicate 2 (0 : Int))) ti68 (fun _ => arr_zero (r := (rI .i64)) 2 (fun _ => rfl) _) rfl (fun b2 => ?_)
  refine RG.storeB ti68 rfl sfld_whole rfl (ht rfl) (ht rfl) ?_
  refine RG.nil ?_
  refine AT.next ?_
  refine CG.seq ?_
  refine CG.seq ?_
  refine CG.region ?_
  refine RG.op (ok_move (ht rfl)) rfl ?_
  refine RG.op (ok_lenSl Tryd.underlying79 (ht rfl)) rfl ?_
  refine RG.op (ok_move hI) rfl ?_
  refine RG.nil ?_
  refine AT.next ?_
  refine CG.block ?_
  refine CG.have_len (k := 10) rfl (fun hN => ?_)
  refine CG.loop ?_
  refine LG.front1 ?_
  refine LG.freeze ?_
  refine LG.tipAt 5 rfl ?_
  refine LG.front1 ?_
  refine LG.front2 ?_
  refine LG.front3 ?_
  refine LG.front3 ?_
  refine LG.sub (LG.list5 (Z := fun ls i out l1 c at1 => (l.drop i = ls) ∧ expr_joined_l1 root ls i out at1 = some R) (Of := fun _ i out l1 c at1 => [tip rpDENode 49 l1 c out, bx rpDENode 49 b root, bx rpDExpr 24 b1 (⟨[]⟩ : DExpr), bx (rArr (rI .i64) 2) 68 b2 at1]) (Gf := fun _ i out l1 c at1 => [(2, tV (bptr b 0)), (4, tV (bptr b1 0)), (5, tO rpDENode l1 c out), (6, tV (bptr b2 0)), (10, tD (rSl rpDExpr) l), (11, tD (rI .i64) (l.length : Int)), (12, tD (rI .i64) (i : Int))]) (fun i out l1 c at1 h => ?_) (fun e tl ih i out l1 c at1 h => ?_) l 0 ([] : List DENode) none 0 ([(-1 : Int), (-1 : Int)]) ⟨rfl, h⟩) ⟨rfl, rfl, rfl, rfl, rfl, rfl, rfl, trivial⟩
  · obtain ⟨hx, h⟩ := h
    refine LG.unfold ?_
    refine CG.seq ?_
    refine CG.region ?_
    refine RG.op (ok_lss (ht rfl) (ht rfl)) rfl ?_
    refine RG.nil ?_
    refine AT.next ?_
    refine CG.seq ?_
    refine CG.condF (ht rfl) (dropF hx) ?_
    refine CG.exit ?_
    refine AT.then_exit (AT.then_exit (AT.in_exit ?_))
    refine AT.next ?_
    refine CG.seq ?_
    obtain ⟨e1, q_e1, h⟩ := bs h
    obtain ⟨e2, q_e2, h⟩ := bs h
    refine CG.drawS 6 [tc (tV (bptr b2 ((0 : Int).toNat * 1))), tc (tD (rI .i64) e1), tc (tV (bptr b2 ((1 : Int).toNat * 1))), tc (tD (rI .i64) e2), tc (tV (bptr b 1)), tc (tAny)] [false, false, false, false, false, true] [fun _ => [tip rpDENode 49 l1 c out, bx rpDENode 49 b root, bx rpDExpr 24 b1 (⟨[]⟩ : DExpr), bx (rArr (rI .i64) 2) 68 b2 at1], fun sg => [bx rpDENode 49 b ({ root with L := e1 } : DENode), tip rpDENode 49 l1 c out, bx rpDExpr 24 b1 (⟨[]⟩ : DExpr), bx (rArr (rI .i64) 2) 68 b2 at1]] rfl mixed rfl rfl rfl rfl rfl
      ⟨⟨[⟨6, fun _ => tV (bptr b2 0), none⟩], _, 0, 0, rfl, ⟨(fun _ => rfl), trivial⟩, rfl, rfl, rfl, rfl, rfl, win1 (fun sg => OpG.plain rfl (ok_indexAddrX Tryd.underlying68 ti3 (.tail _ (.tail _ (.tail _ (.head _)))) (ht rfl) hI q_e1))⟩,
      ⟨⟨[⟨26, fun _ => tV (bptr b2 ((0 : Int).toNat * 1)), some 0⟩], _, 0, 0, rfl, ⟨(fun _ => rfl), trivial⟩, rfl, rfl, rfl, rfl, rfl, win1 (fun sg => OpG.plain rfl (ok_loadX ti3 rfl rfl (.tail _ (.tail _ (.tail _ (.head _)))) q_e1 (ht rfl)))⟩,
      ⟨⟨[⟨6, fun _ => tV (bptr b2 0), none⟩], _, 0, 1, rfl, ⟨(fun _ => rfl), trivial⟩, rfl, rfl, rfl, rfl, rfl, winS (fun sg => OpG.plain rfl (ok_indexAddrX Tryd.underlying68 ti3 (.tail _ (.tail _ (.tail _ (.head _)))) (ht rfl) hI q_e2)) (win1 (fun sg => OpG.plain rfl (ok_indexAddrX Tryd.underlying68 ti3 (.tail _ (.tail _ (.tail _ (.head _)))) (ht rfl) hI q_e2)))⟩,
      ⟨⟨[⟨28, fun _ => tV (bptr b2 ((1 : Int).toNat * 1)), some 2⟩], _, 0, 1, rfl, ⟨(fun _ => rfl), trivial⟩, rfl, rfl, rfl, rfl, rfl, winS (fun sg => OpG.plain rfl (ok_loadX ti3 rfl rfl (.tail _ (.tail _ (.tail _ (.head _)))) q_e2 (ht rfl))) (win1 (fun sg => OpG.plain rfl (ok_loadX ti3 rfl rfl (.tail _ (.tail _ (.tail _ (.head _)))) q_e2 (ht rfl))))⟩,
      ⟨⟨[⟨2, fun _ => tV (bptr b 0), none⟩], _, 0, 0, rfl, ⟨(fun _ => rfl), trivial⟩, rfl, rfl, rfl, rfl, rfl, fun _ sg _ _ => OpG.plain rfl (ok_fieldAddrC (n := 1) fd49_1 rfl (ht rfl) rfl)⟩,
      ⟨⟨[⟨30, fun _ => tV (bptr b 1), some 4⟩, ⟨27, fun _ => tD (rI .i64) e1, some 1⟩], _, rfl, ⟨(fun _ => rfl), (fun _ => rfl), trivial⟩, rfl, rfl, rfl, fun sg => EffG.plain rfl (EffOK.fr1 (eff_storeX ti3 rfl (sfx_of sfDENode_1) rfl (ht rfl) (ht rfl)))⟩,
      trivial⟩⟩⟩⟩⟩⟩ (fun sg => ?_)
    refine (show RG _ _ _ _ [bx rpDENode 49 b ({ root with L := e1 } : DENode), tip rpDENode 49 l1 c out, bx rpDExpr 24 b1 (⟨[]⟩ : DExpr), bx (rArr (rI .i64) 2) 68 b2 at1] _ from ?_)
    refine RG.op (ok_fieldAddrC (n := 2) fd49_2 rfl (ht rfl) rfl) rfl ?_
    refine RG.storeB ti3 rfl sfDENode_2 rfl (ht rfl) (ht rfl) ?_
    refine RG.nil ?_
    refine AT.next ?_
    refine CG.seq ?_
    refine CG.region ?_
    refine RG.op (ok_move (ht rfl)) rfl ?_
    refine RG.op (ok_loadB ti49 rfl rfl fld_whole (.head _) (ht rfl)) rfl ?_
    refine RG.op (ok_buildSlice (r := rpDENode) (ys := [(DENode.mk ({ root with L := e1 } : DENode).Tag ({ root with L := e1 } : DENode).L e2 ({ root with L := e1 } : DENode).Col ({ root with L := e1 } : DENode).Value)]) (xs := [.tmp 33]) Tryd.underlying22 ti49 rfl rfl rfl rfl rfl ⟨(ht rfl), trivial⟩) rfl ?_
    refine RG.front1 ?_
    obtain ⟨l2, q_l2, h⟩ := bs h
    refine RG.appendT ti49 rfl rfl rfl rfl Tryd.underlying22 rfl rfl (ht rfl) (ht rfl) q_l2 (fun l3 c1 => ?_)
    refine RG.op (ok_build (y := (⟨l2⟩ : DExpr)) ti24 fs24 zrDExpr (⟨_, _, _, _, _, rfl, sfDExpr_0, rfl, (tO_d (ht rfl)), rfl⟩)) rfl ?_
    refine RG.front2 ?_
    refine RG.storeB ti24 rfl sfld_whole rfl (ht rfl) (ht rfl) ?_
    refine RG.settleB 4 rfl ?_
    refine RG.nil ?_
    refine AT.next ?_
    refine CG.ret ?_
    refine AT.drop ?_
    refine AT.drop ?_
    refine AT.drop ?_
    cases so h
    exact AT.ret1c rfl ti24 rfl rfl rfl
  · obtain ⟨hx, h⟩ := h
    refine LG.unfold ?_
    refine CG.seq ?_
    refine CG.region ?_
    refine RG.op (ok_lss (ht rfl) (ht rfl)) rfl ?_
    refine RG.nil ?_
    refine AT.next ?_
    refine CG.seq ?_
    refine CG.condT (ht rfl) (dropT hx) ?_
    refine CG.skip ?_
    refine AT.next ?_
    refine CG.seq ?_
    refine CG.block ?_
    refine CG.seq ?_
    refine CG.region ?_
    refine RG.op (ok_move (ht rfl)) rfl ?_
    refine RG.op (ok_indexAddr Tryd.underlying79 ti24 rfl (ht rfl) (ht rfl) (dropI hx)) rfl ?_
    refine RG.op (ok_load ti24 rfl rfl (ht rfl)) rfl ?_
    refine RG.alloc (r := rpDExpr) (x := (⟨[]⟩ : DExpr)) ti24 (fun _ => zrDExpr _) rfl (fun b3 => ?_)
    refine RG.op (ok_assign (ht rfl)) rfl ?_
    refine RG.storeB ti24 rfl sfld_whole rfl (ht rfl) (ht rfl) ?_
    refine RG.settleB 8 rfl ?_
    refine RG.nil ?_
    refine AT.next ?_
    refine CG.seq ?_
    refine CG.region ?_
    refine RG.op (ok_move (ht rfl)) rfl ?_
    refine RG.op (ok_load ti24 rfl rfl (ht rfl)) rfl ?_
    obtain ⟨r, q_r, h⟩ := bs h
    refine RG.callM [tip rpDENode 49 l1 c out] _ rfl cb83 (f83_m l1 c _ _ q_r) ⟨(tO_v (ht rfl)), (ht rfl), trivial⟩ rfl (fun i1 => ?_)
    refine (show RG _ _ _ _ [tip rpDENode 49 (i1.h 0).1 (i1.h 0).2 r, bx rpDENode 49 b root, bx rpDExpr 24 b1 (⟨[]⟩ : DExpr), bx (rArr (rI .i64) 2) 68 b2 at1] ((19, tO rpDENode (i1.h 0).1 (i1.h 0).2 r) :: _) from ?_)
    refine RG.op (ok_assign (ht rfl)) rfl ?_
    refine RG.nil ?_
    refine AT.next ?_
    refine CG.region ?_
    refine RG.op (ok_move (ht rfl)) rfl ?_
    refine RG.op (ok_move (ht rfl)) rfl ?_
    refine RG.op (ok_lenSl Tryd.underlying22 (tO_d (ht rfl))) rfl ?_
    refine RG.op (ok_sub (ht rfl) hI) rfl ?_
    obtain ⟨e3, q_e3, h⟩ := bs h
    refine RG.op (ok_indexAddrX Tryd.underlying68 ti3 (.tail _ (.tail _ (.tail _ (.head _)))) (ht rfl) (ht rfl) q_e3) rfl ?_
    refine RG.front3 ?_
    obtain ⟨ar, q_ar, h⟩ := bs h
    refine RG.storeX ti3 rfl q_e3 (so q_ar) (ht rfl) (ht rfl) ?_
    refine RG.nil ?_
    refine AT.in_normal ?_
    refine AT.next ?_
    refine CG.region ?_
    refine RG.op (ok_incN (dropL hx hN) (ht rfl) hI) rfl ?_
    refine RG.op (ok_move (ht rfl)) rfl ?_
    refine RG.nil ?_
    refine AT.front3 ?_
    refine AT.front3 ?_
    refine AT.front3 ?_
    exact AT.round (LG.sub (ih (i + 1) r (i1.h 0).1 (i1.h 0).2 ar ⟨dropS hx, h⟩) ⟨rfl, rfl, rfl, rfl, rfl, rfl, rfl, trivial⟩)

set_option maxRecDepth 100000 in
theorem f23_ok (root : DENode) (l : (List DExpr)) {R : DExpr × Int} (h : expr_made root l = some R) : Spec Tryd.prog 23 [tD rpDENode root, tD (rSl rpDExpr) l] (tT [tD rpDExpr R.1, tD (rI .i64) R.2]) := by
  refine Spec.of Tryd.func23 rfl rfl rfl fun w0 S0 => ?_
  refine CG.seq ?_
  refine CG.region ?_
  refine RG.op (ok_box (ht rfl)) rfl ?_
  refine RG.alloc (r := rpDExpr) (x := (⟨[]⟩ : DExpr)) ti24 (fun _ => zrDExpr _) rfl (fun b => ?_)
  refine RG.op (ok_assign hI) rfl ?_
  refine RG.nil ?_
  refine AT.next ?_
  refine CG.seq ?_
  refine CG.seq ?_
  refine CG.region ?_
  refine RG.op (ok_move (ht rfl)) rfl ?_
  refine RG.op (ok_lenSl Tryd.underlying79 (ht rfl)) rfl ?_
  refine RG.op (ok_move hI) rfl ?_
  refine RG.nil ?_
  refine AT.next ?_
  refine CG.block ?_
  refine CG.have_len (k := 11) rfl (fun hN => ?_)
  refine CG.loop ?_
  refine LG.sub (LG.list2 (Z := fun ls i x => (l.drop i = ls) ∧ expr_made_l1 root l ls x = some R) (Of := fun _ i x => [bx rpDExpr 24 b x]) (Gf := fun _ i x => [(1, tD (rSl rpDExpr) l), (2, tPtr rpDENode root), (4, tV (bptr b 0)), (11, tD (rSl rpDExpr) l), (12, tD (rI .i64) (l.length : Int)), (13, tD (rI .i64) (i : Int))]) (fun i x h => ?_) (fun e tl ih i x h => ?_) l 0 (⟨[]⟩ : DExpr) ⟨rfl, h⟩) ⟨rfl, rfl, rfl, rfl, rfl, rfl, trivial⟩
  · obtain ⟨hx, h⟩ := h
    refine LG.unfold ?_
    refine CG.seq ?_
    refine CG.region ?_
    refine RG.op (ok_lss (ht rfl) (ht rfl)) rfl ?_
    refine RG.nil ?_
    refine AT.next ?_
    refine CG.seq ?_
    refine CG.condF (ht rfl) (dropF hx) ?_
    refine CG.exit ?_
    refine AT.then_exit (AT.then_exit (AT.in_exit ?_))
    refine AT.next ?_
    refine CG.seq ?_
    refine CG.region ?_
    refine RG.op (ok_load ti49 rfl rfl (ht rfl)) rfl ?_
    refine RG.op (ok_move (ht rfl)) rfl ?_
    obtain ⟨r, q_r, h⟩ := bs h
    refine RG.op (ok_call cb48 (f48_ok _ _ q_r) ⟨(ht rfl), (ht rfl), trivial⟩) rfl ?_
    refine RG.alloc (r := rpDExpr) (x := (⟨[]⟩ : DExpr)) ti24 (fun _ => zrDExpr _) rfl (fun b1 => ?_)
    refine RG.storeB ti24 rfl sfld_whole rfl (ht rfl) (ht rfl) ?_
    refine RG.settleB 9 rfl ?_
    refine RG.nil ?_
    refine AT.next ?_
    refine CG.seq ?_
    refine CG.seq ?_
    refine CG.region ?_
    refine RG.op (ok_load ti24 rfl rfl (ht rfl)) rfl ?_
    obtain ⟨r1, q_r1, h⟩ := bs h
    refine RG.op (ok_call cb6 (f6_ok _ q_r1) ⟨(ht rfl), trivial⟩) rfl ?_
    refine RG.op (ok_assign (ht rfl)) rfl ?_
    refine RG.nil ?_
    refine AT.next ?_
    refine CG.seq ?_
    refine CG.region ?_
    refine RG.op (ok_move (ht rfl)) rfl ?_
    refine RG.op (ok_neqI (ht rfl) hI) rfl ?_
    refine RG.nil ?_
    refine AT.next ?_
    refine CG.cond (ht rfl) (fun hc => ?_) (fun hc => ?_)
    · have h := ct h hc
      refine CG.seq ?_
      refine CG.region ?_
      refine RG.op (ok_build (y := (⟨[]⟩ : DExpr)) ti24 fs24 zrDExpr (rfl)) rfl ?_
      refine RG.op (ok_move (ht rfl)) rfl ?_
      refine RG.storeB ti24 rfl sfld_whole rfl (ht rfl) (ht rfl) ?_
      refine RG.op (ok_assign (ht rfl)) rfl ?_
      refine RG.nil ?_
      refine AT.next ?_
      refine CG.ret ?_
      refine AT.then_ret ?_
      refine AT.settleB 4 rfl ?_
      cases so h
      exact AT.retL (rvs := [.cell 4 24, .tmp 5]) rfl rfl ⟨res_cell ti24 rfl rfl rfl, res_tmp rfl, trivial⟩
    · have h := cf h hc
      refine CG.skip ?_
      refine AT.next ?_
      refine CG.seq ?_
      refine CG.region ?_
      refine RG.op (ok_load ti24 rfl rfl (ht rfl)) rfl ?_
      refine RG.storeB ti24 rfl sfld_whole rfl (ht rfl) (ht rfl) ?_
      refine RG.op (ok_assign hI) rfl ?_
      refine RG.nil ?_
      refine AT.next ?_
      refine CG.ret ?_
      refine AT.settleB 4 rfl ?_
      cases so h
      exact AT.retL (rvs := [.cell 4 24, .tmp 5]) rfl rfl ⟨res_cell ti24 rfl rfl rfl, res_tmp rfl, trivial⟩
  · obtain ⟨hx, h⟩ := h
    refine LG.unfold ?_
    refine CG.seq ?_
    refine CG.region ?_
    refine RG.op (ok_lss (ht rfl) (ht rfl)) rfl ?_
    refine RG.nil ?_
    refine AT.next ?_
    refine CG.seq ?_
    refine CG.condT (ht rfl) (dropT hx) ?_
    refine CG.skip ?_
    refine AT.next ?_
    refine CG.seq ?_
    refine CG.block ?_
    refine CG.seq ?_
    refine CG.region ?_
    refine RG.op (ok_indexAddr Tryd.underlying79 ti24 rfl (ht rfl) (ht rfl) (dropI hx)) rfl ?_
    refine RG.op (ok_load ti24 rfl rfl (ht rfl)) rfl ?_
    refine RG.alloc (r := rpDExpr) (x := (⟨[]⟩ : DExpr)) ti24 (fun _ => zrDExpr _) rfl (fun b2 => ?_)
    refine RG.storeB ti24 rfl sfld_whole rfl (ht rfl) (ht rfl) ?_
    refine RG.settleB 7 rfl ?_
    refine RG.nil ?_
    refine AT.next ?_
    refine CG.seq ?_
    refine CG.region ?_
    refine RG.op (ok_load ti24 rfl rfl (ht rfl)) rfl ?_
    obtain ⟨r2, q_r2, h⟩ := bs h
    refine RG.op (ok_call cb6 (f6_ok _ q_r2) ⟨(ht rfl), trivial⟩) rfl ?_
    refine RG.op (ok_assign (ht rfl)) rfl ?_
    refine RG.nil ?_
    refine AT.next ?_
    refine CG.seq ?_
    refine CG.region ?_
    refine RG.op (ok_move (ht rfl)) rfl ?_
    refine RG.op (ok_neqI (ht rfl) hI) rfl ?_
    refine RG.nil ?_
    refine AT.next ?_
    refine CG.cond (ht rfl) (fun hc => ?_) (fun hc => ?_)
    · have h := ct h hc
      refine CG.seq ?_
      refine CG.region ?_
      refine RG.op (ok_build (y := (⟨[]⟩ : DExpr)) ti24 fs24 zrDExpr (rfl)) rfl ?_
      refine RG.op (ok_move (ht rfl)) rfl ?_
      refine RG.storeB ti24 rfl sfld_whole rfl (ht rfl) (ht rfl) ?_
      refine RG.op (ok_assign (ht rfl)) rfl ?_
      refine RG.nil ?_
      refine AT.next ?_
      refine CG.ret ?_
      refine AT.in_ret (AT.then_ret (AT.then_ret (AT.in_ret (AT.then_ret ?_))))
      refine AT.settleB 4 rfl ?_
      cases so h
      exact AT.retL (rvs := [.cell 4 24, .tmp 5]) rfl rfl ⟨res_cell ti24 rfl rfl rfl, res_tmp rfl, trivial⟩
    · have h := cf h hc
      refine CG.skip ?_
      refine AT.in_normal ?_
      refine AT.next ?_
      refine CG.region ?_
      refine RG.op (ok_incN (dropL hx hN) (ht rfl) hI) rfl ?_
      refine RG.op (ok_move (ht rfl)) rfl ?_
      refine RG.nil ?_
      exact AT.round (LG.sub (ih (i + 1) x ⟨dropS hx, h⟩) ⟨rfl, rfl, rfl, rfl, rfl, rfl, trivial⟩)

set_option maxRecDepth 100000 in
theorem f10_ok (tag : Int) (l : DExpr) (r : DExpr) {R : DExpr × Int} (h : expr_Two tag l r = some R) : Spec Tryd.prog 10 [tD (rI .i64) tag, tD rpDExpr l, tD rpDExpr r] (tT [tD rpDExpr R.1, tD (rI .i64) R.2]) := by
  refine Spec.of Tryd.func10 rfl rfl rfl fun w0 S0 => ?_
  refine CG.seq ?_
  refine CG.region ?_
  refine RG.op (ok_box (ht rfl)) rfl ?_
  refine RG.op (ok_box (ht rfl)) rfl ?_
  refine RG.alloc (r := rpDExpr) (x := (⟨[]⟩ : DExpr)) ti24 (fun _ => zrDExpr _) rfl (fun b => ?_)
  refine RG.op (ok_assign hI) rfl ?_
  refine RG.nil ?_
  refine AT.next ?_
  refine CG.seq ?_
  refine CG.region ?_
  refine RG.op (ok_move (ht rfl)) rfl ?_
  refine RG.op (ok_build (y := (⟨tag, (0 : Int), (0 : Int), (0 : Int), (⟨(0 : Int), (0 : Int), (0 : Int), []⟩ : DValue)⟩ : DENode)) ti49 fs49 zrDENode (⟨_, _, _, _, _, rfl, sfDENode_0, rfl, (ht rfl), rfl⟩)) rfl ?_
  refine RG.op (ok_load ti24 rfl rfl (ht rfl)) rfl ?_
  refine RG.op (ok_load ti24 rfl rfl (ht rfl)) rfl ?_
  refine RG.op (ok_buildSlice (r := rpDExpr) (ys := [l, r]) (xs := [.tmp 10, .tmp 11]) Tryd.underlying79 ti24 rfl rfl rfl rfl rfl ⟨(ht rfl), (ht rfl), trivial⟩) rfl ?_
  obtain ⟨r1, q_r1, h⟩ := bs h
  refine RG.op (ok_call cb23 (f23_ok _ _ q_r1) ⟨(ht rfl), (ht rfl), trivial⟩) rfl ?_
  refine RG.op (ok_extract rfl (ht rfl)) rfl ?_
  refine RG.op (ok_extract rfl (ht rfl)) rfl ?_
  refine RG.storeB ti24 rfl sfld_whole rfl (ht rfl) (ht rfl) ?_
  refine RG.settleB 6 rfl ?_
  refine RG.op (ok_assign (ht rfl)) rfl ?_
  refine RG.nil ?_
  refine AT.next ?_
  refine CG.ret ?_
  cases so h
  exact AT.retL (rvs := [.cell 6 24, .tmp 7]) rfl rfl ⟨res_cell ti24 rfl rfl rfl, res_tmp rfl, trivial⟩

set_option maxRecDepth 100000 in
theorem f11_ok (n : Int) {R : DExpr} (h : law10_col n = some R) : Spec Tryd.prog 11 [tD (rI .i64) n] (tD rpDExpr R) := by
  refine Spec.of Tryd.func11 rfl rfl rfl fun w0 S0 => ?_
  refine CG.seq ?_
  refine CG.region ?_
  refine RG.alloc (r := rpDExpr) (x := (⟨[]⟩ : DExpr)) ti24 (fun _ => zrDExpr _) rfl (fun b => ?_)
  refine RG.nil ?_
  refine AT.next ?_
  refine CG.seq ?_
  refine CG.region ?_
  refine RG.op (ok_move (ht rfl)) rfl ?_
  refine RG.op (ok_build (y := (⟨(2 : Int), (-1 : Int), (-1 : Int), n, (⟨(0 : Int), (0 : Int), (0 : Int), []⟩ : DValue)⟩ : DENode)) ti49 fs49 zrDENode (⟨_, _, _, _, _, rfl, sfDENode_0, rfl, hI, ⟨_, _, _, _, _, rfl, sfDENode_1, rfl, hI, ⟨_, _, _, _, _, rfl, sfDENode_2, rfl, hI, ⟨_, _, _, _, _, rfl, sfDENode_3, rfl, (ht rfl), rfl⟩⟩⟩⟩)) rfl ?_
  refine RG.op (ok_buildSlice (r := rpDENode) (ys := [(⟨(2 : Int), (-1 : Int), (-1 : Int), n, (⟨(0 : Int), (0 : Int), (0 : Int), []⟩ : DValue)⟩ : DENode)]) (xs := [.tmp 4]) Tryd.underlying22 ti49 rfl rfl rfl rfl rfl ⟨(ht rfl), trivial⟩) rfl ?_
  refine RG.op (ok_build (y := (⟨[(⟨(2 : Int), (-1 : Int), (-1 : Int), n, (⟨(0 : Int), (0 : Int), (0 : Int), []⟩ : DValue)⟩ : DENode)]⟩ : DExpr)) ti24 fs24 zrDExpr (⟨_, _, _, _, _, rfl, sfDExpr_0, rfl, (ht rfl), rfl⟩)) rfl ?_
  refine RG.storeB ti24 rfl sfld_whole rfl (ht rfl) (ht rfl) ?_
  refine RG.settleB 2 rfl ?_
  refine RG.nil ?_
  refine AT.next ?_
  refine CG.ret ?_
  cases so h
  exact AT.ret1c rfl ti24 rfl rfl rfl

set_option maxRecDepth 100000 in
theorem f12_ok (e : DExpr) (left : Int) {R : Int × Int × Bool} (h : expr_Pair e left = some R) : Spec Tryd.prog 12 [tD rpDExpr e, tD (rI .i64) left] (tT [tD (rI .i64) R.1, tD (rI .i64) R.2.1, tD rB R.2.2]) := by
  refine Spec.of Tryd.func12 rfl rfl rfl fun w0 S0 => ?_
  refine CG.seq ?_
  refine CG.region ?_
  refine RG.op (ok_box (ht rfl)) rfl ?_
  refine RG.op (ok_assign hI) rfl ?_
  refine RG.op (ok_assign hI) rfl ?_
  refine RG.op (ok_assign hB) rfl ?_
  refine RG.nil ?_
  refine AT.next ?_
  refine CG.seq ?_
  refine CG.seq ?_
  refine CG.region ?_
  refine RG.op (ok_load ti24 rfl rfl (ht rfl)) rfl ?_
  obtain ⟨r, q_r, h⟩ := bs h
  refine RG.op (ok_call cb6 (f6_ok _ q_r) ⟨(ht rfl), trivial⟩) rfl ?_
  refine RG.op (ok_neqI (ht rfl) hI) rfl ?_
  refine RG.op (ok_move (ht rfl)) rfl ?_
  refine RG.opGf rfl rfl rfl rfl (fun hg => ok_fieldAddr fd24_0 rfl flDExpr_0 rfl (ht rfl)) ?_
  refine RG.opGf rfl rfl rfl rfl (fun hg => ok_load ti22 rfl rfl (htO rfl hg)) ?_
  refine RG.opGf rfl rfl rfl rfl (fun hg => ok_lenSl Tryd.underlying22 (htO rfl hg)) ?_
  refine RG.opGf rfl rfl rfl rfl (fun hg => ok_neqI (htO rfl hg) hI) ?_
  refine RG.op (ok_pickOr (ht rfl) (fun hb => (htO rfl (noti hb)))) rfl ?_
  refine RG.op (ok_move (ht rfl)) rfl ?_
  obtain ⟨t, q_t, h⟩ := bs h
  refine RG.opGf rfl rfl rfl rfl (fun hg => ok_fieldAddr fd24_0 rfl flDExpr_0 rfl (ht rfl)) ?_
  refine RG.opGf rfl rfl rfl rfl (fun hg => ok_load ti22 rfl rfl (htO rfl hg)) ?_
  obtain ⟨e1, h1t, h0t⟩ := og q_t
  have q_e1g := fun hb => (h1t hb).1
  refine RG.opGf rfl rfl rfl rfl (fun hg => ok_indexAddr Tryd.underlying22 ti49 rfl (htO rfl hg) hI (q_e1g hg)) ?_
  refine RG.opGf rfl rfl rfl rfl (fun hg => ok_fieldAddr fd49_0 rfl flDENode_0 rfl (htO rfl hg)) ?_
  refine RG.opGf rfl rfl rfl rfl (fun hg => ok_load ti3 rfl rfl (htO rfl hg)) ?_
  refine RG.opGf rfl rfl rfl rfl (fun hg => ok_neqI (htO rfl hg) hI) ?_
  refine RG.op (ok_pickOrM (ht rfl) (fun hb => (htO rfl (noti hb))) (fun hb => (h1t hb).2) h0t) rfl ?_
  refine RG.nil ?_
  refine AT.next ?_
  refine CG.cond (ht rfl) (fun hc => ?_) (fun hc => ?_)
  · have h := ct h hc
    refine CG.seq ?_
    refine CG.region ?_
    refine RG.op (ok_assign hI) rfl ?_
    refine RG.op (ok_assign hI) rfl ?_
    refine RG.op (ok_assign hB) rfl ?_
    refine RG.nil ?_
    refine AT.next ?_
    refine CG.ret ?_
    refine AT.then_ret ?_
    cases so h
    exact AT.ret3 rfl rfl rfl rfl
  · have h := cf h hc
    refine CG.skip ?_
    refine AT.next ?_
    refine CG.seq ?_
    obtain ⟨e2, q_e2, h⟩ := bs h
    obtain ⟨e3, q_e3, h⟩ := bs h
    refine CG.drawU 11 [tc (tPtr (rSl rpDENode) e.Nodes), tc (tD (rSl rpDENode) e.Nodes), tc (tPtr rpDENode e2), tc (tD rpDENode e2), tc (tPtr (rSl rpDENode) e.Nodes), tc (tD (rSl rpDENode) e.Nodes), tc (tPtr rpDENode e3), tc (tD rpDENode e3), ([8], fun s => tV (bptr ((s.getD 0 zoi).h 0).2 0)), ([9], fun s => tV (bptr ((s.getD 0 zoi).h 0).2 0)), tc (tAny)] [false, false, false, false, false, false, false, false, true, true, true] [([], fun _ => []), ([8], fun sg => [bx rpDENode 49 ((sg 8).h 0).2 (⟨(0 : Int), (0 : Int), (0 : Int), (0 : Int), (⟨(0 : Int), (0 : Int), (0 : Int), []⟩ : DValue)⟩ : DENode)]), ([9], fun sg => [bx rpDENode 49 ((sg 9).h 0).2 (⟨(0 : Int), (0 : Int), (0 : Int), (0 : Int), (⟨(0 : Int), (0 : Int), (0 : Int), []⟩ : DValue)⟩ : DENode)]), ([8, 9], fun sg => [bx rpDENode 49 ((sg 9).h 0).2 (⟨(0 : Int), (0 : Int), (0 : Int), (0 : Int), (⟨(0 : Int), (0 : Int), (0 : Int), []⟩ : DValue)⟩ : DENode), bx rpDENode 49 ((sg 8).h 0).2 (⟨(0 : Int), (0 : Int), (0 : Int), (0 : Int), (⟨(0 : Int), (0 : Int), (0 : Int), []⟩ : DValue)⟩ : DENode)]), ([8, 9, 10], fun sg => [bx rpDENode 49 ((sg 8).h 0).2 e2, bx rpDENode 49 ((sg 9).h 0).2 (⟨(0 : Int), (0 : Int), (0 : Int), (0 : Int), (⟨(0 : Int), (0 : Int), (0 : Int), []⟩ : DValue)⟩ : DENode)])] (fun _ => rfl) mixed rfl rfl rfl rfl
      ⟨⟨[⟨2, fun _ => tPtr rpDExpr e, none⟩], _, [[], [8], [9], [8, 9]], rfl, ⟨(fun _ => rfl), trivial⟩, rfl, rfl, rfl, rfl, rfl, ⟨fun sg => OpG.plain rfl (ok_fieldAddr fd24_0 rfl flDExpr_0 rfl (ht rfl)), fun sg => OpG.plain rfl (ok_fieldAddr fd24_0 rfl flDExpr_0 rfl (ht rfl)), fun sg => OpG.plain rfl (ok_fieldAddr fd24_0 rfl flDExpr_0 rfl (ht rfl)), fun sg => OpG.plain rfl (ok_fieldAddr fd24_0 rfl flDExpr_0 rfl (ht rfl)), trivial⟩⟩,
      ⟨⟨[⟨28, fun _ => tPtr (rSl rpDENode) e.Nodes, some 0⟩], _, [[], [8], [9], [8, 9]], rfl, ⟨(fun _ => rfl), trivial⟩, rfl, rfl, rfl, rfl, rfl, ⟨fun sg => OpG.plain rfl (ok_load ti22 rfl rfl (ht rfl)), fun sg => OpG.plain rfl (ok_load ti22 rfl rfl (ht rfl)), fun sg => OpG.plain rfl (ok_load ti22 rfl rfl (ht rfl)), fun sg => OpG.plain rfl (ok_load ti22 rfl rfl (ht rfl)), trivial⟩⟩,
      ⟨⟨[⟨29, fun _ => tD (rSl rpDENode) e.Nodes, some 1⟩], _, [[], [8], [9], [8, 9]], rfl, ⟨(fun _ => rfl), trivial⟩, rfl, rfl, rfl, rfl, rfl, ⟨fun sg => OpG.plain rfl (ok_indexAddr Tryd.underlying22 ti49 rfl (ht rfl) hI q_e2), fun sg => OpG.plain rfl (ok_indexAddr Tryd.underlying22 ti49 rfl (ht rfl) hI q_e2), fun sg => OpG.plain rfl (ok_indexAddr Tryd.underlying22 ti49 rfl (ht rfl) hI q_e2), fun sg => OpG.plain rfl (ok_indexAddr Tryd.underlying22 ti49 rfl (ht rfl) hI q_e2), trivial⟩⟩,
      ⟨⟨[⟨30, fun _ => tPtr rpDENode e2, some 2⟩], _, [[], [8], [9], [8, 9]], rfl, ⟨(fun _ => rfl), trivial⟩, rfl, rfl, rfl, rfl, rfl, ⟨fun sg => OpG.plain rfl (ok_load ti49 rfl rfl (ht rfl)), fun sg => OpG.plain rfl (ok_load ti49 rfl rfl (ht rfl)), fun sg => OpG.plain rfl (ok_load ti49 rfl rfl (ht rfl)), fun sg => OpG.plain rfl (ok_load ti49 rfl rfl (ht rfl)), trivial⟩⟩,
      ⟨⟨[⟨2, fun _ => tPtr rpDExpr e, none⟩], _, [[], [8], [9], [8, 9], [8, 9, 10]], rfl, ⟨(fun _ => rfl), trivial⟩, rfl, rfl, rfl, rfl, rfl, ⟨fun sg => OpG.plain rfl (ok_fieldAddr fd24_0 rfl flDExpr_0 rfl (ht rfl)), fun sg => OpG.plain rfl (ok_fieldAddr fd24_0 rfl flDExpr_0 rfl (ht rfl)), fun sg => OpG.plain rfl (ok_fieldAddr fd24_0 rfl flDExpr_0 rfl (ht rfl)), fun sg => OpG.plain rfl (ok_fieldAddr fd24_0 rfl flDExpr_0 rfl (ht rfl)), fun sg => OpG.plain rfl (ok_fieldAddr fd24_0 rfl flDExpr_0 rfl (ht rfl)), trivial⟩⟩,
      ⟨⟨[⟨32, fun _ => tPtr (rSl rpDENode) e.Nodes, some 4⟩], _, [[], [8], [9], [8, 9], [8, 9, 10]], rfl, ⟨(fun _ => rfl), trivial⟩, rfl, rfl, rfl, rfl, rfl, ⟨fun sg => OpG.plain rfl (ok_load ti22 rfl rfl (ht rfl)), fun sg => OpG.plain rfl (ok_load ti22 rfl rfl (ht rfl)), fun sg => OpG.plain rfl (ok_load ti22 rfl rfl (ht rfl)), fun sg => OpG.plain rfl (ok_load ti22 rfl rfl (ht rfl)), fun sg => OpG.plain rfl (ok_load ti22 rfl rfl (ht rfl)), trivial⟩⟩,
      ⟨⟨[⟨33, fun _ => tD (rSl rpDENode) e.Nodes, some 5⟩], _, [[], [8], [9], [8, 9], [8, 9, 10]], rfl, ⟨(fun _ => rfl), trivial⟩, rfl, rfl, rfl, rfl, rfl, ⟨fun sg => OpG.plain rfl (ok_indexAddr Tryd.underlying22 ti49 rfl (ht rfl) hI q_e3), fun sg => OpG.plain rfl (ok_indexAddr Tryd.underlying22 ti49 rfl (ht rfl) hI q_e3), fun sg => OpG.plain rfl (ok_indexAddr Tryd.underlying22 ti49 rfl (ht rfl) hI q_e3), fun sg => OpG.plain rfl (ok_indexAddr Tryd.underlying22 ti49 rfl (ht rfl) hI q_e3), fun sg => OpG.plain rfl (ok_indexAddr Tryd.underlying22 ti49 rfl (ht rfl) hI q_e3), trivial⟩⟩,
      ⟨⟨[⟨34, fun _ => tPtr rpDENode e3, some 6⟩], _, [[], [8], [9], [8, 9], [8, 9, 10]], rfl, ⟨(fun _ => rfl), trivial⟩, rfl, rfl, rfl, rfl, rfl, ⟨fun sg => OpG.plain rfl (ok_load ti49 rfl rfl (ht rfl)), fun sg => OpG.plain rfl (ok_load ti49 rfl rfl (ht rfl)), fun sg => OpG.plain rfl (ok_load ti49 rfl rfl (ht rfl)), fun sg => OpG.plain rfl (ok_load ti49 rfl rfl (ht rfl)), fun sg => OpG.plain rfl (ok_load ti49 rfl rfl (ht rfl)), trivial⟩⟩,
      ⟨⟨[], _, [([], [8]), ([9], [8, 9])], rfl, trivial, rfl, rfl, rfl, rfl, rfl, ⟨fun sg => EffG.plain rfl (eff_alloc (r := rpDENode) (x := (⟨(0 : Int), (0 : Int), (0 : Int), (0 : Int), (⟨(0 : Int), (0 : Int), (0 : Int), []⟩ : DValue)⟩ : DENode)) ti49 (fun _ => zrDENode _)), fun sg => EffG.plain rfl (EffOK.post_imp (post := fun x__ => (fun (sg : Nat → OI) => [bx rpDENode 49 ((sg 8).h 0).2 (⟨(0 : Int), (0 : Int), (0 : Int), (0 : Int), (⟨(0 : Int), (0 : Int), (0 : Int), []⟩ : DValue)⟩ : DENode), bx rpDENode 49 ((sg 9).h 0).2 (⟨(0 : Int), (0 : Int), (0 : Int), (0 : Int), (⟨(0 : Int), (0 : Int), (0 : Int), []⟩ : DValue)⟩ : DENode)]) (upd sg 8 x__)) (eff_alloc (r := rpDENode) (x := (⟨(0 : Int), (0 : Int), (0 : Int), (0 : Int), (⟨(0 : Int), (0 : Int), (0 : Int), []⟩ : DValue)⟩ : DENode)) ti49 (fun _ => zrDENode _)) (fun h => Own.pick [1, 0] rfl h)), trivial⟩⟩,
      ⟨⟨[], _, [([], [9]), ([8], [8, 9])], rfl, trivial, rfl, rfl, rfl, rfl, rfl, ⟨fun sg => EffG.plain rfl (eff_alloc (r := rpDENode) (x := (⟨(0 : Int), (0 : Int), (0 : Int), (0 : Int), (⟨(0 : Int), (0 : Int), (0 : Int), []⟩ : DValue)⟩ : DENode)) ti49 (fun _ => zrDENode _)), fun sg => EffG.plain rfl (eff_alloc (r := rpDENode) (x := (⟨(0 : Int), (0 : Int), (0 : Int), (0 : Int), (⟨(0 : Int), (0 : Int), (0 : Int), []⟩ : DValue)⟩ : DENode)) ti49 (fun _ => zrDENode _)), trivial⟩⟩,
      ⟨⟨[⟨7, fun sg => tV (bptr ((sg 8).h 0).2 0), some 8⟩, ⟨31, fun _ => tD rpDENode e2, some 3⟩], _, [([8, 9], [8, 9, 10])], rfl, ⟨(fun _ => rfl), (fun _ => rfl), trivial⟩, rfl, rfl, rfl, rfl, rfl, ⟨fun sg => EffG.plain rfl (EffOK.fr1 (eff_storeX ti49 rfl (sfx_of sfld_whole) rfl (ht rfl) (ht rfl))), trivial⟩⟩,
      trivial⟩⟩⟩⟩⟩⟩⟩⟩⟩⟩⟩ (fun sg => ?_)
    refine (show RG _ _ _ _ [bx rpDENode 49 ((sg 8).h 0).2 e2, bx rpDENode 49 ((sg 9).h 0).2 (⟨(0 : Int), (0 : Int), (0 : Int), (0 : Int), (⟨(0 : Int), (0 : Int), (0 : Int), []⟩ : DValue)⟩ : DENode)] _ from ?_)
    refine RG.settleB 7 rfl ?_
    refine RG.storeB ti49 rfl sfld_whole rfl (ht rfl) (ht rfl) ?_
    refine RG.settleB 8 rfl ?_
    refine RG.nil ?_
    refine AT.next ?_
    refine CG.seq ?_
    refine CG.seq ?_
    refine CG.region ?_
    refine RG.op (ok_fieldAddr fd49_0 rfl flDENode_0 rfl (ht rfl)) rfl ?_
    refine RG.op (ok_load ti3 rfl rfl (ht rfl)) rfl ?_
    refine RG.op (ok_neqI (ht rfl) hI) rfl ?_
    refine RG.op (ok_move (ht rfl)) rfl ?_
    refine RG.opGf rfl rfl rfl rfl (fun hg => ok_fieldAddr fd49_0 rfl flDENode_0 rfl (ht rfl)) ?_
    refine RG.opGf rfl rfl rfl rfl (fun hg => ok_load ti3 rfl rfl (htO rfl hg)) ?_
    refine RG.opGf rfl rfl rfl rfl (fun hg => ok_neqI (htO rfl hg) hI) ?_
    refine RG.op (ok_pickOr (ht rfl) (fun hb => (htO rfl (noti hb)))) rfl ?_
    refine RG.nil ?_
    refine AT.next ?_
    refine CG.cond (ht rfl) (fun hc => ?_) (fun hc => ?_)
    · have h := ct h hc
      refine CG.seq ?_
      refine CG.region ?_
      refine RG.op (ok_assign hI) rfl ?_
      refine RG.op (ok_assign hI) rfl ?_
      refine RG.op (ok_assign hB) rfl ?_
      refine RG.nil ?_
      refine AT.next ?_
      refine CG.ret ?_
      refine AT.then_ret ?_
      cases so h
      exact AT.ret3 rfl rfl rfl rfl
    · have h := cf h hc
      refine CG.skip ?_
      refine AT.next ?_
      refine CG.seq ?_
      refine CG.draw (ts := [tPtr (rI .i64) e2.Col, tD (rI .i64) e2.Col, tPtr (rI .i64) e3.Col, tD (rI .i64) e3.Col, tD (rI .i64) (min e2.Col e3.Col), tPtr (rI .i64) e2.Col, tD (rI .i64) e2.Col, tPtr (rI .i64) e3.Col, tD (rI .i64) e3.Col, tD (rI .i64) (max e2.Col e3.Col), tD (rI .i64) (min e2.Col e3.Col), tD (rI .i64) (max e2.Col e3.Col)]) mixed rfl rfl
        ⟨⟨[⟨7, _, none⟩], _, rfl, ⟨rfl, trivial⟩, rfl, rfl, OpG.plain rfl (ok_fieldAddr fd49_3 rfl flDENode_3 rfl (ht rfl))⟩,
        ⟨⟨[⟨44, _, some 0⟩], _, rfl, ⟨rfl, trivial⟩, rfl, rfl, OpG.plain rfl (ok_load ti3 rfl rfl (ht rfl))⟩,
        ⟨⟨[⟨8, _, none⟩], _, rfl, ⟨rfl, trivial⟩, rfl, rfl, OpG.plain rfl (ok_fieldAddr fd49_3 rfl flDENode_3 rfl (ht rfl))⟩,
        ⟨⟨[⟨46, _, some 2⟩], _, rfl, ⟨rfl, trivial⟩, rfl, rfl, OpG.plain rfl (ok_load ti3 rfl rfl (ht rfl))⟩,
        ⟨⟨[⟨45, _, some 1⟩, ⟨47, _, some 3⟩], _, rfl, ⟨rfl, rfl, trivial⟩, rfl, rfl, OpG.plain rfl (ok_min2 (ht rfl) (ht rfl))⟩,
        ⟨⟨[⟨7, _, none⟩], _, rfl, ⟨rfl, trivial⟩, rfl, rfl, OpG.plain rfl (ok_fieldAddr fd49_3 rfl flDENode_3 rfl (ht rfl))⟩,
        ⟨⟨[⟨49, _, some 5⟩], _, rfl, ⟨rfl, trivial⟩, rfl, rfl, OpG.plain rfl (ok_load ti3 rfl rfl (ht rfl))⟩,
        ⟨⟨[⟨8, _, none⟩], _, rfl, ⟨rfl, trivial⟩, rfl, rfl, OpG.plain rfl (ok_fieldAddr fd49_3 rfl flDENode_3 rfl (ht rfl))⟩,
        ⟨⟨[⟨51, _, some 7⟩], _, rfl, ⟨rfl, trivial⟩, rfl, rfl, OpG.plain rfl (ok_load ti3 rfl rfl (ht rfl))⟩,
        ⟨⟨[⟨50, _, some 6⟩, ⟨52, _, some 8⟩], _, rfl, ⟨rfl, rfl, trivial⟩, rfl, rfl, OpG.plain rfl (ok_max2 (ht rfl) (ht rfl))⟩,
        ⟨⟨[⟨48, _, some 4⟩], _, rfl, ⟨rfl, trivial⟩, rfl, rfl, OpG.plain rfl (ok_assign (ht rfl))⟩,
        ⟨⟨[⟨53, _, some 9⟩], _, rfl, ⟨rfl, trivial⟩, rfl, rfl, OpG.plain rfl (ok_assign (ht rfl))⟩,
        trivial⟩⟩⟩⟩⟩⟩⟩⟩⟩⟩⟩⟩ ?_
      refine AT.next ?_
      refine CG.seq ?_
      refine CG.seq ?_
      refine CG.region ?_
      refine RG.op (ok_move (ht rfl)) rfl ?_
      refine RG.op (ok_move (ht rfl)) rfl ?_
      refine RG.op (ok_geq (ht rfl) (ht rfl)) rfl ?_
      refine RG.op (ok_move (ht rfl)) rfl ?_
      refine RG.opGf rfl rfl rfl rfl (fun hg => ok_move (ht rfl)) ?_
      refine RG.opGf rfl rfl rfl rfl (fun hg => ok_move (ht rfl)) ?_
      refine RG.opGf rfl rfl rfl rfl (fun hg => ok_lss (htO rfl hg) (htO rfl hg)) ?_
      refine RG.op (ok_pickOr (ht rfl) (fun hb => (htO rfl (noti hb)))) rfl ?_
      refine RG.nil ?_
      refine AT.next ?_
      refine CG.cond (ht rfl) (fun hc => ?_) (fun hc => ?_)
      · have h := ct h hc
        refine CG.seq ?_
        refine CG.region ?_
        refine RG.op (ok_assign hI) rfl ?_
        refine RG.op (ok_assign hI) rfl ?_
        refine RG.op (ok_assign hB) rfl ?_
        refine RG.nil ?_
        refine AT.next ?_
        refine CG.ret ?_
        refine AT.then_ret ?_
        cases so h
        exact AT.ret3 rfl rfl rfl rfl
      · have h := cf h hc
        refine CG.skip ?_
        refine AT.next ?_
        refine CG.seq ?_
        refine CG.region ?_
        refine RG.op (ok_move (ht rfl)) rfl ?_
        refine RG.op (ok_move (ht rfl)) rfl ?_
        refine RG.op (ok_move (ht rfl)) rfl ?_
        refine RG.op (ok_sub (ht rfl) (ht rfl)) rfl ?_
        refine RG.op (ok_assign (ht rfl)) rfl ?_
        refine RG.op (ok_assign (ht rfl)) rfl ?_
        refine RG.op (ok_assign hB) rfl ?_
        refine RG.nil ?_
        refine AT.next ?_
        refine CG.ret ?_
        cases so h
        exact AT.ret3 rfl rfl rfl rfl

end Go.Proofs.YtdhledkpgaeoaaaDoor

