/- Facts of this claim: P10. -/
import Derived.Test.YtegigakgcnhiaaaGreatDoorLfT
import Derived.Test.YtegigakgcnhiaaaGreatDoorLfP9
namespace Go.Proofs.YtegigakgcnhiaaaGreatDoor
open Go

set_option maxRecDepth 100000 in
theorem f86_ok (s1 : (List DValue)) (s2 : (List DValue)) {R : Bool} (h : slices_Equal_api_Row_api_Value s1 s2 = some R) : Spec Tryz.prog 86 [tD (rSl rpDValue) s1, tD (rSl rpDValue) s2] (tD rB R) := by
  refine Spec.of Tryz.func86 rfl rfl rfl fun w0 S0 => ?_
  refine CG.seq ?_
  refine CG.region ?_
  refine RG.op (ok_assign hB) rfl ?_
  refine RG.nil ?_
  refine AT.next ?_
  refine CG.seq ?_
  refine CG.seq ?_
  refine CG.region ?_
  refine RG.op (ok_move (ht rfl)) rfl ?_
  refine RG.op (ok_lenSl Tryz.underlying45 (ht rfl)) rfl ?_
  refine RG.op (ok_move (ht rfl)) rfl ?_
  refine RG.op (ok_lenSl Tryz.underlying45 (ht rfl)) rfl ?_
  refine RG.op (ok_neqI (ht rfl) (ht rfl)) rfl ?_
  refine RG.nil ?_
  refine AT.next ?_
  refine CG.cond (ht rfl) (fun hc => ?_) (fun hc => ?_)
  · have h := ct h hc
    refine CG.seq ?_
    refine CG.region ?_
    refine RG.op (ok_assign hB) rfl ?_
    refine RG.nil ?_
    refine AT.next ?_
    refine CG.ret ?_
    refine AT.then_ret ?_
    cases so h
    exact AT.ret1 rfl rfl
  · have h := cf h hc
    refine CG.skip ?_
    refine AT.next ?_
    refine CG.seq ?_
    refine CG.seq ?_
    refine CG.region ?_
    refine RG.op (ok_move (ht rfl)) rfl ?_
    refine RG.op (ok_lenSl Tryz.underlying45 (ht rfl)) rfl ?_
    refine RG.op (ok_move hI) rfl ?_
    refine RG.nil ?_
    refine AT.next ?_
    refine CG.block ?_
    refine CG.have_len (k := 11) rfl (fun hN => ?_)
    refine CG.loop ?_
    refine LG.sub (LG.list1 (Z := fun ls i  => (s1.drop i = ls) ∧ slices_Equal_api_Row_api_Value_l1 s2 ls i  = some R) (Of := fun _ i  => []) (Gf := fun _ i  => [(0, tD (rSl rpDValue) s1), (1, tD (rSl rpDValue) s2), (12, tD (rI .i64) (s1.length : Int)), (13, tD (rI .i64) (i : Int))]) (fun i  h => ?_) (fun e tl ih i  h => ?_) s1 0  ⟨rfl, h⟩) ⟨rfl, rfl, rfl, rfl, trivial⟩
    · obtain ⟨hx, h⟩ := h
      refine LG.unfold ?_
      refine CG.seq ?_
      refine CG.region ?_
      refine RG.op (ok_lss (ht rfl) (ht rfl)) rfl ?_
      refine RG.nil ?_
      refine AT.next ?_
      refine CG.seq ?_
      refine CG.condF (ht rfl) (dropF hx) ?_
      refine CG.exit ?_
      refine AT.then_exit (AT.then_exit (AT.in_exit ?_))
      refine AT.next ?_
      refine CG.seq ?_
      refine CG.region ?_
      refine RG.op (ok_assign hB) rfl ?_
      refine RG.nil ?_
      refine AT.next ?_
      refine CG.ret ?_
      cases so h
      exact AT.ret1 rfl rfl
    · obtain ⟨hx, h⟩ := h
      refine LG.unfold ?_
      refine CG.seq ?_
      refine CG.region ?_
      refine RG.op (ok_lss (ht rfl) (ht rfl)) rfl ?_
      refine RG.nil ?_
      refine AT.next ?_
      refine CG.seq ?_
      refine CG.condT (ht rfl) (dropT hx) ?_
      refine CG.skip ?_
      refine AT.next ?_
      refine CG.seq ?_
      refine CG.block ?_
      refine CG.seq ?_
      refine CG.region ?_
      refine RG.op (ok_move (ht rfl)) rfl ?_
      refine RG.op (ok_assign (ht rfl)) rfl ?_
      refine RG.nil ?_
      refine AT.next ?_
      refine CG.seq ?_
      obtain ⟨e1, q_e1, h⟩ := bs h
      refine CG.draw (ts := [tD (rSl rpDValue) s1, tD (rI .i64) (i : Int), tPtr rpDValue e, tD rpDValue e, tD (rSl rpDValue) s2, tD (rI .i64) (i : Int), tPtr rpDValue e1, tD rpDValue e1, tD rB (!decide (e = e1))]) mixed rfl rfl
        ⟨⟨[⟨0, _, none⟩], _, rfl, ⟨rfl, trivial⟩, rfl, rfl, OpG.plain rfl (ok_move (ht rfl))⟩,
        ⟨⟨[⟨5, _, none⟩], _, rfl, ⟨rfl, trivial⟩, rfl, rfl, OpG.plain rfl (ok_move (ht rfl))⟩,
        ⟨⟨[⟨16, _, some 0⟩, ⟨17, _, some 1⟩], _, rfl, ⟨rfl, rfl, trivial⟩, rfl, rfl, OpG.plain rfl (ok_indexAddr Tryz.underlying45 ti89 rfl (ht rfl) (ht rfl) (dropI hx))⟩,
        ⟨⟨[⟨18, _, some 2⟩], _, rfl, ⟨rfl, trivial⟩, rfl, rfl, OpG.plain rfl (ok_load ti89 rfl rfl (ht rfl))⟩,
        ⟨⟨[⟨1, _, none⟩], _, rfl, ⟨rfl, trivial⟩, rfl, rfl, OpG.plain rfl (ok_move (ht rfl))⟩,
        ⟨⟨[⟨5, _, none⟩], _, rfl, ⟨rfl, trivial⟩, rfl, rfl, OpG.plain rfl (ok_move (ht rfl))⟩,
        ⟨⟨[⟨20, _, some 4⟩, ⟨21, _, some 5⟩], _, rfl, ⟨rfl, rfl, trivial⟩, rfl, rfl, OpG.plain rfl (ok_indexAddr Tryz.underlying45 ti89 rfl (ht rfl) (ht rfl) q_e1)⟩,
        ⟨⟨[⟨22, _, some 6⟩], _, rfl, ⟨rfl, trivial⟩, rfl, rfl, OpG.plain rfl (ok_load ti89 rfl rfl (ht rfl))⟩,
        ⟨⟨[⟨19, _, some 3⟩, ⟨23, _, some 7⟩], _, rfl, ⟨rfl, rfl, trivial⟩, rfl, rfl, OpG.plain rfl (ok_neqD eq89 (ht rfl) (ht rfl))⟩,
        trivial⟩⟩⟩⟩⟩⟩⟩⟩⟩ ?_
      refine AT.next ?_
      refine CG.cond (ht rfl) (fun hc => ?_) (fun hc => ?_)
      · have h := ct h hc
        refine CG.seq ?_
        refine CG.region ?_
        refine RG.op (ok_assign hB) rfl ?_
        refine RG.nil ?_
        refine AT.next ?_
        refine CG.ret ?_
        refine AT.in_ret (AT.then_ret (AT.then_ret (AT.in_ret (AT.then_ret ?_))))
        cases so h
        exact AT.ret1 rfl rfl
      · have h := cf h hc
        refine CG.skip ?_
        refine AT.in_normal ?_
        refine AT.next ?_
        refine CG.region ?_
        refine RG.op (ok_incN (dropL hx hN) (ht rfl) hI) rfl ?_
        refine RG.op (ok_move (ht rfl)) rfl ?_
        refine RG.nil ?_
        exact AT.round (LG.sub (ih (i + 1)  ⟨dropS hx, h⟩) ⟨rfl, rfl, rfl, rfl, trivial⟩)

set_option maxRecDepth 100000 in
theorem f59_ok (a1 : (List DValue)) (b : (List DValue)) {R : Bool} (h : row_equal a1 b = some R) : Spec Tryz.prog 59 [tD (rSl rpDValue) a1, tD (rSl rpDValue) b] (tD rB R) := by
  refine Spec.of Tryz.func59 rfl rfl rfl fun w0 S0 => ?_
  refine CG.seq ?_
  refine CG.region ?_
  refine RG.op (ok_assign hB) rfl ?_
  refine RG.nil ?_
  refine AT.next ?_
  refine CG.seq ?_
  refine CG.region ?_
  refine RG.op (ok_move (ht rfl)) rfl ?_
  refine RG.op (ok_move (ht rfl)) rfl ?_
  obtain ⟨r, q_r, h⟩ := bs h
  refine RG.op (ok_call cb86 (f86_ok _ _ q_r) ⟨(ht rfl), (ht rfl), trivial⟩) rfl ?_
  refine RG.op (ok_assign (ht rfl)) rfl ?_
  refine RG.nil ?_
  refine AT.next ?_
  refine CG.ret ?_
  cases so h
  exact AT.ret1 rfl rfl

set_option maxRecDepth 100000 in
theorem f30_ok (a1 : (List (List DValue))) (b : (List (List DValue))) {R : Bool} (h : row_Same a1 b = some R) : Spec Tryz.prog 30 [tD (rSl (rSl rpDValue)) a1, tD (rSl (rSl rpDValue)) b] (tD rB R) := by
  refine Spec.of Tryz.func30 rfl rfl rfl fun w0 S0 => ?_
  refine CG.seq ?_
  refine CG.region ?_
  refine RG.op (ok_assign hB) rfl ?_
  refine RG.nil ?_
  refine AT.next ?_
  refine CG.seq ?_
  refine CG.region ?_
  refine RG.op (ok_move (ht rfl)) rfl ?_
  refine RG.op (ok_move (ht rfl)) rfl ?_
  obtain ⟨r, q_r, h⟩ := bs h
  refine RG.op (ok_call cb58 (f58_ok _ _ _ q_r) ⟨(ht rfl), (ht rfl), (hFn cb59 fun x y h => f59_ok _ _ h), trivial⟩) rfl ?_
  refine RG.op (ok_assign (ht rfl)) rfl ?_
  refine RG.nil ?_
  refine AT.next ?_
  refine CG.ret ?_
  cases so h
  exact AT.ret1 rfl rfl

set_option maxRecDepth 100000 in
theorem f60_ok (s1 : (List DBase)) (s2 : (List DBase)) (eq : (DBase → DBase → Option Bool)) {R : Bool} (h : slices_EqualFunc_api_Base_api_Base_api_Base_api_Base s1 s2 eq = some R) : Spec Tryz.prog 60 [tD (rSl rpDBase) s1, tD (rSl rpDBase) s2, (tFun Tryz.prog (fun (x : DBase × DBase) => [tD rpDBase x.1, tD rpDBase x.2]) (fun (x : Bool) => tD rB x) (fun (x : DBase × DBase) => eq x.1 x.2))] (tD rB R) := by
  refine Spec.of Tryz.func60 rfl rfl rfl fun w0 S0 => ?_
  refine CG.seq ?_
  refine CG.region ?_
  refine RG.op (ok_assign hB) rfl ?_
  refine RG.nil ?_
  refine AT.next ?_
  refine CG.seq ?_
  refine CG.seq ?_
  refine CG.region ?_
  refine RG.op (ok_move (ht rfl)) rfl ?_
  refine RG.op (ok_lenSl Tryz.underlying34 (ht rfl)) rfl ?_
  refine RG.op (ok_move (ht rfl)) rfl ?_
  refine RG.op (ok_lenSl Tryz.underlying34 (ht rfl)) rfl ?_
  refine RG.op (ok_neqI (ht rfl) (ht rfl)) rfl ?_
  refine RG.nil ?_
  refine AT.next ?_
  refine CG.cond (ht rfl) (fun hc => ?_) (fun hc => ?_)
  · have h := ct h hc
    refine CG.seq ?_
    refine CG.region ?_
    refine RG.op (ok_assign hB) rfl ?_
    refine RG.nil ?_
    refine AT.next ?_
    refine CG.ret ?_
    refine AT.then_ret ?_
    cases so h
    exact AT.ret1 rfl rfl
  · have h := cf h hc
    refine CG.skip ?_
    refine AT.next ?_
    refine CG.seq ?_
    refine CG.seq ?_
    refine CG.region ?_
    refine RG.op (ok_move (ht rfl)) rfl ?_
    refine RG.op (ok_lenSl Tryz.underlying34 (ht rfl)) rfl ?_
    refine RG.op (ok_move hI) rfl ?_
    refine RG.nil ?_
    refine AT.next ?_
    refine CG.block ?_
    refine CG.have_len (k := 15) rfl (fun hN => ?_)
    refine CG.loop ?_
    refine LG.sub (LG.list1 (Z := fun ls i  => (s1.drop i = ls) ∧ slices_EqualFunc_api_Base_api_Base_api_Base_api_Base_l1 s2 eq ls i  = some R) (Of := fun _ i  => []) (Gf := fun _ i  => [(1, tD (rSl rpDBase) s2), (2, (tFun Tryz.prog (fun (x : DBase × DBase) => [tD rpDBase x.1, tD rpDBase x.2]) (fun (x : Bool) => tD rB x) (fun (x : DBase × DBase) => eq x.1 x.2))), (15, tD (rSl rpDBase) s1), (16, tD (rI .i64) (s1.length : Int)), (17, tD (rI .i64) (i : Int))]) (fun i  h => ?_) (fun e tl ih i  h => ?_) s1 0  ⟨rfl, h⟩) ⟨rfl, rfl, rfl, rfl, rfl, trivial⟩
    · obtain ⟨hx, h⟩ := h
      refine LG.unfold ?_
      refine CG.seq ?_
      refine CG.region ?_
      refine RG.op (ok_lss (ht rfl) (ht rfl)) rfl ?_
      refine RG.nil ?_
      refine AT.next ?_
      refine CG.seq ?_
      refine CG.condF (ht rfl) (dropF hx) ?_
      refine CG.exit ?_
      refine AT.then_exit (AT.then_exit (AT.in_exit ?_))
      refine AT.next ?_
      refine CG.seq ?_
      refine CG.region ?_
      refine RG.op (ok_assign hB) rfl ?_
      refine RG.nil ?_
      refine AT.next ?_
      refine CG.ret ?_
      cases so h
      exact AT.ret1 rfl rfl
    · obtain ⟨hx, h⟩ := h
      refine LG.unfold ?_
      refine CG.seq ?_
      refine CG.region ?_
      refine RG.op (ok_lss (ht rfl) (ht rfl)) rfl ?_
      refine RG.nil ?_
      refine AT.next ?_
      refine CG.seq ?_
      refine CG.condT (ht rfl) (dropT hx) ?_
      refine CG.skip ?_
      refine AT.next ?_
      refine CG.seq ?_
      refine CG.block ?_
      refine CG.seq ?_
      refine CG.region ?_
      refine RG.op (ok_move (ht rfl)) rfl ?_
      refine RG.op (ok_indexAddr Tryz.underlying34 ti27 rfl (ht rfl) (ht rfl) (dropI hx)) rfl ?_
      refine RG.op (ok_load ti27 rfl rfl (ht rfl)) rfl ?_
      refine RG.alloc (r := rpDBase) (x := (⟨[]⟩ : DBase)) ti27 (fun _ => zrDBase _) rfl (fun b => ?_)
      refine RG.op (ok_assign (ht rfl)) rfl ?_
      refine RG.storeB ti27 rfl sfld_whole rfl (ht rfl) (ht rfl) ?_
      refine RG.settleB 8 rfl ?_
      refine RG.nil ?_
      refine AT.next ?_
      refine CG.seq ?_
      refine CG.region ?_
      refine RG.op (ok_move (ht rfl)) rfl ?_
      refine RG.op (ok_move (ht rfl)) rfl ?_
      obtain ⟨e1, q_e1, h⟩ := bs h
      refine RG.op (ok_indexAddr Tryz.underlying34 ti27 rfl (ht rfl) (ht rfl) q_e1) rfl ?_
      refine RG.op (ok_load ti27 rfl rfl (ht rfl)) rfl ?_
      refine RG.alloc (r := rpDBase) (x := (⟨[]⟩ : DBase)) ti27 (fun _ => zrDBase _) rfl (fun b1 => ?_)
      refine RG.storeB ti27 rfl sfld_whole rfl (ht rfl) (ht rfl) ?_
      refine RG.settleB 9 rfl ?_
      refine RG.nil ?_
      refine AT.next ?_
      refine CG.seq ?_
      refine CG.region ?_
      refine RG.op (ok_move (ht rfl)) rfl ?_
      refine RG.op (ok_load ti27 rfl rfl (ht rfl)) rfl ?_
      refine RG.op (ok_load ti27 rfl rfl (ht rfl)) rfl ?_
      obtain ⟨r, q_r, h⟩ := bs h
      refine RG.op (ok_callV (args := (fun (x : DBase × DBase) => [tD rpDBase x.1, tD rpDBase x.2])) (res := (fun (x : Bool) => tD rB x)) (f := (fun (x : DBase × DBase) => eq x.1 x.2)) (x := ((e, e1) : DBase × DBase)) (ht rfl) q_r ⟨(ht rfl), (ht rfl), trivial⟩) rfl ?_
      refine RG.op (ok_not (ht rfl)) rfl ?_
      refine RG.nil ?_
      refine AT.next ?_
      refine CG.cond (ht rfl) (fun hc => ?_) (fun hc => ?_)
      · have h := ct h hc
        refine CG.seq ?_
        refine CG.region ?_
        refine RG.op (ok_assign hB) rfl ?_
        refine RG.nil ?_
        refine AT.next ?_
        refine CG.ret ?_
        refine AT.in_ret (AT.then_ret (AT.then_ret (AT.in_ret (AT.then_ret ?_))))
        cases so h
        exact AT.ret1 rfl rfl
      · have h := cf h hc
        refine CG.skip ?_
        refine AT.in_normal ?_
        refine AT.next ?_
        refine CG.region ?_
        refine RG.op (ok_incN (dropL hx hN) (ht rfl) hI) rfl ?_
        refine RG.op (ok_move (ht rfl)) rfl ?_
        refine RG.nil ?_
        exact AT.round (LG.sub (ih (i + 1)  ⟨dropS hx, h⟩) ⟨rfl, rfl, rfl, rfl, rfl, trivial⟩)

set_option maxRecDepth 100000 in
theorem f62_ok (s1 : (List (List (List DValue)))) (s2 : (List (List (List DValue)))) (eq : ((List (List DValue)) → (List (List DValue)) → Option Bool)) {R : Bool} (h : slices_EqualFunc_api_Row_api_Row_api_Row_api_Row_x s1 s2 eq = some R) : Spec Tryz.prog 62 [tD (rSl (rSl (rSl rpDValue))) s1, tD (rSl (rSl (rSl rpDValue))) s2, (tFun Tryz.prog (fun (x : (List (List DValue)) × (List (List DValue))) => [tD (rSl (rSl rpDValue)) x.1, tD (rSl (rSl rpDValue)) x.2]) (fun (x : Bool) => tD rB x) (fun (x : (List (List DValue)) × (List (List DValue))) => eq x.1 x.2))] (tD rB R) := by
  refine Spec.of Tryz.func62 rfl rfl rfl fun w0 S0 => ?_
  refine CG.seq ?_
  refine CG.region ?_
  refine RG.op (ok_assign hB) rfl ?_
  refine RG.nil ?_
  refine AT.next ?_
  refine CG.seq ?_
  refine CG.seq ?_
  refine CG.region ?_
  refine RG.op (ok_move (ht rfl)) rfl ?_
  refine RG.op (ok_lenSl Tryz.underlying25 (ht rfl)) rfl ?_
  refine RG.op (ok_move (ht rfl)) rfl ?_
  refine RG.op (ok_lenSl Tryz.underlying25 (ht rfl)) rfl ?_
  refine RG.op (ok_neqI (ht rfl) (ht rfl)) rfl ?_
  refine RG.nil ?_
  refine AT.next ?_
  refine CG.cond (ht rfl) (fun hc => ?_) (fun hc => ?_)
  · have h := ct h hc
    refine CG.seq ?_
    refine CG.region ?_
    refine RG.op (ok_assign hB) rfl ?_
    refine RG.nil ?_
    refine AT.next ?_
    refine CG.ret ?_
    refine AT.then_ret ?_
    cases so h
    exact AT.ret1 rfl rfl
  · have h := cf h hc
    refine CG.skip ?_
    refine AT.next ?_
    refine CG.seq ?_
    refine CG.seq ?_
    refine CG.region ?_
    refine RG.op (ok_move (ht rfl)) rfl ?_
    refine RG.op (ok_lenSl Tryz.underlying25 (ht rfl)) rfl ?_
    refine RG.op (ok_move hI) rfl ?_
    refine RG.nil ?_
    refine AT.next ?_
    refine CG.block ?_
    refine CG.have_len (k := 15) rfl (fun hN => ?_)
    refine CG.loop ?_
    refine LG.sub (LG.list1 (Z := fun ls i  => (s1.drop i = ls) ∧ slices_EqualFunc_api_Row_api_Row_api_Row_api_Row_x_l1 s2 eq ls i  = some R) (Of := fun _ i  => []) (Gf := fun _ i  => [(1, tD (rSl (rSl (rSl rpDValue))) s2), (2, (tFun Tryz.prog (fun (x : (List (List DValue)) × (List (List DValue))) => [tD (rSl (rSl rpDValue)) x.1, tD (rSl (rSl rpDValue)) x.2]) (fun (x : Bool) => tD rB x) (fun (x : (List (List DValue)) × (List (List DValue))) => eq x.1 x.2))), (15, tD (rSl (rSl (rSl rpDValue))) s1), (16, tD (rI .i64) (s1.length : Int)), (17, tD (rI .i64) (i : Int))]) (fun i  h => ?_) (fun e tl ih i  h => ?_) s1 0  ⟨rfl, h⟩) ⟨rfl, rfl, rfl, rfl, rfl, trivial⟩
    · obtain ⟨hx, h⟩ := h
      refine LG.unfold ?_
      refine CG.seq ?_
      refine CG.region ?_
      refine RG.op (ok_lss (ht rfl) (ht rfl)) rfl ?_
      refine RG.nil ?_
      refine AT.next ?_
      refine CG.seq ?_
      refine CG.condF (ht rfl) (dropF hx) ?_
      refine CG.exit ?_
      refine AT.then_exit (AT.then_exit (AT.in_exit ?_))
      refine AT.next ?_
      refine CG.seq ?_
      refine CG.region ?_
      refine RG.op (ok_assign hB) rfl ?_
      refine RG.nil ?_
      refine AT.next ?_
      refine CG.ret ?_
      cases so h
      exact AT.ret1 rfl rfl
    · obtain ⟨hx, h⟩ := h
      refine LG.unfold ?_
      refine CG.seq ?_
      refine CG.region ?_
      refine RG.op (ok_lss (ht rfl) (ht rfl)) rfl ?_
      refine RG.nil ?_
      refine AT.next ?_
      refine CG.seq ?_
      refine CG.condT (ht rfl) (dropT hx) ?_
      refine CG.skip ?_
      refine AT.next ?_
      refine CG.seq ?_
      refine CG.block ?_
      refine CG.seq ?_
      refine CG.region ?_
      refine RG.op (ok_move (ht rfl)) rfl ?_
      refine RG.op (ok_indexAddr Tryz.underlying25 ti54 rfl (ht rfl) (ht rfl) (dropI hx)) rfl ?_
      refine RG.op (ok_load ti54 rfl rfl (ht rfl)) rfl ?_
      refine RG.op (ok_assign (ht rfl)) rfl ?_
      refine RG.op (ok_assign (ht rfl)) rfl ?_
      refine RG.nil ?_
      refine AT.next ?_
      refine CG.seq ?_
      refine CG.region ?_
      refine RG.op (ok_move (ht rfl)) rfl ?_
      refine RG.op (ok_move (ht rfl)) rfl ?_
      obtain ⟨e1, q_e1, h⟩ := bs h
      refine RG.op (ok_indexAddr Tryz.underlying25 ti54 rfl (ht rfl) (ht rfl) q_e1) rfl ?_
      refine RG.op (ok_load ti54 rfl rfl (ht rfl)) rfl ?_
      refine RG.op (ok_assign (ht rfl)) rfl ?_
      refine RG.nil ?_
      refine AT.next ?_
      refine CG.seq ?_
      refine CG.region ?_
      refine RG.op (ok_move (ht rfl)) rfl ?_
      refine RG.op (ok_move (ht rfl)) rfl ?_
      refine RG.op (ok_move (ht rfl)) rfl ?_
      obtain ⟨r, q_r, h⟩ := bs h
      refine RG.op (ok_callV (args := (fun (x : (List (List DValue)) × (List (List DValue))) => [tD (rSl (rSl rpDValue)) x.1, tD (rSl (rSl rpDValue)) x.2])) (res := (fun (x : Bool) => tD rB x)) (f := (fun (x : (List (List DValue)) × (List (List DValue))) => eq x.1 x.2)) (x := ((e, e1) : (List (List DValue)) × (List (List DValue)))) (ht rfl) q_r ⟨(ht rfl), (ht rfl), trivial⟩) rfl ?_
      refine RG.op (ok_not (ht rfl)) rfl ?_
      refine RG.nil ?_
      refine AT.next ?_
      refine CG.cond (ht rfl) (fun hc => ?_) (fun hc => ?_)
      · have h := ct h hc
        refine CG.seq ?_
        refine CG.region ?_
        refine RG.op (ok_assign hB) rfl ?_
        refine RG.nil ?_
        refine AT.next ?_
        refine CG.ret ?_
        refine AT.in_ret (AT.then_ret (AT.then_ret (AT.in_ret (AT.then_ret ?_))))
        cases so h
        exact AT.ret1 rfl rfl
      · have h := cf h hc
        refine CG.skip ?_
        refine AT.in_normal ?_
        refine AT.next ?_
        refine CG.region ?_
        refine RG.op (ok_incN (dropL hx hN) (ht rfl) hI) rfl ?_
        refine RG.op (ok_move (ht rfl)) rfl ?_
        refine RG.nil ?_
        exact AT.round (LG.sub (ih (i + 1)  ⟨dropS hx, h⟩) ⟨rfl, rfl, rfl, rfl, rfl, trivial⟩)

set_option maxRecDepth 100000 in
theorem f61_ok (p : DBase) (y : DBase) {R : Bool} (h : place_Same_1 p y = some R) : Spec Tryz.prog 61 [tD rpDBase p, tD rpDBase y] (tD rB R) := by
  refine Spec.of Tryz.func61 rfl rfl rfl fun w0 S0 => ?_
  refine CG.seq ?_
  refine CG.region ?_
  refine RG.op (ok_box (ht rfl)) rfl ?_
  refine RG.op (ok_box (ht rfl)) rfl ?_
  refine RG.op (ok_assign hB) rfl ?_
  refine RG.nil ?_
  refine AT.next ?_
  refine CG.seq ?_
  refine CG.region ?_
  refine RG.op (ok_fieldAddr fd27_0 rfl flDBase_0 rfl (ht rfl)) rfl ?_
  refine RG.op (ok_load ti25 rfl rfl (ht rfl)) rfl ?_
  refine RG.op (ok_fieldAddr fd27_0 rfl flDBase_0 rfl (ht rfl)) rfl ?_
  refine RG.op (ok_load ti25 rfl rfl (ht rfl)) rfl ?_
  obtain ⟨r, q_r, h⟩ := bs h
  refine RG.op (ok_call cb62 (f62_ok _ _ _ q_r) ⟨(ht rfl), (ht rfl), (hFn cb30 fun x y h => f30_ok _ _ h), trivial⟩) rfl ?_
  refine RG.op (ok_assign (ht rfl)) rfl ?_
  refine RG.nil ?_
  refine AT.next ?_
  refine CG.ret ?_
  cases so h
  exact AT.ret1 rfl rfl

set_option maxRecDepth 100000 in
theorem f32_ok (a1 : DLayout) (b : DLayout) {R : Bool} (h : place_Same a1 b = some R) : Spec Tryz.prog 32 [tD rpDLayout a1, tD rpDLayout b] (tD rB R) := by
  refine Spec.of Tryz.func32 rfl rfl rfl fun w0 S0 => ?_
  refine CG.seq ?_
  refine CG.region ?_
  refine RG.op (ok_box (ht rfl)) rfl ?_
  refine RG.op (ok_box (ht rfl)) rfl ?_
  refine RG.op (ok_assign hB) rfl ?_
  refine RG.nil ?_
  refine AT.next ?_
  refine CG.seq ?_
  refine CG.region ?_
  refine RG.op (ok_fieldAddr fd36_0 rfl flDLayout_0 rfl (ht rfl)) rfl ?_
  refine RG.op (ok_load ti34 rfl rfl (ht rfl)) rfl ?_
  refine RG.op (ok_fieldAddr fd36_0 rfl flDLayout_0 rfl (ht rfl)) rfl ?_
  refine RG.op (ok_load ti34 rfl rfl (ht rfl)) rfl ?_
  obtain ⟨r, q_r, h⟩ := bs h
  refine RG.op (ok_call cb60 (f60_ok _ _ _ q_r) ⟨(ht rfl), (ht rfl), (hFn cb61 fun x y h => f61_ok _ _ h), trivial⟩) rfl ?_
  refine RG.op (ok_assign (ht rfl)) rfl ?_
  refine RG.nil ?_
  refine AT.next ?_
  refine CG.ret ?_
  cases so h
  exact AT.ret1 rfl rfl

end Go.Proofs.YtegigakgcnhiaaaGreatDoor

