/- Facts of this claim: P9. -/
import Derived.Test.YtegigakgcnhiaaaGreatDoorLfT
import Derived.Test.YtegigakgcnhiaaaGreatDoorLfP8
import Derived.Test.YtegigakgcnhiaaaGreatDoorLfNS
namespace Go.Proofs.YtegigakgcnhiaaaGreatDoor
open Go

set_option maxRecDepth 100000 in
theorem f58_ok (s1 : (List (List DValue))) (s2 : (List (List DValue))) (eq : ((List DValue) → (List DValue) → Option Bool)) {R : Bool} (h : slices_EqualFunc_api_Row_api_Row_api_Row_api_Row s1 s2 eq = some R) : Spec Tryz.prog 58 [tD (rSl (rSl rpDValue)) s1, tD (rSl (rSl rpDValue)) s2, (tFun Tryz.prog (fun (x : (List DValue) × (List DValue)) => [tD (rSl rpDValue) x.1, tD (rSl rpDValue) x.2]) (fun (x : Bool) => tD rB x) (fun (x : (List DValue) × (List DValue)) => eq x.1 x.2))] (tD rB R) := by
  refine Spec.of Tryz.func58 rfl rfl rfl fun w0 S0 => ?_
  refine CG.seq ?_
  refine CG.region ?_
  refine RG.op (ok_assign hB) rfl ?_
  refine RG.nil ?_
  refine AT.next ?_
  refine CG.seq ?_
  refine CG.seq ?_
  refine CG.region ?_
  refine RG.op (ok_move (ht rfl)) rfl ?_
  refine RG.op (ok_lenSl Tryz.underlying54 (ht rfl)) rfl ?_
  refine RG.op (ok_move (ht rfl)) rfl ?_
  refine RG.op (ok_lenSl Tryz.underlying54 (ht rfl)) rfl ?_
  refine RG.op (ok_neqI (ht rfl) (ht rfl)) rfl ?_
  refine RG.nil ?_
  refine AT.next ?_
  refine CG.cond (ht rfl) (fun hc => ?_) (fun hc => ?_)
  · have h := ct h hc
    refine CG.seq ?_
    refine CG.region ?_
    refine RG.op (ok_assign hB) rfl ?_
    refine RG.nil ?_
    refine AT.next ?_
    refine CG.ret ?_
    refine AT.then_ret ?_
    cases so h
    exact AT.ret1 rfl rfl
  · have h := cf h hc
    refine CG.skip ?_
    refine AT.next ?_
    refine CG.seq ?_
    refine CG.seq ?_
    refine CG.region ?_
    refine RG.op (ok_move (ht rfl)) rfl ?_
    refine RG.op (ok_lenSl Tryz.underlying54 (ht rfl)) rfl ?_
    refine RG.op (ok_move hI) rfl ?_
    refine RG.nil ?_
    refine AT.next ?_
    refine CG.block ?_
    refine CG.have_len (k := 15) rfl (fun hN => ?_)
    refine CG.loop ?_
    refine LG.sub (LG.list1 (Z := fun ls i  => (s1.drop i = ls) ∧ slices_EqualFunc_api_Row_api_Row_api_Row_api_Row_l1 s2 eq ls i  = some R) (Of := fun _ i  => []) (Gf := fun _ i  => [(1, tD (rSl (rSl rpDValue)) s2), (2, (tFun Tryz.prog (fun (x : (List DValue) × (List DValue)) => [tD (rSl rpDValue) x.1, tD (rSl rpDValue) x.2]) (fun (x : Bool) => tD rB x) (fun (x : (List DValue) × (List DValue)) => eq x.1 x.2))), (15, tD (rSl (rSl rpDValue)) s1), (16, tD (rI .i64) (s1.length : Int)), (17, tD (rI .i64) (i : Int))]) (fun i  h => ?_) (fun e tl ih i  h => ?_) s1 0  ⟨rfl, h⟩) ⟨rfl, rfl, rfl, rfl, rfl, trivial⟩
    · obtain ⟨hx, h⟩ := h
      refine LG.unfold ?_
      refine CG.seq ?_
      refine CG.region ?_
      refine RG.op (ok_lss (ht rfl) (ht rfl)) rfl ?_
      refine RG.nil ?_
      refine AT.next ?_
      refine CG.seq ?_
      refine CG.condF (ht rfl) (dropF hx) ?_
      refine CG.exit ?_
      refine AT.then_exit (AT.then_exit (AT.in_exit ?_))
      refine AT.next ?_
      refine CG.seq ?_
      refine CG.region ?_
      refine RG.op (ok_assign hB) rfl ?_
      refine RG.nil ?_
      refine AT.next ?_
      refine CG.ret ?_
      cases so h
      exact AT.ret1 rfl rfl
    · obtain ⟨hx, h⟩ := h
      refine LG.unfold ?_
      refine CG.seq ?_
      refine CG.region ?_
      refine RG.op (ok_lss (ht rfl) (ht rfl)) rfl ?_
      refine RG.nil ?_
      refine AT.next ?_
      refine CG.seq ?_
      refine CG.condT (ht rfl) (dropT hx) ?_
      refine CG.skip ?_
      refine AT.next ?_
      refine CG.seq ?_
      refine CG.block ?_
      refine CG.seq ?_
      refine CG.region ?_
      refine RG.op (ok_move (ht rfl)) rfl ?_
      refine RG.op (ok_indexAddr Tryz.underlying54 ti45 rfl (ht rfl) (ht rfl) (dropI hx)) rfl ?_
      refine RG.op (ok_load ti45 rfl rfl (ht rfl)) rfl ?_
      refine RG.op (ok_assign (ht rfl)) rfl ?_
      refine RG.op (ok_assign (ht rfl)) rfl ?_
      refine RG.nil ?_
      refine AT.next ?_
      refine CG.seq ?_
      refine CG.region ?_
      refine RG.op (ok_move (ht rfl)) rfl ?_
      refine RG.op (ok_move (ht rfl)) rfl ?_
      obtain ⟨e1, q_e1, h⟩ := bs h
      refine RG.op (ok_indexAddr Tryz.underlying54 ti45 rfl (ht rfl) (ht rfl) q_e1) rfl ?_
      refine RG.op (ok_load ti45 rfl rfl (ht rfl)) rfl ?_
      refine RG.op (ok_assign (ht rfl)) rfl ?_
      refine RG.nil ?_
      refine AT.next ?_
      refine CG.seq ?_
      refine CG.region ?_
      refine RG.op (ok_move (ht rfl)) rfl ?_
      refine RG.op (ok_move (ht rfl)) rfl ?_
      refine RG.op (ok_move (ht rfl)) rfl ?_
      obtain ⟨r, q_r, h⟩ := bs h
      refine RG.op (ok_callV (args := (fun (x : (List DValue) × (List DValue)) => [tD (rSl rpDValue) x.1, tD (rSl rpDValue) x.2])) (res := (fun (x : Bool) => tD rB x)) (f := (fun (x : (List DValue) × (List DValue)) => eq x.1 x.2)) (x := ((e, e1) : (List DValue) × (List DValue))) (ht rfl) q_r ⟨(ht rfl), (ht rfl), trivial⟩) rfl ?_
      refine RG.op (ok_not (ht rfl)) rfl ?_
      refine RG.nil ?_
      refine AT.next ?_
      refine CG.cond (ht rfl) (fun hc => ?_) (fun hc => ?_)
      · have h := ct h hc
        refine CG.seq ?_
        refine CG.region ?_
        refine RG.op (ok_assign hB) rfl ?_
        refine RG.nil ?_
        refine AT.next ?_
        refine CG.ret ?_
        refine AT.in_ret (AT.then_ret (AT.then_ret (AT.in_ret (AT.then_ret ?_))))
        cases so h
        exact AT.ret1 rfl rfl
      · have h := cf h hc
        refine CG.skip ?_
        refine AT.in_normal ?_
        refine AT.next ?_
        refine CG.region ?_
        refine RG.op (ok_incN (dropL hx hN) (ht rfl) hI) rfl ?_
        refine RG.op (ok_move (ht rfl)) rfl ?_
        refine RG.nil ?_
        exact AT.round (LG.sub (ih (i + 1)  ⟨dropS hx, h⟩) ⟨rfl, rfl, rfl, rfl, rfl, trivial⟩)

end Go.Proofs.YtegigakgcnhiaaaGreatDoor

