/- Facts of this claim: P9. -/
import Derived.Test.YtegigakgcnhiaaaGreatDoorLdT
import Derived.Test.YtegigakgcnhiaaaGreatDoorLdP8
import Derived.Test.YtegigakgcnhiaaaGreatDoorLdNS
namespace Go.Proofs.YtegigakgcnhiaaaGreatDoor
open Go

set_option maxRecDepth 100000 in
theorem f24_ok (c : DCatalog) (l : DLayout) {R : Int} (h : jj c l = some R) : Spec Tryz.prog 24 [tD rpDCatalog c, tD rpDLayout l] (tD (rI .i64) R) := by
 refine Spec.of Tryz.func24 rfl rfl rfl fun w0 S0 => ?_;refine CG.seq ?_;refine CG.region ?_;refine RG.op (aS (ht rfl)) rfl ?_;refine RG.op (aS (ht rfl)) rfl ?_;refine RG.op (aa hI) rfl ?_;refine RG.nil ?_;refine AT.next ?_;refine CG.seq ?_;refine CG.seq ?_;refine CG.region ?_;refine RG.op (ai f9 rfl rfl (ht rfl)) rfl ?_
 obtain ⟨r, q_r, h⟩ := bs h
 refine RG.op (ax cb13 (f13_ok _ q_r) ⟨(ht rfl), trivial⟩) rfl ?_;refine RG.op (bq (ht rfl)) rfl ?_;refine RG.nil ?_;refine AT.next ?_;refine CG.cond (ht rfl) (fun hc => ?_) (fun hc => ?_)
 ·have h := ct h hc;refine CG.seq ?_;refine CG.region ?_;refine RG.op (aa hI) rfl ?_;refine RG.nil ?_;refine AT.next ?_;refine CG.ret ?_;refine ae ?_;cases so h;exact ak rfl rfl
 ·have h := cf h hc;refine CG.skip ?_;refine AT.next ?_;refine CG.seq ?_;refine CG.seq ?_;refine CG.region ?_;refine RG.op (ai f9 rfl rfl (ht rfl)) rfl ?_;refine RG.op (ai cv rfl rfl (ht rfl)) rfl ?_
  obtain ⟨r1, q_r1, h⟩ := bs h
  refine RG.op (ax cb53 (f53_ok _ _ q_r1) ⟨(ht rfl), (ht rfl), trivial⟩) rfl ?_;refine RG.op (bq (ht rfl)) rfl ?_;refine RG.nil ?_;refine AT.next ?_;refine CG.cond (ht rfl) (fun hc => ?_) (fun hc => ?_)
  ·have h := ct h hc;refine CG.seq ?_;refine CG.region ?_;refine RG.op (aa hI) rfl ?_;refine RG.nil ?_;refine AT.next ?_;refine CG.ret ?_;refine ae ?_;cases so h;exact ak rfl rfl
  ·have h := cf h hc;refine CG.skip ?_;refine AT.next ?_;refine CG.seq ?_;refine CG.region ?_;refine RG.op (aa hI) rfl ?_;refine RG.nil ?_;refine AT.next ?_;refine CG.ret ?_;cases so h;exact ak rfl rfl

set_option maxRecDepth 100000 in
theorem f58_ok (s1 : (List (List DValue))) (s2 : (List (List DValue))) (eq : ((List DValue) → (List DValue) → Option Bool)) {R : Bool} (h : bn s1 s2 eq = some R) : Spec Tryz.prog 58 [tD (rSl (rSl rpDValue)) s1, tD (rSl (rSl rpDValue)) s2, (cU Tryz.prog (fun (x : (List DValue) × (List DValue)) => [tD (rSl rpDValue) x.1, tD (rSl rpDValue) x.2]) (fun (x : Bool) => tD rB x) (fun (x : (List DValue) × (List DValue)) => eq x.1 x.2))] (tD rB R) := by
 refine Spec.of Tryz.func58 rfl rfl rfl fun w0 S0 => ?_;refine CG.seq ?_;refine CG.region ?_;refine RG.op (aa hB) rfl ?_;refine RG.nil ?_;refine AT.next ?_;refine CG.seq ?_;refine CG.seq ?_;refine CG.region ?_;refine RG.op (ac (ht rfl)) rfl ?_;refine RG.op (au Tryz.underlying54 (ht rfl)) rfl ?_;refine RG.op (ac (ht rfl)) rfl ?_;refine RG.op (au Tryz.underlying54 (ht rfl)) rfl ?_;refine RG.op (aW (ht rfl) (ht rfl)) rfl ?_;refine RG.nil ?_;refine AT.next ?_;refine CG.cond (ht rfl) (fun hc => ?_) (fun hc => ?_)
 ·have h := ct h hc;refine CG.seq ?_;refine CG.region ?_;refine RG.op (aa hB) rfl ?_;refine RG.nil ?_;refine AT.next ?_;refine CG.ret ?_;refine ae ?_;cases so h;exact ak rfl rfl
 ·have h := cf h hc;refine CG.skip ?_;refine AT.next ?_;refine CG.seq ?_;refine CG.seq ?_;refine CG.region ?_;refine RG.op (ac (ht rfl)) rfl ?_;refine RG.op (au Tryz.underlying54 (ht rfl)) rfl ?_;refine RG.op (ac hI) rfl ?_;refine RG.nil ?_;refine AT.next ?_;refine CG.block ?_;refine aC (k := 15) rfl (fun hN => ?_);refine CG.loop ?_;refine LG.sub (bf (Z := fun ls i  => (s1.drop i = ls) ∧ aQ s2 eq ls i  = some R) (Of := fun _ i  => []) (Gf := fun _ i  => [(1, tD (rSl (rSl rpDValue)) s2), (2, (cU Tryz.prog (fun (x : (List DValue) × (List DValue)) => [tD (rSl rpDValue) x.1, tD (rSl rpDValue) x.2]) (fun (x : Bool) => tD rB x) (fun (x : (List DValue) × (List DValue)) => eq x.1 x.2))), (15, tD (rSl (rSl rpDValue)) s1), (16, tD (rI .i64) (s1.length : Int)), (17, tD (rI .i64) (i : Int))]) (fun i  h => ?_) (fun e tl ih i  h => ?_) s1 0  ⟨rfl, h⟩) ⟨rfl, rfl, rfl, rfl, rfl, trivial⟩
  ·obtain ⟨hx, h⟩ := h
   refine aq ?_;refine CG.seq ?_;refine CG.region ?_;refine RG.op (ay (ht rfl) (ht rfl)) rfl ?_;refine RG.nil ?_;refine AT.next ?_;refine CG.seq ?_;refine aM (ht rfl) (bH hx) ?_;refine CG.exit ?_;refine ah (ah (av ?_));refine AT.next ?_;refine CG.seq ?_;refine CG.region ?_;refine RG.op (aa hB) rfl ?_;refine RG.nil ?_;refine AT.next ?_;refine CG.ret ?_;cases so h;exact ak rfl rfl
  ·obtain ⟨hx, h⟩ := h
   refine aq ?_;refine CG.seq ?_;refine CG.region ?_;refine RG.op (ay (ht rfl) (ht rfl)) rfl ?_;refine RG.nil ?_;refine AT.next ?_;refine CG.seq ?_;refine aL (ht rfl) (bz hx) ?_;refine CG.skip ?_;refine AT.next ?_;refine CG.seq ?_;refine CG.block ?_;refine CG.seq ?_;refine CG.region ?_;refine RG.op (ac (ht rfl)) rfl ?_;refine RG.op (am Tryz.underlying54 cr rfl (ht rfl) (ht rfl) (bc hx)) rfl ?_;refine RG.op (ai cr rfl rfl (ht rfl)) rfl ?_;refine RG.op (aa (ht rfl)) rfl ?_;refine RG.op (aa (ht rfl)) rfl ?_;refine RG.nil ?_;refine AT.next ?_;refine CG.seq ?_;refine CG.region ?_;refine RG.op (ac (ht rfl)) rfl ?_;refine RG.op (ac (ht rfl)) rfl ?_
   obtain ⟨e1, q_e1, h⟩ := bs h
   refine RG.op (am Tryz.underlying54 cr rfl (ht rfl) (ht rfl) q_e1) rfl ?_;refine RG.op (ai cr rfl rfl (ht rfl)) rfl ?_;refine RG.op (aa (ht rfl)) rfl ?_;refine RG.nil ?_;refine AT.next ?_;refine CG.seq ?_;refine CG.region ?_;refine RG.op (ac (ht rfl)) rfl ?_;refine RG.op (ac (ht rfl)) rfl ?_;refine RG.op (ac (ht rfl)) rfl ?_
   obtain ⟨r, q_r, h⟩ := bs h
   refine RG.op (dj (args := (fun (x : (List DValue) × (List DValue)) => [tD (rSl rpDValue) x.1, tD (rSl rpDValue) x.2])) (res := (fun (x : Bool) => tD rB x)) (f := (fun (x : (List DValue) × (List DValue)) => eq x.1 x.2)) (x := ((e, e1) : (List DValue) × (List DValue))) (ht rfl) q_r ⟨(ht rfl), (ht rfl), trivial⟩) rfl ?_;refine RG.op (bq (ht rfl)) rfl ?_;refine RG.nil ?_;refine AT.next ?_;refine CG.cond (ht rfl) (fun hc => ?_) (fun hc => ?_)
   ·have h := ct h hc;refine CG.seq ?_;refine CG.region ?_;refine RG.op (aa hB) rfl ?_;refine RG.nil ?_;refine AT.next ?_;refine CG.ret ?_;refine al (ae (ae (al (ae ?_))));cases so h;exact ak rfl rfl
   ·have h := cf h hc;refine CG.skip ?_;refine ap ?_;refine AT.next ?_;refine CG.region ?_;refine RG.op (aP (bA hx hN) (ht rfl) hI) rfl ?_;refine RG.op (ac (ht rfl)) rfl ?_;refine RG.nil ?_;exact AT.round (LG.sub (ih (i + 1)  ⟨bG hx, h⟩) ⟨rfl, rfl, rfl, rfl, rfl, trivial⟩)

end Go.Proofs.YtegigakgcnhiaaaGreatDoor

