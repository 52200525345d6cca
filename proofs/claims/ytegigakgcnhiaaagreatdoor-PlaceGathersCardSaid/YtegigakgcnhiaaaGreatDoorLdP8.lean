/- Facts of this claim: P8. -/
import Derived.Test.YtegigakgcnhiaaaGreatDoorLdT
import Derived.Test.YtegigakgcnhiaaaGreatDoorLdP7
import Derived.Test.YtegigakgcnhiaaaGreatDoorLdNS
namespace Go.Proofs.YtegigakgcnhiaaaGreatDoor
open Go

set_option maxRecDepth 100000 in
theorem f20_ok (l : DLayout) {R : Bool} (h : i4 l = some R) : Spec Tryz.prog 20 [tD rpDLayout l] (tD rB R) := by
 refine Spec.of Tryz.func20 rfl rfl rfl fun w0 S0 => ?_;refine CG.seq ?_;refine CG.region ?_;refine RG.op (aS (ht rfl)) rfl ?_;refine RG.op (aa hB) rfl ?_;refine RG.nil ?_;refine AT.next ?_;refine CG.seq ?_;refine CG.seq ?_;refine CG.region ?_;refine RG.op (aj ck rfl aZ rfl (ht rfl)) rfl ?_;refine RG.op (ai fx rfl rfl (ht rfl)) rfl ?_;refine RG.op (au Tryz.underlying34 (ht rfl)) rfl ?_;refine RG.op (bV (ht rfl) hI) rfl ?_;refine RG.nil ?_;refine AT.next ?_;refine CG.cond (ht rfl) (fun hc => ?_) (fun hc => ?_)
 ·have h := ct h hc;refine CG.seq ?_;refine CG.region ?_;refine RG.op (aa hB) rfl ?_;refine RG.nil ?_;refine AT.next ?_;refine CG.ret ?_;refine ae ?_;cases so h;exact ak rfl rfl
 ·have h := cf h hc;refine CG.skip ?_;refine AT.next ?_;refine CG.seq ?_;refine CG.seq ?_;refine CG.region ?_;refine RG.op (aj ck rfl aZ rfl (ht rfl)) rfl ?_;refine RG.op (ai fx rfl rfl (ht rfl)) rfl ?_;refine RG.op (au Tryz.underlying34 (ht rfl)) rfl ?_;refine RG.op (ac hI) rfl ?_;refine RG.nil ?_;refine AT.next ?_;refine CG.block ?_;refine aC (k := 10) rfl (fun hN => ?_);refine CG.loop ?_;refine LG.sub (bf (Z := fun ls i  => (l.Parts.drop i = ls) ∧ fE ls  = some R) (Of := fun _ i  => []) (Gf := fun _ i  => [(10, tD (rSl rpDBase) l.Parts), (11, tD (rI .i64) (l.Parts.length : Int)), (12, tD (rI .i64) (i : Int))]) (fun i  h => ?_) (fun e tl ih i  h => ?_) l.Parts 0  ⟨rfl, h⟩) ⟨rfl, rfl, rfl, trivial⟩
  ·obtain ⟨hx, h⟩ := h
   refine aq ?_;refine CG.seq ?_;refine CG.region ?_;refine RG.op (ay (ht rfl) (ht rfl)) rfl ?_;refine RG.nil ?_;refine AT.next ?_;refine CG.seq ?_;refine aM (ht rfl) (bH hx) ?_;refine CG.exit ?_;refine ah (ah (av ?_));refine AT.next ?_;refine CG.seq ?_;refine CG.region ?_;refine RG.op (aa hB) rfl ?_;refine RG.nil ?_;refine AT.next ?_;refine CG.ret ?_;cases so h;exact ak rfl rfl
  ·obtain ⟨hx, h⟩ := h
   refine aq ?_;refine CG.seq ?_;refine CG.region ?_;refine RG.op (ay (ht rfl) (ht rfl)) rfl ?_;refine RG.nil ?_;refine AT.next ?_;refine CG.seq ?_;refine aL (ht rfl) (bz hx) ?_;refine CG.skip ?_;refine AT.next ?_;refine CG.seq ?_;refine CG.block ?_;refine CG.seq ?_;refine CG.region ?_;refine RG.op (am Tryz.underlying34 cd rfl (ht rfl) (ht rfl) (bc hx)) rfl ?_;refine RG.op (ai cd rfl rfl (ht rfl)) rfl ?_;refine RG.alloc (r := rpDBase) (x := (⟨[]⟩ : DBase)) cd (fun _ => fH _) rfl (fun b => ?_);refine aH cd rfl aB rfl (ht rfl) (ht rfl) ?_;refine RG.settleB 4 rfl ?_;refine RG.nil ?_;refine AT.next ?_;refine CG.seq ?_;refine CG.region ?_;refine RG.op (ai cd rfl rfl (ht rfl)) rfl ?_
   obtain ⟨r, q_r, h⟩ := bs h
   refine RG.op (ax cb11 (f11_ok _ q_r) ⟨(ht rfl), trivial⟩) rfl ?_;refine RG.nil ?_;refine AT.next ?_;refine CG.cond (ht rfl) (fun hc => ?_) (fun hc => ?_)
   ·have h := ct h hc;refine CG.seq ?_;refine CG.region ?_;refine RG.op (aa hB) rfl ?_;refine RG.nil ?_;refine AT.next ?_;refine CG.ret ?_;refine al (ae (ae (al (ae ?_))));cases so h;exact ak rfl rfl
   ·have h := cf h hc;refine CG.skip ?_;refine ap ?_;refine AT.next ?_;refine CG.region ?_;refine RG.op (aP (bA hx hN) (ht rfl) hI) rfl ?_;refine RG.op (ac (ht rfl)) rfl ?_;refine RG.nil ?_;exact AT.round (LG.sub (ih (i + 1)  ⟨bG hx, h⟩) ⟨rfl, rfl, rfl, trivial⟩)

set_option maxRecDepth 100000 in
theorem f53_ok (c : DCatalog) (l : DLayout) {R : Bool} (h : ji c l = some R) : Spec Tryz.prog 53 [tD rpDCatalog c, tD rpDLayout l] (tD rB R) := by
 refine Spec.of Tryz.func53 rfl rfl rfl fun w0 S0 => ?_;refine CG.seq ?_;refine CG.region ?_;refine RG.op (aS (ht rfl)) rfl ?_;refine RG.op (aS (ht rfl)) rfl ?_;refine RG.op (aa hB) rfl ?_;refine RG.nil ?_;refine AT.next ?_;refine CG.seq ?_;refine CG.seq ?_;refine CG.region ?_;refine RG.op (aj ck rfl aZ rfl (ht rfl)) rfl ?_;refine RG.op (ai fx rfl rfl (ht rfl)) rfl ?_;refine RG.op (au Tryz.underlying34 (ht rfl)) rfl ?_;refine RG.op (ay (ht rfl) hI) rfl ?_;refine RG.op (ac (ht rfl)) rfl ?_;refine aE rfl rfl rfl rfl (fun hg => aj ck rfl aZ rfl (ht rfl)) ?_;refine aE rfl rfl rfl rfl (fun hg => ai fx rfl rfl (htO rfl hg)) ?_;refine aE rfl rfl rfl rfl (fun hg => au Tryz.underlying34 (htO rfl hg)) ?_;refine aE rfl rfl rfl rfl (fun hg => bV (htO rfl hg) hI) ?_;refine RG.op (cH (ht rfl) (fun hb => (htO rfl (fV hb)))) rfl ?_;refine RG.nil ?_;refine AT.next ?_;refine CG.cond (ht rfl) (fun hc => ?_) (fun hc => ?_)
 ·have h := ct h hc;refine CG.seq ?_;refine CG.region ?_;refine RG.op (aa hB) rfl ?_;refine RG.nil ?_;refine AT.next ?_;refine CG.ret ?_;refine ae ?_;cases so h;exact ak rfl rfl
 ·have h := cf h hc;refine CG.skip ?_;refine AT.next ?_;refine CG.seq ?_;refine CG.seq ?_;refine CG.region ?_;refine RG.op (aa hI) rfl ?_;refine RG.nil ?_;refine AT.next ?_;refine CG.block ?_;refine CG.loop ?_;refine LG.sub (d7 (Z := fun n t => cD c l n t = some R) (Of := fun t => []) (Gf := fun t => [(2, aF rpDCatalog c), (3, aF rpDLayout l), (5, tD (rI .i64) t)]) (fun t h => nn h) (fun n ih t h => ?_) bp (0 : Int) h) ⟨rfl, rfl, rfl, trivial⟩;refine aq ?_;refine CG.seq ?_;refine CG.seq ?_;refine CG.region ?_;refine RG.op (ac (ht rfl)) rfl ?_;refine RG.op (aj dl rfl ba rfl (ht rfl)) rfl ?_;refine RG.op (ai iR rfl rfl (ht rfl)) rfl ?_;refine RG.op (au Tryz.underlying22 (ht rfl)) rfl ?_;refine RG.op (ay (ht rfl) (ht rfl)) rfl ?_;refine RG.nil ?_;refine AT.next ?_;refine CG.cond (ht rfl) (fun hc => ?_) (fun hc => ?_)
  ·have h := ct h hc;refine CG.skip ?_;refine AT.next ?_;refine CG.seq ?_;refine CG.block ?_;refine CG.seq ?_;refine CG.region ?_;refine RG.op (aa hI) rfl ?_;refine RG.nil ?_;refine AT.next ?_;refine CG.seq ?_;refine CG.seq ?_;refine CG.region ?_;refine RG.op (aa hI) rfl ?_;refine RG.nil ?_;refine AT.next ?_;refine CG.block ?_;refine CG.loop ?_;refine LG.sub (LG.ind2 (Z := fun n2 n1 i => eG c l (cD c l n) t n2 n1 i = some R) (Of := fun n1 i => []) (Gf := fun n1 i => [(2, aF rpDCatalog c), (3, aF rpDLayout l), (5, tD (rI .i64) t), (6, tD (rI .i64) n1), (7, tD (rI .i64) i)]) (fun n1 i h => nn h) (fun n2 ih1 n1 i h => ?_) bp (0 : Int) (0 : Int) h) ⟨rfl, rfl, rfl, rfl, rfl, trivial⟩;refine aq ?_;refine CG.seq ?_;refine CG.seq ?_;refine CG.region ?_;refine RG.op (ac (ht rfl)) rfl ?_;refine RG.op (aj ck rfl aZ rfl (ht rfl)) rfl ?_;refine RG.op (ai fx rfl rfl (ht rfl)) rfl ?_;refine RG.op (au Tryz.underlying34 (ht rfl)) rfl ?_;refine RG.op (ay (ht rfl) (ht rfl)) rfl ?_;refine RG.nil ?_;refine AT.next ?_;refine CG.cond (ht rfl) (fun hc => ?_) (fun hc => ?_)
   ·have h := ct h hc;refine CG.skip ?_;refine AT.next ?_;refine CG.seq ?_;refine CG.block ?_;refine CG.seq ?_;refine CG.seq ?_
    obtain ⟨e, q_e, h⟩ := bs h
    obtain ⟨r, q_r, h⟩ := bs h
    refine cn (ts := [tD rpDCatalog c, aF (rSl rpDBase) l.Parts, tD (rSl rpDBase) l.Parts, tD (rI .i64) i, aF rpDBase e, tD rpDBase e, tD rB r, tD rB (!r)]) mixed rfl rfl
     ⟨⟨[⟨2, _, none⟩], _, rfl, ⟨rfl, trivial⟩, rfl, rfl, af rfl (ai f9 rfl rfl (ht rfl))⟩,
     ⟨⟨[⟨3, _, none⟩], _, rfl, ⟨rfl, trivial⟩, rfl, rfl, af rfl (aj ck rfl aZ rfl (ht rfl))⟩,
     ⟨⟨[⟨34, _, some 1⟩], _, rfl, ⟨rfl, trivial⟩, rfl, rfl, af rfl (ai fx rfl rfl (ht rfl))⟩,
     ⟨⟨[⟨7, _, none⟩], _, rfl, ⟨rfl, trivial⟩, rfl, rfl, af rfl (ac (ht rfl))⟩,
     ⟨⟨[⟨35, _, some 2⟩, ⟨36, _, some 3⟩], _, rfl, ⟨rfl, rfl, trivial⟩, rfl, rfl, af rfl (am Tryz.underlying34 cd rfl (ht rfl) (ht rfl) q_e)⟩,
     ⟨⟨[⟨37, _, some 4⟩], _, rfl, ⟨rfl, trivial⟩, rfl, rfl, af rfl (ai cd rfl rfl (ht rfl))⟩,
     ⟨⟨[⟨33, _, some 0⟩, ⟨38, _, some 5⟩], _, rfl, ⟨rfl, rfl, trivial⟩, rfl, rfl, af rfl (ax cb14 (f14_ok _ _ q_r) ⟨(ht rfl), (ht rfl), trivial⟩)⟩,
     ⟨⟨[⟨39, _, some 6⟩], _, rfl, ⟨rfl, trivial⟩, rfl, rfl, af rfl (bq (ht rfl))⟩,
     trivial⟩⟩⟩⟩⟩⟩⟩⟩ ?_
    refine AT.next ?_;refine CG.cond (ht rfl) (fun hc => ?_) (fun hc => ?_)
    ·have h := ct h hc;refine CG.seq ?_;refine CG.region ?_;refine RG.op (aa hB) rfl ?_;refine RG.nil ?_;refine AT.next ?_;refine CG.ret ?_;refine ae (al (ae (ae (al (ae (al (ae (ae (al (ae ?_))))))))));cases so h;exact ak rfl rfl
    ·have h := cf h hc;refine CG.skip ?_;refine AT.next ?_;refine CG.region ?_;refine RG.op (ac (ht rfl)) rfl ?_;refine RG.op (aj ck rfl aZ rfl (ht rfl)) rfl ?_;refine RG.op (ai fx rfl rfl (ht rfl)) rfl ?_;refine RG.op (ac (ht rfl)) rfl ?_;refine RG.op (am Tryz.underlying34 cd rfl (ht rfl) (ht rfl) q_e) rfl ?_;refine RG.op (aj ce rfl bt rfl (ht rfl)) rfl ?_;refine RG.op (ai fy rfl rfl (ht rfl)) rfl ?_;refine RG.op (ac (ht rfl)) rfl ?_
     obtain ⟨e1, q_e1, h⟩ := bs h
     refine RG.op (am Tryz.underlying25 cM rfl (ht rfl) (ht rfl) q_e1) rfl ?_;refine RG.op (ai cM rfl rfl (ht rfl)) rfl ?_;refine RG.op (au Tryz.underlying54 (ht rfl)) rfl ?_;refine RG.op (cj (ht rfl) (ht rfl)) rfl ?_;refine RG.op (aa (ht rfl)) rfl ?_;refine RG.nil ?_;refine ap ?_;refine AT.next ?_;refine CG.region ?_;refine RG.op (ac (ht rfl)) rfl ?_;refine RG.op (cj (ht rfl) hI) rfl ?_;refine RG.op (aa (ht rfl)) rfl ?_;refine RG.nil ?_;exact AT.round (LG.sub (ih1 (IntKind.i64.wrap (n1 + (e1.length : Int))) (IntKind.i64.wrap (i + (1 : Int))) h) ⟨rfl, rfl, rfl, rfl, rfl, trivial⟩)
   ·have h := cf h hc;refine CG.exit ?_;refine ah (ah (av ?_));refine AT.next ?_;refine CG.seq ?_;refine CG.region ?_;refine RG.op (ac (ht rfl)) rfl ?_;refine RG.op (bV (ht rfl) hI) rfl ?_;refine RG.nil ?_;refine AT.next ?_;refine CG.cond (ht rfl) (fun hc => ?_) (fun hc => ?_)
    ·have h := ct h hc;refine CG.seq ?_;refine CG.region ?_;refine RG.op (aa hB) rfl ?_;refine RG.nil ?_;refine AT.next ?_;refine CG.ret ?_;refine al (ae (ae (al (ae ?_))));cases so h;exact ak rfl rfl
    ·have h := cf h hc;refine CG.skip ?_;refine ap ?_;refine AT.next ?_;refine CG.region ?_;refine RG.op (ac (ht rfl)) rfl ?_;refine RG.op (cj (ht rfl) hI) rfl ?_;refine RG.op (aa (ht rfl)) rfl ?_;refine RG.nil ?_;exact AT.round (LG.sub (ih (IntKind.i64.wrap (t + (1 : Int))) h) ⟨rfl, rfl, rfl, trivial⟩)
  ·have h := cf h hc;refine CG.exit ?_;refine ah (ah (av ?_));refine AT.next ?_;refine CG.seq ?_;refine CG.seq ?_;refine CG.region ?_;refine RG.op (aa hI) rfl ?_;refine RG.nil ?_;refine AT.next ?_;refine CG.block ?_;refine CG.loop ?_;refine LG.sub (d7 (Z := fun n3 i1 => eF c l n3 i1 = some R) (Of := fun i1 => []) (Gf := fun i1 => [(2, aF rpDCatalog c), (3, aF rpDLayout l), (8, tD (rI .i64) i1)]) (fun i1 h => nn h) (fun n3 ih2 i1 h => ?_) bp (0 : Int) h) ⟨rfl, rfl, rfl, trivial⟩;refine aq ?_;refine CG.seq ?_;refine CG.seq ?_;refine CG.region ?_;refine RG.op (ac (ht rfl)) rfl ?_;refine RG.op (aj ck rfl aZ rfl (ht rfl)) rfl ?_;refine RG.op (ai fx rfl rfl (ht rfl)) rfl ?_;refine RG.op (au Tryz.underlying34 (ht rfl)) rfl ?_;refine RG.op (ay (ht rfl) (ht rfl)) rfl ?_;refine RG.nil ?_;refine AT.next ?_;refine CG.cond (ht rfl) (fun hc => ?_) (fun hc => ?_)
   ·have h := ct h hc;refine CG.skip ?_;refine AT.next ?_;refine CG.seq ?_;refine CG.block ?_;refine CG.seq ?_
    obtain ⟨e2, q_e2, h⟩ := bs h
    obtain ⟨r1, q_r1, h⟩ := bs h
    refine cn (ts := [tD rpDCatalog c, aF (rSl rpDBase) l.Parts, tD (rSl rpDBase) l.Parts, tD (rI .i64) i1, aF rpDBase e2, tD rpDBase e2, tD rB r1, tD rB (!r1)]) mixed rfl rfl
     ⟨⟨[⟨2, _, none⟩], _, rfl, ⟨rfl, trivial⟩, rfl, rfl, af rfl (ai f9 rfl rfl (ht rfl))⟩,
     ⟨⟨[⟨3, _, none⟩], _, rfl, ⟨rfl, trivial⟩, rfl, rfl, af rfl (aj ck rfl aZ rfl (ht rfl))⟩,
     ⟨⟨[⟨63, _, some 1⟩], _, rfl, ⟨rfl, trivial⟩, rfl, rfl, af rfl (ai fx rfl rfl (ht rfl))⟩,
     ⟨⟨[⟨8, _, none⟩], _, rfl, ⟨rfl, trivial⟩, rfl, rfl, af rfl (ac (ht rfl))⟩,
     ⟨⟨[⟨64, _, some 2⟩, ⟨65, _, some 3⟩], _, rfl, ⟨rfl, rfl, trivial⟩, rfl, rfl, af rfl (am Tryz.underlying34 cd rfl (ht rfl) (ht rfl) q_e2)⟩,
     ⟨⟨[⟨66, _, some 4⟩], _, rfl, ⟨rfl, trivial⟩, rfl, rfl, af rfl (ai cd rfl rfl (ht rfl))⟩,
     ⟨⟨[⟨62, _, some 0⟩, ⟨67, _, some 5⟩], _, rfl, ⟨rfl, rfl, trivial⟩, rfl, rfl, af rfl (ax cb14 (f14_ok _ _ q_r1) ⟨(ht rfl), (ht rfl), trivial⟩)⟩,
     ⟨⟨[⟨68, _, some 6⟩], _, rfl, ⟨rfl, trivial⟩, rfl, rfl, af rfl (bq (ht rfl))⟩,
     trivial⟩⟩⟩⟩⟩⟩⟩⟩ ?_
    refine AT.next ?_;refine CG.cond (ht rfl) (fun hc => ?_) (fun hc => ?_)
    ·have h := ct h hc;refine CG.seq ?_;refine CG.region ?_;refine RG.op (aa hB) rfl ?_;refine RG.nil ?_;refine AT.next ?_;refine CG.ret ?_;refine al (ae (ae (al (ae ?_))));cases so h;exact ak rfl rfl
    ·have h := cf h hc;refine CG.skip ?_;refine ap ?_;refine AT.next ?_;refine CG.region ?_;refine RG.op (ac (ht rfl)) rfl ?_;refine RG.op (cj (ht rfl) hI) rfl ?_;refine RG.op (aa (ht rfl)) rfl ?_;refine RG.nil ?_;exact AT.round (LG.sub (ih2 (IntKind.i64.wrap (i1 + (1 : Int))) h) ⟨rfl, rfl, rfl, trivial⟩)
   ·have h := cf h hc;refine CG.exit ?_;refine ah (ah (av ?_));refine AT.next ?_;refine CG.seq ?_;refine CG.region ?_;refine RG.op (aa hB) rfl ?_;refine RG.nil ?_;refine AT.next ?_;refine CG.ret ?_;cases so h;exact ak rfl rfl

end Go.Proofs.YtegigakgcnhiaaaGreatDoor

