/- Facts of this claim: P5. -/
import Derived.Test.YtegigakgcnhiaaaGreatDoorLdT
import Derived.Test.YtegigakgcnhiaaaGreatDoorLdP4
namespace Go.Proofs.YtegigakgcnhiaaaGreatDoor
open Go

set_option maxRecDepth 100000 in
theorem f17_ok (r : (List DValue)) {R : Bool} (h : gS r = some R) : Spec Tryz.prog 17 [tD (rSl rpDValue) r] (tD rB R) := by
 refine Spec.of Tryz.func17 rfl rfl rfl fun w0 S0 => ?_;refine CG.seq ?_;refine CG.region ?_;refine RG.op (aa hB) rfl ?_;refine RG.nil ?_;refine AT.next ?_;refine CG.seq ?_;refine CG.seq ?_;refine CG.region ?_;refine RG.op (ac (ht rfl)) rfl ?_;refine RG.op (au Tryz.underlying45 (ht rfl)) rfl ?_;refine RG.op (bV (ht rfl) hI) rfl ?_;refine RG.nil ?_;refine AT.next ?_;refine CG.cond (ht rfl) (fun hc => ?_) (fun hc => ?_)
 ·have h := ct h hc;refine CG.seq ?_;refine CG.region ?_;refine RG.op (aa hB) rfl ?_;refine RG.nil ?_;refine AT.next ?_;refine CG.ret ?_;refine ae ?_;cases so h;exact ak rfl rfl
 ·have h := cf h hc;refine CG.skip ?_;refine AT.next ?_;refine CG.seq ?_;refine CG.seq ?_;refine CG.region ?_;refine RG.op (ac (ht rfl)) rfl ?_;refine RG.op (au Tryz.underlying45 (ht rfl)) rfl ?_;refine RG.op (ac hI) rfl ?_;refine RG.nil ?_;refine AT.next ?_;refine CG.block ?_;refine aC (k := 8) rfl (fun hN => ?_);refine CG.loop ?_;refine LG.sub (bf (Z := fun ls i  => (r.drop i = ls) ∧ dR ls  = some R) (Of := fun _ i  => []) (Gf := fun _ i  => [(8, tD (rSl rpDValue) r), (9, tD (rI .i64) (r.length : Int)), (10, tD (rI .i64) (i : Int))]) (fun i  h => ?_) (fun e tl ih i  h => ?_) r 0  ⟨rfl, h⟩) ⟨rfl, rfl, rfl, trivial⟩
  ·obtain ⟨hx, h⟩ := h
   refine aq ?_;refine CG.seq ?_;refine CG.region ?_;refine RG.op (ay (ht rfl) (ht rfl)) rfl ?_;refine RG.nil ?_;refine AT.next ?_;refine CG.seq ?_;refine aM (ht rfl) (bH hx) ?_;refine CG.exit ?_;refine ah (ah (av ?_));refine AT.next ?_;refine CG.seq ?_;refine CG.region ?_;refine RG.op (aa hB) rfl ?_;refine RG.nil ?_;refine AT.next ?_;refine CG.ret ?_;cases so h;exact ak rfl rfl
  ·obtain ⟨hx, h⟩ := h
   refine aq ?_;refine CG.seq ?_;refine CG.region ?_;refine RG.op (ay (ht rfl) (ht rfl)) rfl ?_;refine RG.nil ?_;refine AT.next ?_;refine CG.seq ?_;refine aL (ht rfl) (bz hx) ?_;refine CG.skip ?_;refine AT.next ?_;refine CG.seq ?_;refine CG.block ?_;refine CG.seq ?_;refine CG.region ?_;refine RG.op (am Tryz.underlying45 b9 rfl (ht rfl) (ht rfl) (bc hx)) rfl ?_;refine RG.op (ai b9 rfl rfl (ht rfl)) rfl ?_;refine RG.alloc (r := rpDValue) (x := (⟨(0 : Int), (0 : Int), (0 : Int), []⟩ : DValue)) b9 (fun _ => fq _) rfl (fun b => ?_);refine aH b9 rfl aB rfl (ht rfl) (ht rfl) ?_;refine RG.settleB 4 rfl ?_;refine RG.nil ?_;refine AT.next ?_;refine CG.seq ?_;refine CG.region ?_;refine RG.op (aj eR rfl bQ rfl (ht rfl)) rfl ?_;refine RG.op (ai ti9 rfl rfl (ht rfl)) rfl ?_;refine RG.op (fJ Tryz.underlying9 (ht rfl)) rfl ?_;refine RG.op (bV (ht rfl) hI) rfl ?_;refine RG.nil ?_;refine AT.next ?_;refine CG.cond (ht rfl) (fun hc => ?_) (fun hc => ?_)
   ·have h := ct h hc;refine CG.seq ?_;refine CG.region ?_;refine RG.op (aa hB) rfl ?_;refine RG.nil ?_;refine AT.next ?_;refine CG.ret ?_;refine al (ae (ae (al (ae ?_))));cases so h;exact ak rfl rfl
   ·have h := cf h hc;refine CG.skip ?_;refine ap ?_;refine AT.next ?_;refine CG.region ?_;refine RG.op (aP (bA hx hN) (ht rfl) hI) rfl ?_;refine RG.op (ac (ht rfl)) rfl ?_;refine RG.nil ?_;exact AT.round (LG.sub (ih (i + 1)  ⟨bG hx, h⟩) ⟨rfl, rfl, rfl, trivial⟩)

set_option maxRecDepth 100000 in
theorem f11_ok (b : DBase) {R : Bool} (h : gu b = some R) : Spec Tryz.prog 11 [tD rpDBase b] (tD rB R) := by
 refine Spec.of Tryz.func11 rfl rfl rfl fun w0 S0 => ?_;refine CG.seq ?_;refine CG.region ?_;refine RG.op (aS (ht rfl)) rfl ?_;refine RG.op (aa hB) rfl ?_;refine RG.nil ?_;refine AT.next ?_;refine CG.seq ?_;refine CG.seq ?_;refine CG.region ?_;refine RG.op (aj ce rfl bt rfl (ht rfl)) rfl ?_;refine RG.op (ai fy rfl rfl (ht rfl)) rfl ?_;refine RG.op (au Tryz.underlying25 (ht rfl)) rfl ?_;refine RG.op (bV (ht rfl) hI) rfl ?_;refine RG.nil ?_;refine AT.next ?_;refine CG.cond (ht rfl) (fun hc => ?_) (fun hc => ?_)
 ·have h := ct h hc;refine CG.seq ?_;refine CG.region ?_;refine RG.op (aa hB) rfl ?_;refine RG.nil ?_;refine AT.next ?_;refine CG.ret ?_;refine ae ?_;cases so h;exact ak rfl rfl
 ·have h := cf h hc;refine CG.skip ?_;refine AT.next ?_;refine CG.seq ?_;refine CG.seq ?_;refine CG.region ?_;refine RG.op (aj ce rfl bt rfl (ht rfl)) rfl ?_;refine RG.op (ai fy rfl rfl (ht rfl)) rfl ?_;refine RG.op (au Tryz.underlying25 (ht rfl)) rfl ?_;refine RG.op (ac hI) rfl ?_;refine RG.nil ?_;refine AT.next ?_;refine CG.block ?_;refine aC (k := 12) rfl (fun hN => ?_);refine CG.loop ?_;refine LG.sub (bf (Z := fun ls i  => (b.Tables.drop i = ls) ∧ cI ls  = some R) (Of := fun _ i  => []) (Gf := fun _ i  => [(12, tD (rSl (rSl (rSl rpDValue))) b.Tables), (13, tD (rI .i64) (b.Tables.length : Int)), (14, tD (rI .i64) (i : Int))]) (fun i  h => ?_) (fun e tl ih i  h => ?_) b.Tables 0  ⟨rfl, h⟩) ⟨rfl, rfl, rfl, trivial⟩
  ·obtain ⟨hx, h⟩ := h
   refine aq ?_;refine CG.seq ?_;refine CG.region ?_;refine RG.op (ay (ht rfl) (ht rfl)) rfl ?_;refine RG.nil ?_;refine AT.next ?_;refine CG.seq ?_;refine aM (ht rfl) (bH hx) ?_;refine CG.exit ?_;refine ah (ah (av ?_));refine AT.next ?_;refine CG.seq ?_;refine CG.region ?_;refine RG.op (aa hB) rfl ?_;refine RG.nil ?_;refine AT.next ?_;refine CG.ret ?_;cases so h;exact ak rfl rfl
  ·obtain ⟨hx, h⟩ := h
   refine aq ?_;refine CG.seq ?_;refine CG.region ?_;refine RG.op (ay (ht rfl) (ht rfl)) rfl ?_;refine RG.nil ?_;refine AT.next ?_;refine CG.seq ?_;refine aL (ht rfl) (bz hx) ?_;refine CG.skip ?_;refine AT.next ?_;refine CG.seq ?_;refine CG.block ?_;refine CG.seq ?_;refine CG.region ?_;refine RG.op (am Tryz.underlying25 cM rfl (ht rfl) (ht rfl) (bc hx)) rfl ?_;refine RG.op (ai cM rfl rfl (ht rfl)) rfl ?_;refine RG.op (aa (ht rfl)) rfl ?_;refine RG.nil ?_;refine AT.next ?_;refine CG.seq ?_;refine CG.seq ?_;refine CG.region ?_;refine RG.op (ac (ht rfl)) rfl ?_;refine RG.op (au Tryz.underlying54 (ht rfl)) rfl ?_;refine RG.op (bV (ht rfl) hI) rfl ?_;refine RG.nil ?_;refine AT.next ?_;refine CG.cond (ht rfl) (fun hc => ?_) (fun hc => ?_)
   ·have h := ct h hc;refine CG.seq ?_;refine CG.region ?_;refine RG.op (aa hB) rfl ?_;refine RG.nil ?_;refine AT.next ?_;refine CG.ret ?_;refine ae (al (ae (ae (al (ae ?_)))));cases so h;exact ak rfl rfl
   ·have h := cf h hc;refine CG.skip ?_;refine AT.next ?_;refine CG.seq ?_;refine CG.region ?_;refine RG.op (ac (ht rfl)) rfl ?_;refine RG.op (au Tryz.underlying54 (ht rfl)) rfl ?_;refine RG.op (ac hI) rfl ?_;refine RG.nil ?_;refine AT.next ?_;refine CG.block ?_;refine aC (k := 21) rfl (fun hN1 => ?_);refine CG.loop ?_;refine LG.sub (bf (Z := fun ls1 i1  => (e.drop i1 = ls1) ∧ dB (cI tl) ls1  = some R) (Of := fun _ i1  => []) (Gf := fun _ i1  => [(12, tD (rSl (rSl (rSl rpDValue))) b.Tables), (13, tD (rI .i64) (b.Tables.length : Int)), (14, tD (rI .i64) (i : Int)), (21, tD (rSl (rSl rpDValue)) e), (22, tD (rI .i64) (e.length : Int)), (23, tD (rI .i64) (i1 : Int))]) (fun i1  h => ?_) (fun e1 tl1 ih1 i1  h => ?_) e 0  ⟨rfl, h⟩) ⟨rfl, rfl, rfl, rfl, rfl, rfl, trivial⟩
    ·obtain ⟨hx1, h⟩ := h
     refine aq ?_;refine CG.seq ?_;refine CG.region ?_;refine RG.op (ay (ht rfl) (ht rfl)) rfl ?_;refine RG.nil ?_;refine AT.next ?_;refine CG.seq ?_;refine aM (ht rfl) (bH hx1) ?_;refine CG.exit ?_;refine ah (ah (av ?_));refine ap ?_;refine AT.next ?_;refine CG.region ?_;refine RG.op (aP (bA hx hN) (ht rfl) hI) rfl ?_;refine RG.op (ac (ht rfl)) rfl ?_;refine RG.nil ?_;exact AT.round (LG.sub (ih (i + 1)  ⟨bG hx, h⟩) ⟨rfl, rfl, rfl, trivial⟩)
    ·obtain ⟨hx1, h⟩ := h
     refine aq ?_;refine CG.seq ?_;refine CG.region ?_;refine RG.op (ay (ht rfl) (ht rfl)) rfl ?_;refine RG.nil ?_;refine AT.next ?_;refine CG.seq ?_;refine aL (ht rfl) (bz hx1) ?_;refine CG.skip ?_;refine AT.next ?_;refine CG.seq ?_;refine CG.block ?_;refine CG.seq ?_;refine CG.region ?_;refine RG.op (am Tryz.underlying54 cr rfl (ht rfl) (ht rfl) (bc hx1)) rfl ?_;refine RG.op (ai cr rfl rfl (ht rfl)) rfl ?_;refine RG.op (aa (ht rfl)) rfl ?_;refine RG.nil ?_;refine AT.next ?_;refine CG.seq ?_;refine CG.region ?_;refine RG.op (ac (ht rfl)) rfl ?_
     obtain ⟨r, q_r, h⟩ := bs h
     refine RG.op (ax cb17 (f17_ok _ q_r) ⟨(ht rfl), trivial⟩) rfl ?_;refine RG.nil ?_;refine AT.next ?_;refine CG.cond (ht rfl) (fun hc => ?_) (fun hc => ?_)
     ·have h := ct h hc;refine CG.seq ?_;refine CG.region ?_;refine RG.op (aa hB) rfl ?_;refine RG.nil ?_;refine AT.next ?_;refine CG.ret ?_;refine al (ae (ae (al (al (ae (ae (al (ae ?_))))))));cases so h;exact ak rfl rfl
     ·have h := cf h hc;refine CG.skip ?_;refine ap ?_;refine AT.next ?_;refine CG.region ?_;refine RG.op (aP (bA hx1 hN1) (ht rfl) hI) rfl ?_;refine RG.op (ac (ht rfl)) rfl ?_;refine RG.nil ?_;exact AT.round (LG.sub (ih1 (i1 + 1)  ⟨bG hx1, h⟩) ⟨rfl, rfl, rfl, rfl, rfl, rfl, trivial⟩)

set_option maxRecDepth 100000 in
theorem f97_ok (c : Int) {R : Bool} (h : hP c = some R) : Spec Tryz.prog 97 [tD (rI .u8) c] (tD rB R) := by
 refine Spec.of Tryz.func97 rfl rfl rfl fun w0 S0 => ?_;refine CG.seq ?_;refine CG.region ?_;refine RG.op (aa hB) rfl ?_;refine RG.nil ?_;refine AT.next ?_;refine CG.seq ?_;refine CG.region ?_;refine RG.op (ac (ht rfl)) rfl ?_;refine RG.op (eO (ht rfl) hI) rfl ?_;refine RG.op (ac (ht rfl)) rfl ?_;refine aw rfl rfl rfl rfl (fun hg => ac (ht rfl)) ?_;refine aw rfl rfl rfl rfl (fun hg => kr (htO rfl hg) hI) ?_;refine RG.op (aT (ht rfl) (fun hb => (htO rfl hb))) rfl ?_;refine RG.op (aa (ht rfl)) rfl ?_;refine RG.nil ?_;refine AT.next ?_;refine CG.ret ?_;cases so h;exact ak rfl rfl

set_option maxRecDepth 100000 in
theorem f119_ok (l : (List Str)) (s : Str) {R : Bool} (h : ref07_has l s = some R) : Spec Tryz.prog 119 [tD (rSl rS) l, tD rS s] (tD rB R) := by
 refine Spec.of Tryz.func119 rfl rfl rfl fun w0 S0 => ?_;refine CG.seq ?_;refine CG.region ?_;refine RG.op (aa hB) rfl ?_;refine RG.nil ?_;refine AT.next ?_;refine CG.seq ?_;refine CG.seq ?_;refine CG.region ?_;refine RG.op (aa hI) rfl ?_;refine RG.nil ?_;refine AT.next ?_;refine CG.block ?_;refine aC (k := 0) rfl (fun hN => ?_);refine CG.loop ?_;refine LG.sub (bf (Z := fun ls i  => (l.drop i = ls) ∧ ge s ls  = some R) (Of := fun _ i  => []) (Gf := fun _ i  => [(0, tD (rSl rS) l), (1, tD rS s), (5, tD (rI .i64) (i : Int))]) (fun i  h => ?_) (fun e tl ih i  h => ?_) l 0  ⟨rfl, h⟩) ⟨rfl, rfl, rfl, trivial⟩
 ·obtain ⟨hx, h⟩ := h
  refine aq ?_;refine CG.seq ?_;refine CG.seq ?_;refine CG.region ?_;refine RG.op (ac (ht rfl)) rfl ?_;refine RG.op (ac (ht rfl)) rfl ?_;refine RG.op (au Tryz.underlying151 (ht rfl)) rfl ?_;refine RG.op (ay (ht rfl) (ht rfl)) rfl ?_;refine RG.nil ?_;refine AT.next ?_;refine aM (ht rfl) (bH hx) ?_;refine CG.exit ?_;refine ah (ah (av ?_));refine AT.next ?_;refine CG.seq ?_;refine CG.region ?_;refine RG.op (aa hB) rfl ?_;refine RG.nil ?_;refine AT.next ?_;refine CG.ret ?_;cases so h;exact ak rfl rfl
 ·obtain ⟨hx, h⟩ := h
  refine aq ?_;refine CG.seq ?_;refine CG.seq ?_;refine CG.region ?_;refine RG.op (ac (ht rfl)) rfl ?_;refine RG.op (ac (ht rfl)) rfl ?_;refine RG.op (au Tryz.underlying151 (ht rfl)) rfl ?_;refine RG.op (ay (ht rfl) (ht rfl)) rfl ?_;refine RG.nil ?_;refine AT.next ?_;refine aL (ht rfl) (bz hx) ?_;refine CG.skip ?_;refine AT.next ?_;refine CG.seq ?_;refine CG.block ?_;refine CG.seq ?_;refine CG.region ?_;refine RG.op (ac (ht rfl)) rfl ?_;refine RG.op (ac (ht rfl)) rfl ?_;refine RG.op (am Tryz.underlying151 ti9 rfl (ht rfl) (ht rfl) (bc hx)) rfl ?_;refine RG.op (ai ti9 rfl rfl (ht rfl)) rfl ?_;refine RG.op (ac (ht rfl)) rfl ?_;refine RG.op (gr (ht rfl) (ht rfl)) rfl ?_;refine RG.nil ?_;refine AT.next ?_;refine CG.cond (ht rfl) (fun hc => ?_) (fun hc => ?_)
  ·have h := ct h hc;refine CG.seq ?_;refine CG.region ?_;refine RG.op (aa hB) rfl ?_;refine RG.nil ?_;refine AT.next ?_;refine CG.ret ?_;refine al (ae (ae (al (ae ?_))));cases so h;exact ak rfl rfl
  ·have h := cf h hc;refine CG.skip ?_;refine ap ?_;refine AT.next ?_;refine CG.region ?_;refine RG.op (ac (ht rfl)) rfl ?_;refine RG.op (aP (bA hx hN) (ht rfl) hI) rfl ?_;refine RG.op (aa (ht rfl)) rfl ?_;refine RG.nil ?_;exact AT.round (LG.sub (ih (i + 1)  ⟨bG hx, h⟩) ⟨rfl, rfl, rfl, trivial⟩)

set_option maxRecDepth 100000 in
theorem f120_own {R : (List Str)} (h : ref07_Words = some R) : SpecO Tryz.prog 120 [] false rS 9 R := by
 refine SpecO.of Tryz.func120 rfl rfl rfl fun w0 S0 => ?_;refine CG.seq ?_;refine CG.region ?_;refine RG.fresh false rS 9 ?_;refine RG.op (aa hVn) rfl ?_;refine RG.nil ?_;refine AT.next ?_;refine CG.seq ?_;refine CG.region ?_;refine jz (r := rS) (ys := [[83, 69, 76, 69, 67, 84], [68, 73, 83, 84, 73, 78, 67, 84], [70, 82, 79, 77], [76, 69, 70, 84], [74, 79, 73, 78], [79, 78], [87, 72, 69, 82, 69], [71, 82, 79, 85, 80], [66, 89], [72, 65, 86, 73, 78, 71], [85, 78, 73, 79, 78], [65, 76, 76], [79, 82, 68, 69, 82], [76, 73, 77, 73, 84], [65, 83, 67], [68, 69, 83, 67], [65, 83], [65, 78, 68], [79, 82], [78, 79, 84], [73, 83], [78, 85, 76, 76], [84, 82, 85, 69], [70, 65, 76, 83, 69], [67, 79, 85, 78, 84], [83, 85, 77], [77, 73, 78], [77, 65, 88]]) (xs := [.const (.string ⟨#[83, 69, 76, 69, 67, 84]⟩), .const (.string ⟨#[68, 73, 83, 84, 73, 78, 67, 84]⟩), .const (.string ⟨#[70, 82, 79, 77]⟩), .const (.string ⟨#[76, 69, 70, 84]⟩), .const (.string ⟨#[74, 79, 73, 78]⟩), .const (.string ⟨#[79, 78]⟩), .const (.string ⟨#[87, 72, 69, 82, 69]⟩), .const (.string ⟨#[71, 82, 79, 85, 80]⟩), .const (.string ⟨#[66, 89]⟩), .const (.string ⟨#[72, 65, 86, 73, 78, 71]⟩), .const (.string ⟨#[85, 78, 73, 79, 78]⟩), .const (.string ⟨#[65, 76, 76]⟩), .const (.string ⟨#[79, 82, 68, 69, 82]⟩), .const (.string ⟨#[76, 73, 77, 73, 84]⟩), .const (.string ⟨#[65, 83, 67]⟩), .const (.string ⟨#[68, 69, 83, 67]⟩), .const (.string ⟨#[65, 83]⟩), .const (.string ⟨#[65, 78, 68]⟩), .const (.string ⟨#[79, 82]⟩), .const (.string ⟨#[78, 79, 84]⟩), .const (.string ⟨#[73, 83]⟩), .const (.string ⟨#[78, 85, 76, 76]⟩), .const (.string ⟨#[84, 82, 85, 69]⟩), .const (.string ⟨#[70, 65, 76, 83, 69]⟩), .const (.string ⟨#[67, 79, 85, 78, 84]⟩), .const (.string ⟨#[83, 85, 77]⟩), .const (.string ⟨#[77, 73, 78]⟩), .const (.string ⟨#[77, 65, 88]⟩)]) Tryz.underlying151 ti9 rfl rfl rfl rfl rfl ⟨hS, hS, hS, hS, hS, hS, hS, hS, hS, hS, hS, hS, hS, hS, hS, hS, hS, hS, hS, hS, hS, hS, hS, hS, hS, hS, hS, hS, trivial⟩ rfl (fun l c => ?_);refine RG.op (aa (ht rfl)) rfl ?_;refine RG.nil ?_;refine AT.next ?_;refine CG.ret ?_;cases so h;exact iI rfl rfl
set_option maxRecDepth 100000 in
theorem f98_ok (s : Str) {R : Bool} (h : iz s = some R) : Spec Tryz.prog 98 [tD rS s] (tD rB R) := by
 refine Spec.of Tryz.func98 rfl rfl rfl fun w0 S0 => ?_;refine CG.seq ?_;refine CG.region ?_;refine RG.op (aa hB) rfl ?_;refine RG.nil ?_;refine AT.next ?_;refine CG.seq ?_;refine CG.region ?_
 obtain ⟨r, q_r, h⟩ := bs h
 refine eV cb120 (f120_own  q_r) trivial rfl (fun l c => ?_);refine RG.op (ac (ht rfl)) rfl ?_;refine RG.freeze ?_;refine RG.tipAt 3 rfl ?_
 obtain ⟨r1, q_r1, h⟩ := bs h
 refine RG.op (ax cb119 (f119_ok _ _ q_r1) ⟨(tO_d (ht rfl)), (ht rfl), trivial⟩) rfl ?_;refine RG.op (aa (ht rfl)) rfl ?_;refine RG.nil ?_;refine AT.next ?_;refine CG.ret ?_;refine AT.drop ?_;cases so h;exact ak rfl rfl

set_option maxRecDepth 100000 in
theorem f99_ok (s : Str) {R : Str} (h : jk s = some R) : Spec Tryz.prog 99 [tD rS s] (tD rS R) := by
 refine Spec.of Tryz.func99 rfl rfl rfl fun w0 S0 => ?_;refine CG.seq ?_;refine CG.region ?_;refine RG.op (aa hS) rfl ?_;refine RG.nil ?_;refine AT.next ?_;refine CG.seq ?_;refine CG.region ?_;refine RG.fresh false (rI .u8) 5 ?_;refine RG.op (aa hVn) rfl ?_;refine RG.nil ?_;refine AT.next ?_;refine CG.seq ?_;refine CG.seq ?_;refine CG.region ?_;refine RG.op (aa hI) rfl ?_;refine RG.nil ?_;refine AT.next ?_;refine CG.block ?_;refine CG.loop ?_;refine LG.sub (LG.ind4 (Z := fun n out l c i => df s n out i = some R) (Of := fun out l c i => [arr (rI .u8) 5 l c out]) (Gf := fun out l c i => [(0, tD rS s), (3, tV (aD l c out.length)), (4, tD (rI .i64) i)]) (fun out l c i h => nn h) (fun n ih out l c i h => ?_) bp ([] : List Int) none 0 (0 : Int) h) ⟨rfl, rfl, rfl, trivial⟩;refine aq ?_;refine CG.seq ?_;refine CG.seq ?_;refine CG.region ?_;refine RG.op (ac (ht rfl)) rfl ?_;refine RG.op (ac (ht rfl)) rfl ?_;refine RG.op (fJ Tryz.underlying9 (ht rfl)) rfl ?_;refine RG.op (ay (ht rfl) (ht rfl)) rfl ?_;refine RG.nil ?_;refine AT.next ?_;refine CG.cond (ht rfl) (fun hc => ?_) (fun hc => ?_)
 ·have h := ct h hc;refine CG.skip ?_;refine AT.next ?_;refine CG.seq ?_;refine CG.block ?_;refine CG.seq ?_;refine CG.region ?_;refine RG.op (ac (ht rfl)) rfl ?_;refine RG.op (ac (ht rfl)) rfl ?_
  obtain ⟨b, q_b, h⟩ := bs h
  refine RG.op (iK Tryz.underlying9 (ht rfl) (ht rfl) q_b) rfl ?_;refine RG.op (aa (ht rfl)) rfl ?_;refine RG.nil ?_;refine AT.next ?_;refine j4 (Z := fun c1 => eI (df s n) out i c1 = some R) (Of := fun c1 => [arr (rI .u8) 5 l c out]) (Gf := fun c1 => [(0, tD rS s), (3, tV (aD l c out.length)), (4, tD (rI .i64) i), (5, tD (rI .u8) c1)]) (fun c1 h => ?_) (fun K => ?_)
  ·skip
   refine CG.region ?_;refine RG.op (ac (ht rfl)) rfl ?_;refine RG.op (ac (ht rfl)) rfl ?_;refine RG.op (aO (r := (rI .u8)) (ys := [c1]) (xs := [.tmp 21]) Tryz.underlying117 ti5 rfl rfl rfl rfl rfl ⟨(ht rfl), trivial⟩) rfl ?_
   obtain ⟨out1, q_out1, h⟩ := bs h
   refine RG.append ti5 rfl rfl rfl rfl Tryz.underlying117 rfl rfl (ht rfl) (ht rfl) q_out1 (fun l1 c2 => ?_);refine RG.op (aa (ht rfl)) rfl ?_;refine RG.nil ?_;refine ap ?_;refine AT.next ?_;refine CG.region ?_;refine RG.op (ac (ht rfl)) rfl ?_;refine RG.op (cj (ht rfl) hI) rfl ?_;refine RG.op (aa (ht rfl)) rfl ?_;refine RG.nil ?_;exact AT.round (LG.sub (ih out1 l1 c2 (IntKind.i64.wrap (i + (1 : Int))) h) ⟨rfl, rfl, rfl, trivial⟩)
  ·skip
   refine CG.seq ?_;refine CG.region ?_;refine RG.op (ac (ht rfl)) rfl ?_
   obtain ⟨r, q_r, h⟩ := bs h
   refine RG.op (ax cb97 (f97_ok _ q_r) ⟨(ht rfl), trivial⟩) rfl ?_;refine RG.nil ?_;refine AT.next ?_;refine CG.cond (ht rfl) (fun hc => ?_) (fun hc => ?_)
   ·have h := ct h hc;refine CG.region ?_;refine RG.op (ac (ht rfl)) rfl ?_;refine RG.op (ok_sub (ht rfl) hI) rfl ?_;refine RG.op (cj (ht rfl) hI) rfl ?_;refine RG.op (aa (ht rfl)) rfl ?_;refine RG.nil ?_;exact AT.sub (K (IntKind.u8.wrap ((IntKind.u8.wrap (b - (97 : Int))) + (65 : Int))) h) ⟨rfl, rfl, rfl, rfl, trivial⟩
   ·have h := cf h hc;refine CG.skip ?_;exact AT.sub (K b h) ⟨rfl, rfl, rfl, rfl, trivial⟩
 ·have h := cf h hc;refine CG.exit ?_;refine ah (ah (av ?_));refine AT.next ?_;refine CG.seq ?_;refine CG.region ?_;refine RG.op (ac (ht rfl)) rfl ?_;refine RG.freeze ?_;refine RG.tipAt 3 rfl ?_;refine RG.tipAt 24 rfl ?_;refine RG.op (ok_convBS Tryz.underlying117 Tryz.underlying5 Tryz.underlying9 ti5 rfl (tO_d (ht rfl))) rfl ?_;refine RG.op (aa (ht rfl)) rfl ?_;refine RG.nil ?_;refine AT.next ?_;refine CG.ret ?_;refine AT.drop ?_;cases so h;exact ak rfl rfl

set_option maxRecDepth 100000 in
theorem f100_ok (c : Int) {R : Bool} (h : ref07_digit c = some R) : Spec Tryz.prog 100 [tD (rI .u8) c] (tD rB R) := by
 refine Spec.of Tryz.func100 rfl rfl rfl fun w0 S0 => ?_;refine CG.seq ?_;refine CG.region ?_;refine RG.op (aa hB) rfl ?_;refine RG.nil ?_;refine AT.next ?_;refine CG.seq ?_;refine CG.region ?_;refine RG.op (ac (ht rfl)) rfl ?_;refine RG.op (eO (ht rfl) hI) rfl ?_;refine RG.op (ac (ht rfl)) rfl ?_;refine aw rfl rfl rfl rfl (fun hg => ac (ht rfl)) ?_;refine aw rfl rfl rfl rfl (fun hg => kr (htO rfl hg) hI) ?_;refine RG.op (aT (ht rfl) (fun hb => (htO rfl hb))) rfl ?_;refine RG.op (aa (ht rfl)) rfl ?_;refine RG.nil ?_;refine AT.next ?_;refine CG.ret ?_;cases so h;exact ak rfl rfl

set_option maxRecDepth 100000 in
theorem f72_ok (s : Str) {R : Bool} (h : gh s = some R) : Spec Tryz.prog 72 [tD rS s] (tD rB R) := by
 refine Spec.of Tryz.func72 rfl rfl rfl fun w0 S0 => ?_;refine CG.seq ?_;refine CG.region ?_;refine RG.op (aa hB) rfl ?_;refine RG.nil ?_;refine AT.next ?_;refine CG.seq ?_;refine CG.seq ?_;refine CG.region ?_;refine RG.op (ac (ht rfl)) rfl ?_;refine RG.op (fJ Tryz.underlying9 (ht rfl)) rfl ?_;refine RG.op (ay (ht rfl) hI) rfl ?_;refine RG.op (ac (ht rfl)) rfl ?_;refine aE rfl rfl rfl rfl (fun hg => ac (ht rfl)) ?_;refine aE rfl rfl rfl rfl (fun hg => fJ Tryz.underlying9 (htO rfl hg)) ?_;refine aE rfl rfl rfl rfl (fun hg => bV (htO rfl hg) hI) ?_;refine RG.op (cH (ht rfl) (fun hb => (htO rfl (fV hb)))) rfl ?_;refine RG.op (ac (ht rfl)) rfl ?_
 obtain ⟨t, q_t, h⟩ := bs h
 refine aE rfl rfl rfl rfl (fun hg => ac (ht rfl)) ?_
 obtain ⟨b, h1t, h0t⟩ := og q_t
 have q_bg := fun hb => (h1t hb).1
 refine aE rfl rfl rfl rfl (fun hg => iK Tryz.underlying9 (htO rfl hg) hI (q_bg hg)) ?_
 obtain ⟨r, h1t⟩ := og2 (fun hb => (h1t hb).2)
 have q_rg := fun hb => (h1t hb).1
 refine aE rfl rfl rfl rfl (fun hg => ax cb97 (f97_ok _ (q_rg hg)) ⟨(htO rfl hg), trivial⟩) ?_;refine aE rfl rfl rfl rfl (fun hg => bq (htO rfl hg)) ?_;refine RG.op (bX (ht rfl) (fun hb => (htO rfl (fV hb))) (fun hb => (h1t hb).2) h0t) rfl ?_;refine RG.op (ac (ht rfl)) rfl ?_
 obtain ⟨t1, q_t1, h⟩ := bs h
 refine aE rfl rfl rfl rfl (fun hg => ac (ht rfl)) ?_
 obtain ⟨r1, h1t1, h0t1⟩ := og q_t1
 have q_r1g := fun hb => (h1t1 hb).1
 refine aE rfl rfl rfl rfl (fun hg => ax cb99 (f99_ok _ (q_r1g hg)) ⟨(htO rfl hg), trivial⟩) ?_
 obtain ⟨r2, h1t1⟩ := og2 (fun hb => (h1t1 hb).2)
 have q_r2g := fun hb => (h1t1 hb).1
 refine aE rfl rfl rfl rfl (fun hg => ax cb98 (f98_ok _ (q_r2g hg)) ⟨(htO rfl hg), trivial⟩) ?_;refine RG.op (bX (ht rfl) (fun hb => (htO rfl (fV hb))) (fun hb => (h1t1 hb).2) h0t1) rfl ?_;refine RG.nil ?_;refine AT.next ?_;refine CG.cond (ht rfl) (fun hc => ?_) (fun hc => ?_)
 ·have h := ct h hc;refine CG.seq ?_;refine CG.region ?_;refine RG.op (aa hB) rfl ?_;refine RG.nil ?_;refine AT.next ?_;refine CG.ret ?_;refine ae ?_;cases so h;exact ak rfl rfl
 ·have h := cf h hc;refine CG.skip ?_;refine AT.next ?_;refine CG.seq ?_;refine CG.seq ?_;refine CG.region ?_;refine RG.op (aa hI) rfl ?_;refine RG.nil ?_;refine AT.next ?_;refine CG.block ?_;refine CG.loop ?_;refine LG.sub (d7 (Z := fun n i => ec s n i = some R) (Of := fun i => []) (Gf := fun i => [(0, tD rS s), (3, tD (rI .i64) i)]) (fun i h => nn h) (fun n ih i h => ?_) bp (0 : Int) h) ⟨rfl, rfl, trivial⟩;refine aq ?_;refine CG.seq ?_;refine CG.seq ?_;refine CG.region ?_;refine RG.op (ac (ht rfl)) rfl ?_;refine RG.op (ac (ht rfl)) rfl ?_;refine RG.op (fJ Tryz.underlying9 (ht rfl)) rfl ?_;refine RG.op (ay (ht rfl) (ht rfl)) rfl ?_;refine RG.nil ?_;refine AT.next ?_;refine CG.cond (ht rfl) (fun hc => ?_) (fun hc => ?_)
  ·have h := ct h hc;refine CG.skip ?_;refine AT.next ?_;refine CG.seq ?_;refine CG.block ?_;refine CG.seq ?_;refine CG.region ?_;refine RG.op (ac (ht rfl)) rfl ?_;refine RG.op (ac (ht rfl)) rfl ?_
   obtain ⟨b1, q_b1, h⟩ := bs h
   refine RG.op (iK Tryz.underlying9 (ht rfl) (ht rfl) q_b1) rfl ?_
   obtain ⟨r3, q_r3, h⟩ := bs h
   refine RG.op (ax cb97 (f97_ok _ q_r3) ⟨(ht rfl), trivial⟩) rfl ?_;refine RG.op (bq (ht rfl)) rfl ?_;refine RG.op (ac (ht rfl)) rfl ?_
   obtain ⟨t2, q_t2, h⟩ := bs h
   refine aw rfl rfl rfl rfl (fun hg => ac (ht rfl)) ?_;refine aw rfl rfl rfl rfl (fun hg => ac (ht rfl)) ?_
   obtain ⟨b2, h1t2, h0t2⟩ := og q_t2
   have q_b2g := fun hb => (h1t2 hb).1
   refine aw rfl rfl rfl rfl (fun hg => iK Tryz.underlying9 (htO rfl hg) (htO rfl hg) (q_b2g hg)) ?_
   obtain ⟨r4, h1t2⟩ := og2 (fun hb => (h1t2 hb).2)
   have q_r4g := fun hb => (h1t2 hb).1
   refine aw rfl rfl rfl rfl (fun hg => ax cb100 (f100_ok _ (q_r4g hg)) ⟨(htO rfl hg), trivial⟩) ?_;refine aw rfl rfl rfl rfl (fun hg => bq (htO rfl hg)) ?_;refine RG.op (bw (ht rfl) (fun hb => (htO rfl hb)) (fun hb => (h1t2 hb).2) h0t2) rfl ?_;refine RG.op (ac (ht rfl)) rfl ?_
   obtain ⟨t3, q_t3, h⟩ := bs h
   refine aw rfl rfl rfl rfl (fun hg => ac (ht rfl)) ?_;refine aw rfl rfl rfl rfl (fun hg => ac (ht rfl)) ?_
   obtain ⟨b3, h1t3, h0t3⟩ := og q_t3
   have q_b3g := fun hb => (h1t3 hb).1
   refine aw rfl rfl rfl rfl (fun hg => iK Tryz.underlying9 (htO rfl hg) (htO rfl hg) (q_b3g hg)) ?_;refine aw rfl rfl rfl rfl (fun hg => aW (htO rfl hg) hI) ?_;refine RG.op (bw (ht rfl) (fun hb => (htO rfl hb)) (fun hb => (h1t3 hb).2) h0t3) rfl ?_;refine RG.nil ?_;refine AT.next ?_;refine CG.cond (ht rfl) (fun hc => ?_) (fun hc => ?_)
   ·have h := ct h hc;refine CG.seq ?_;refine CG.region ?_;refine RG.op (aa hB) rfl ?_;refine RG.nil ?_;refine AT.next ?_;refine CG.ret ?_;refine al (ae (ae (al (ae ?_))));cases so h;exact ak rfl rfl
   ·have h := cf h hc;refine CG.skip ?_;refine ap ?_;refine AT.next ?_;refine CG.region ?_;refine RG.op (ac (ht rfl)) rfl ?_;refine RG.op (cj (ht rfl) hI) rfl ?_;refine RG.op (aa (ht rfl)) rfl ?_;refine RG.nil ?_;exact AT.round (LG.sub (ih (IntKind.i64.wrap (i + (1 : Int))) h) ⟨rfl, rfl, trivial⟩)
  ·have h := cf h hc;refine CG.exit ?_;refine ah (ah (av ?_));refine AT.next ?_;refine CG.seq ?_;refine CG.region ?_;refine RG.op (aa hB) rfl ?_;refine RG.nil ?_;refine AT.next ?_;refine CG.ret ?_;cases so h;exact ak rfl rfl

set_option maxRecDepth 100000 in
theorem f73_ok (kind : Int) {R : Str} (h : kl kind = some R) : Spec Tryz.prog 73 [tD (rI .i64) kind] (tD rS R) := by
 refine Spec.of Tryz.func73 rfl rfl rfl fun w0 S0 => ?_;refine CG.seq ?_;refine CG.region ?_;refine RG.op (aa hS) rfl ?_;refine RG.nil ?_;refine AT.next ?_;refine CG.seq ?_;refine CG.seq ?_;refine CG.region ?_;refine RG.op (ac (ht rfl)) rfl ?_;refine RG.nil ?_;refine AT.next ?_;refine CG.block ?_;refine CG.seq ?_;refine CG.region ?_;refine RG.op (a7 (ht rfl) hI) rfl ?_;refine RG.op (aa (ht rfl)) rfl ?_;refine RG.nil ?_;refine AT.next ?_;refine CG.cond (ht rfl) (fun hc => ?_) (fun hc => ?_)
 ·have h := ct h hc;refine CG.seq ?_;refine CG.region ?_;refine RG.op (aa hS) rfl ?_;refine RG.nil ?_;refine AT.next ?_;refine CG.ret ?_;refine al (ae ?_);cases so h;exact ak rfl rfl
 ·have h := cf h hc;refine CG.seq ?_;refine CG.region ?_;refine RG.op (a7 (ht rfl) hI) rfl ?_;refine RG.op (aa (ht rfl)) rfl ?_;refine RG.nil ?_;refine AT.next ?_;refine CG.cond (ht rfl) (fun hc => ?_) (fun hc => ?_)
  ·have h := ct h hc;refine CG.seq ?_;refine CG.region ?_;refine RG.op (aa hS) rfl ?_;refine RG.nil ?_;refine AT.next ?_;refine CG.ret ?_;refine al (ae ?_);cases so h;exact ak rfl rfl
  ·have h := cf h hc;refine CG.seq ?_;refine CG.region ?_;refine RG.op (a7 (ht rfl) hI) rfl ?_;refine RG.op (aa (ht rfl)) rfl ?_;refine RG.nil ?_;refine AT.next ?_;refine CG.cond (ht rfl) (fun hc => ?_) (fun hc => ?_)
   ·have h := ct h hc;refine CG.seq ?_;refine CG.region ?_;refine RG.op (aa hS) rfl ?_;refine RG.nil ?_;refine AT.next ?_;refine CG.ret ?_;refine al (ae ?_);cases so h;exact ak rfl rfl
   ·have h := cf h hc;refine CG.skip ?_;refine ap ?_;refine AT.next ?_;refine CG.seq ?_;refine CG.region ?_;refine RG.op (aa hS) rfl ?_;refine RG.nil ?_;refine AT.next ?_;refine CG.ret ?_;cases so h;exact ak rfl rfl

set_option maxRecDepth 100000 in
theorem f45_ok (t : DTable) {R : Bool} (h : e8 t = some R) : Spec Tryz.prog 45 [tD rpDTable t] (tD rB R) := by
 refine Spec.of Tryz.func45 rfl rfl rfl fun w0 S0 => ?_;refine CG.seq ?_;refine CG.region ?_;refine RG.op (aS (ht rfl)) rfl ?_;refine RG.op (aa hB) rfl ?_;refine RG.nil ?_;refine AT.next ?_;refine CG.seq ?_;refine CG.seq ?_;refine CG.region ?_;refine RG.op (aj fd53_0 rfl gL rfl (ht rfl)) rfl ?_;refine RG.op (ai ti9 rfl rfl (ht rfl)) rfl ?_
 obtain ⟨r, q_r, h⟩ := bs h
 refine RG.op (ax cb72 (f72_ok _ q_r) ⟨(ht rfl), trivial⟩) rfl ?_;refine RG.op (bq (ht rfl)) rfl ?_;refine RG.op (ac (ht rfl)) rfl ?_;refine aE rfl rfl rfl rfl (fun hg => aj fl rfl b6 rfl (ht rfl)) ?_;refine aE rfl rfl rfl rfl (fun hg => ai ti51 rfl rfl (htO rfl hg)) ?_;refine aE rfl rfl rfl rfl (fun hg => au Tryz.underlying51 (htO rfl hg)) ?_;refine aE rfl rfl rfl rfl (fun hg => ay (htO rfl hg) hI) ?_;refine RG.op (cH (ht rfl) (fun hb => (htO rfl (fV hb)))) rfl ?_;refine RG.op (ac (ht rfl)) rfl ?_;refine aE rfl rfl rfl rfl (fun hg => aj fl rfl b6 rfl (ht rfl)) ?_;refine aE rfl rfl rfl rfl (fun hg => ai ti51 rfl rfl (htO rfl hg)) ?_;refine aE rfl rfl rfl rfl (fun hg => au Tryz.underlying51 (htO rfl hg)) ?_;refine aE rfl rfl rfl rfl (fun hg => bV (htO rfl hg) hI) ?_;refine RG.op (cH (ht rfl) (fun hb => (htO rfl (fV hb)))) rfl ?_;refine RG.nil ?_;refine AT.next ?_;refine CG.cond (ht rfl) (fun hc => ?_) (fun hc => ?_)
 ·have h := ct h hc;refine CG.seq ?_;refine CG.region ?_;refine RG.op (aa hB) rfl ?_;refine RG.nil ?_;refine AT.next ?_;refine CG.ret ?_;refine ae ?_;cases so h;exact ak rfl rfl
 ·have h := cf h hc;refine CG.skip ?_;refine AT.next ?_;refine CG.seq ?_;refine CG.seq ?_;refine CG.region ?_;refine RG.op (aa hI) rfl ?_;refine RG.nil ?_;refine AT.next ?_;refine CG.block ?_;refine CG.loop ?_;refine LG.sub (d7 (Z := fun n i => co t n i = some R) (Of := fun i => []) (Gf := fun i => [(1, aF rpDTable t), (3, tD (rI .i64) i)]) (fun i h => nn h) (fun n ih i h => ?_) bp (0 : Int) h) ⟨rfl, rfl, trivial⟩;refine aq ?_;refine CG.seq ?_;refine CG.seq ?_;refine CG.region ?_;refine RG.op (ac (ht rfl)) rfl ?_;refine RG.op (aj fl rfl b6 rfl (ht rfl)) rfl ?_;refine RG.op (ai ti51 rfl rfl (ht rfl)) rfl ?_;refine RG.op (au Tryz.underlying51 (ht rfl)) rfl ?_;refine RG.op (ay (ht rfl) (ht rfl)) rfl ?_;refine RG.nil ?_;refine AT.next ?_;refine CG.cond (ht rfl) (fun hc => ?_) (fun hc => ?_)
  ·have h := ct h hc;refine CG.skip ?_;refine AT.next ?_;refine CG.seq ?_;refine CG.block ?_;refine CG.seq ?_;refine CG.region ?_;refine RG.op (aj fl rfl b6 rfl (ht rfl)) rfl ?_;refine RG.op (ai ti51 rfl rfl (ht rfl)) rfl ?_;refine RG.op (ac (ht rfl)) rfl ?_
   obtain ⟨e, q_e, h⟩ := bs h
   refine RG.op (am Tryz.underlying51 f8 rfl (ht rfl) (ht rfl) q_e) rfl ?_;refine RG.op (ai f8 rfl rfl (ht rfl)) rfl ?_;refine RG.alloc (r := rpDColumn) (x := (⟨[], (0 : Int)⟩ : DColumn)) f8 (fun _ => iJ _) rfl (fun b => ?_);refine aH f8 rfl aB rfl (ht rfl) (ht rfl) ?_;refine RG.settleB 4 rfl ?_;refine RG.nil ?_;refine AT.next ?_;refine CG.seq ?_;refine CG.seq ?_;refine CG.region ?_;refine RG.op (aj fd79_0 rfl ig rfl (ht rfl)) rfl ?_;refine RG.op (ai ti9 rfl rfl (ht rfl)) rfl ?_
   obtain ⟨r1, q_r1, h⟩ := bs h
   refine RG.op (ax cb72 (f72_ok _ q_r1) ⟨(ht rfl), trivial⟩) rfl ?_;refine RG.op (bq (ht rfl)) rfl ?_;refine RG.op (ac (ht rfl)) rfl ?_
   obtain ⟨t1, q_t1, h⟩ := bs h
   refine aE rfl rfl rfl rfl (fun hg => aj fd79_1 rfl jw rfl (ht rfl)) ?_;refine aE rfl rfl rfl rfl (fun hg => ai ti3 rfl rfl (htO rfl hg)) ?_
   obtain ⟨r2, h1t1, h0t1⟩ := og q_t1
   have q_r2g := fun hb => (h1t1 hb).1
   refine aE rfl rfl rfl rfl (fun hg => ax cb73 (f73_ok _ (q_r2g hg)) ⟨(htO rfl hg), trivial⟩) ?_;refine aE rfl rfl rfl rfl (fun hg => gr (htO rfl hg) hS) ?_;refine RG.op (bX (ht rfl) (fun hb => (htO rfl (fV hb))) (fun hb => (h1t1 hb).2) h0t1) rfl ?_;refine RG.nil ?_;refine AT.next ?_;refine CG.cond (ht rfl) (fun hc => ?_) (fun hc => ?_)
   ·have h := ct h hc;refine CG.seq ?_;refine CG.region ?_;refine RG.op (aa hB) rfl ?_;refine RG.nil ?_;refine AT.next ?_;refine CG.ret ?_;refine ae (al (ae (ae (al (ae ?_)))));cases so h;exact ak rfl rfl
   ·have h := cf h hc;refine CG.skip ?_;refine AT.next ?_;refine CG.seq ?_;refine CG.region ?_;refine RG.op (aa hI) rfl ?_;refine RG.nil ?_;refine AT.next ?_;refine CG.block ?_;refine CG.loop ?_;refine LG.sub (d7 (Z := fun n1 k => cT t (co t n) i e n1 k = some R) (Of := fun k => []) (Gf := fun k => [(1, aF rpDTable t), (3, tD (rI .i64) i), (4, aF rpDColumn e), (5, tD (rI .i64) k)]) (fun k h => nn h) (fun n1 ih1 k h => ?_) bp (0 : Int) h) ⟨rfl, rfl, rfl, rfl, trivial⟩;refine aq ?_;refine CG.seq ?_;refine CG.seq ?_;refine CG.region ?_;refine RG.op (ac (ht rfl)) rfl ?_;refine RG.op (ac (ht rfl)) rfl ?_;refine RG.op (ay (ht rfl) (ht rfl)) rfl ?_;refine RG.nil ?_;refine AT.next ?_;refine CG.cond (ht rfl) (fun hc => ?_) (fun hc => ?_)
    ·have h := ct h hc;refine CG.skip ?_;refine AT.next ?_;refine CG.seq ?_;refine CG.block ?_;refine CG.seq ?_
     obtain ⟨e1, q_e1, h⟩ := bs h
     refine cn (ts := [aF (rSl rpDColumn) t.Columns, tD (rSl rpDColumn) t.Columns, tD (rI .i64) k, aF rpDColumn e1, aF rS e1.Name, tD rS e1.Name, aF rS e.Name, tD rS e.Name, tD rB (e1.Name == e.Name)]) mixed rfl rfl
      ⟨⟨[⟨1, _, none⟩], _, rfl, ⟨rfl, trivial⟩, rfl, rfl, af rfl (aj fl rfl b6 rfl (ht rfl))⟩,
      ⟨⟨[⟨50, _, some 0⟩], _, rfl, ⟨rfl, trivial⟩, rfl, rfl, af rfl (ai ti51 rfl rfl (ht rfl))⟩,
      ⟨⟨[⟨5, _, none⟩], _, rfl, ⟨rfl, trivial⟩, rfl, rfl, af rfl (ac (ht rfl))⟩,
      ⟨⟨[⟨51, _, some 1⟩, ⟨52, _, some 2⟩], _, rfl, ⟨rfl, rfl, trivial⟩, rfl, rfl, af rfl (am Tryz.underlying51 f8 rfl (ht rfl) (ht rfl) q_e1)⟩,
      ⟨⟨[⟨53, _, some 3⟩], _, rfl, ⟨rfl, trivial⟩, rfl, rfl, af rfl (aj fd79_0 rfl ig rfl (ht rfl))⟩,
      ⟨⟨[⟨54, _, some 4⟩], _, rfl, ⟨rfl, trivial⟩, rfl, rfl, af rfl (ai ti9 rfl rfl (ht rfl))⟩,
      ⟨⟨[⟨4, _, none⟩], _, rfl, ⟨rfl, trivial⟩, rfl, rfl, af rfl (aj fd79_0 rfl ig rfl (ht rfl))⟩,
      ⟨⟨[⟨56, _, some 6⟩], _, rfl, ⟨rfl, trivial⟩, rfl, rfl, af rfl (ai ti9 rfl rfl (ht rfl))⟩,
      ⟨⟨[⟨55, _, some 5⟩, ⟨57, _, some 7⟩], _, rfl, ⟨rfl, rfl, trivial⟩, rfl, rfl, af rfl (gr (ht rfl) (ht rfl))⟩,
      trivial⟩⟩⟩⟩⟩⟩⟩⟩⟩ ?_
     refine AT.next ?_;refine CG.cond (ht rfl) (fun hc => ?_) (fun hc => ?_)
     ·have h := ct h hc;refine CG.seq ?_;refine CG.region ?_;refine RG.op (aa hB) rfl ?_;refine RG.nil ?_;refine AT.next ?_;refine CG.ret ?_;refine al (ae (ae (al (al (ae (ae (al (ae ?_))))))));cases so h;exact ak rfl rfl
     ·have h := cf h hc;refine CG.skip ?_;refine ap ?_;refine AT.next ?_;refine CG.region ?_;refine RG.op (ac (ht rfl)) rfl ?_;refine RG.op (cj (ht rfl) hI) rfl ?_;refine RG.op (aa (ht rfl)) rfl ?_;refine RG.nil ?_;exact AT.round (LG.sub (ih1 (IntKind.i64.wrap (k + (1 : Int))) h) ⟨rfl, rfl, rfl, rfl, trivial⟩)
    ·have h := cf h hc;refine CG.exit ?_;refine ah (ah (av ?_));refine ap ?_;refine AT.next ?_;refine CG.region ?_;refine RG.op (ac (ht rfl)) rfl ?_;refine RG.op (cj (ht rfl) hI) rfl ?_;refine RG.op (aa (ht rfl)) rfl ?_;refine RG.nil ?_;exact AT.round (LG.sub (ih (IntKind.i64.wrap (i + (1 : Int))) h) ⟨rfl, rfl, trivial⟩)
  ·have h := cf h hc;refine CG.exit ?_;refine ah (ah (av ?_));refine AT.next ?_;refine CG.seq ?_;refine CG.seq ?_;refine CG.region ?_;refine RG.op (aa hI) rfl ?_;refine RG.nil ?_;refine AT.next ?_;refine CG.block ?_;refine CG.loop ?_;refine LG.sub (d7 (Z := fun n2 i1 => cS t n2 i1 = some R) (Of := fun i1 => []) (Gf := fun i1 => [(1, aF rpDTable t), (6, tD (rI .i64) i1)]) (fun i1 h => nn h) (fun n2 ih2 i1 h => ?_) bp (0 : Int) h) ⟨rfl, rfl, trivial⟩;refine aq ?_;refine CG.seq ?_;refine CG.seq ?_;refine CG.region ?_;refine RG.op (ac (ht rfl)) rfl ?_;refine RG.op (aj ik rfl cQ rfl (ht rfl)) rfl ?_;refine RG.op (ai ti28 rfl rfl (ht rfl)) rfl ?_;refine RG.op (au Tryz.underlying28 (ht rfl)) rfl ?_;refine RG.op (ay (ht rfl) (ht rfl)) rfl ?_;refine RG.nil ?_;refine AT.next ?_;refine CG.cond (ht rfl) (fun hc => ?_) (fun hc => ?_)
   ·have h := ct h hc;refine CG.skip ?_;refine AT.next ?_;refine CG.seq ?_;refine CG.block ?_;refine CG.seq ?_
    obtain ⟨e2, q_e2, h⟩ := bs h
    obtain ⟨t2, q_t2, h⟩ := bs h
    obtain ⟨t3, h1t2, h0t2⟩ := og q_t2
    have q_t3g := fun hb => (h1t2 hb).1
    obtain ⟨e3, h1t3, h0t3⟩ := og3 q_t3g
    have q_e3g := fun hb => (h1t3 hb).1
    refine cn (ts := [aF (rSl (rI .i64)) t.Keys, tD (rSl (rI .i64)) t.Keys, tD (rI .i64) i1, aF (rI .i64) e2, tD (rI .i64) e2, tD rB (decide (e2 < (0 : Int))), tD rB (decide (e2 < (0 : Int))), bj (!(decide (e2 < (0 : Int)))) (aF (rSl (rI .i64)) t.Keys), bj (!(decide (e2 < (0 : Int)))) (tD (rSl (rI .i64)) t.Keys), bj (!(decide (e2 < (0 : Int)))) (tD (rI .i64) i1), bj (!(decide (e2 < (0 : Int)))) (aF (rI .i64) e2), bj (!(decide (e2 < (0 : Int)))) (tD (rI .i64) e2), bj (!(decide (e2 < (0 : Int)))) (aF (rSl rpDColumn) t.Columns), bj (!(decide (e2 < (0 : Int)))) (tD (rSl rpDColumn) t.Columns), bj (!(decide (e2 < (0 : Int)))) (tD (rI .i64) (t.Columns.length : Int)), bj (!(decide (e2 < (0 : Int)))) (tD rB (decide ((t.Columns.length : Int) ≤ e2))), tD rB ((decide (e2 < (0 : Int))) || (decide ((t.Columns.length : Int) ≤ e2))), tD rB ((decide (e2 < (0 : Int))) || (decide ((t.Columns.length : Int) ≤ e2))), bj (!((decide (e2 < (0 : Int))) || (decide ((t.Columns.length : Int) ≤ e2)))) (tD (rI .i64) i1), bj (!((decide (e2 < (0 : Int))) || (decide ((t.Columns.length : Int) ≤ e2)))) (tD rB (decide ((0 : Int) < i1))), bj (!((decide (e2 < (0 : Int))) || (decide ((t.Columns.length : Int) ≤ e2)))) (tD rB (decide ((0 : Int) < i1))), bj ((!((decide (e2 < (0 : Int))) || (decide ((t.Columns.length : Int) ≤ e2)))) && (decide ((0 : Int) < i1))) (aF (rSl (rI .i64)) t.Keys), bj ((!((decide (e2 < (0 : Int))) || (decide ((t.Columns.length : Int) ≤ e2)))) && (decide ((0 : Int) < i1))) (tD (rSl (rI .i64)) t.Keys), bj ((!((decide (e2 < (0 : Int))) || (decide ((t.Columns.length : Int) ≤ e2)))) && (decide ((0 : Int) < i1))) (tD (rI .i64) i1), bj ((!((decide (e2 < (0 : Int))) || (decide ((t.Columns.length : Int) ≤ e2)))) && (decide ((0 : Int) < i1))) (tD (rI .i64) (IntKind.i64.wrap (i1 - (1 : Int)))), bj ((!((decide (e2 < (0 : Int))) || (decide ((t.Columns.length : Int) ≤ e2)))) && (decide ((0 : Int) < i1))) (aF (rI .i64) e3), bj ((!((decide (e2 < (0 : Int))) || (decide ((t.Columns.length : Int) ≤ e2)))) && (decide ((0 : Int) < i1))) (tD (rI .i64) e3), bj ((!((decide (e2 < (0 : Int))) || (decide ((t.Columns.length : Int) ≤ e2)))) && (decide ((0 : Int) < i1))) (aF (rSl (rI .i64)) t.Keys), bj ((!((decide (e2 < (0 : Int))) || (decide ((t.Columns.length : Int) ≤ e2)))) && (decide ((0 : Int) < i1))) (tD (rSl (rI .i64)) t.Keys), bj ((!((decide (e2 < (0 : Int))) || (decide ((t.Columns.length : Int) ≤ e2)))) && (decide ((0 : Int) < i1))) (tD (rI .i64) i1), bj ((!((decide (e2 < (0 : Int))) || (decide ((t.Columns.length : Int) ≤ e2)))) && (decide ((0 : Int) < i1))) (aF (rI .i64) e2), bj ((!((decide (e2 < (0 : Int))) || (decide ((t.Columns.length : Int) ≤ e2)))) && (decide ((0 : Int) < i1))) (tD (rI .i64) e2), bj ((!((decide (e2 < (0 : Int))) || (decide ((t.Columns.length : Int) ≤ e2)))) && (decide ((0 : Int) < i1))) (tD rB (decide (e2 ≤ e3))), bj (!((decide (e2 < (0 : Int))) || (decide ((t.Columns.length : Int) ≤ e2)))) (tD rB t3), tD rB t2]) mixed rfl rfl
     ⟨⟨[⟨1, _, none⟩], _, rfl, ⟨rfl, trivial⟩, rfl, rfl, af rfl (aj ik rfl cQ rfl (ht rfl))⟩,
     ⟨⟨[⟨66, _, some 0⟩], _, rfl, ⟨rfl, trivial⟩, rfl, rfl, af rfl (ai ti28 rfl rfl (ht rfl))⟩,
     ⟨⟨[⟨6, _, none⟩], _, rfl, ⟨rfl, trivial⟩, rfl, rfl, af rfl (ac (ht rfl))⟩,
     ⟨⟨[⟨67, _, some 1⟩, ⟨68, _, some 2⟩], _, rfl, ⟨rfl, rfl, trivial⟩, rfl, rfl, af rfl (am Tryz.underlying28 ti3 rfl (ht rfl) (ht rfl) q_e2)⟩,
     ⟨⟨[⟨69, _, some 3⟩], _, rfl, ⟨rfl, trivial⟩, rfl, rfl, af rfl (ai ti3 rfl rfl (ht rfl))⟩,
     ⟨⟨[⟨70, _, some 4⟩], _, rfl, ⟨rfl, trivial⟩, rfl, rfl, af rfl (ay (ht rfl) hI)⟩,
     ⟨⟨[⟨71, _, some 5⟩], _, rfl, ⟨rfl, trivial⟩, rfl, rfl, af rfl (ac (ht rfl))⟩,
     ⟨⟨[⟨1, _, none⟩, ⟨72, _, some 6⟩], _, rfl, ⟨rfl, rfl, trivial⟩, rfl, rfl, cA rfl rfl rfl rfl (fun hg => aj ik rfl cQ rfl (ht rfl))⟩,
     ⟨⟨[⟨73, _, some 7⟩, ⟨72, _, some 6⟩], _, rfl, ⟨rfl, rfl, trivial⟩, rfl, rfl, cA rfl rfl rfl rfl (fun hg => ai ti28 rfl rfl (htO rfl hg))⟩,
     ⟨⟨[⟨6, _, none⟩, ⟨72, _, some 6⟩], _, rfl, ⟨rfl, rfl, trivial⟩, rfl, rfl, cA rfl rfl rfl rfl (fun hg => ac (ht rfl))⟩,
     ⟨⟨[⟨74, _, some 8⟩, ⟨75, _, some 9⟩, ⟨72, _, some 6⟩], _, rfl, ⟨rfl, rfl, rfl, trivial⟩, rfl, rfl, cA rfl rfl rfl rfl (fun hg => am Tryz.underlying28 ti3 rfl (htO rfl hg) (htO rfl hg) q_e2)⟩,
     ⟨⟨[⟨76, _, some 10⟩, ⟨72, _, some 6⟩], _, rfl, ⟨rfl, rfl, trivial⟩, rfl, rfl, cA rfl rfl rfl rfl (fun hg => ai ti3 rfl rfl (htO rfl hg))⟩,
     ⟨⟨[⟨1, _, none⟩, ⟨72, _, some 6⟩], _, rfl, ⟨rfl, rfl, trivial⟩, rfl, rfl, cA rfl rfl rfl rfl (fun hg => aj fl rfl b6 rfl (ht rfl))⟩,
     ⟨⟨[⟨78, _, some 12⟩, ⟨72, _, some 6⟩], _, rfl, ⟨rfl, rfl, trivial⟩, rfl, rfl, cA rfl rfl rfl rfl (fun hg => ai ti51 rfl rfl (htO rfl hg))⟩,
     ⟨⟨[⟨79, _, some 13⟩, ⟨72, _, some 6⟩], _, rfl, ⟨rfl, rfl, trivial⟩, rfl, rfl, cA rfl rfl rfl rfl (fun hg => au Tryz.underlying51 (htO rfl hg))⟩,
     ⟨⟨[⟨77, _, some 11⟩, ⟨80, _, some 14⟩, ⟨72, _, some 6⟩], _, rfl, ⟨rfl, rfl, rfl, trivial⟩, rfl, rfl, cA rfl rfl rfl rfl (fun hg => eO (htO rfl hg) (htO rfl hg))⟩,
     ⟨⟨[⟨72, _, some 6⟩, ⟨81, _, some 15⟩], _, rfl, ⟨rfl, rfl, trivial⟩, rfl, rfl, af rfl (cH (ht rfl) (fun hb => (htO rfl (fV hb))))⟩,
     ⟨⟨[⟨82, _, some 16⟩], _, rfl, ⟨rfl, trivial⟩, rfl, rfl, af rfl (ac (ht rfl))⟩,
     ⟨⟨[⟨6, _, none⟩, ⟨83, _, some 17⟩], _, rfl, ⟨rfl, rfl, trivial⟩, rfl, rfl, cA rfl rfl rfl rfl (fun hg => ac (ht rfl))⟩,
     ⟨⟨[⟨84, _, some 18⟩, ⟨83, _, some 17⟩], _, rfl, ⟨rfl, rfl, trivial⟩, rfl, rfl, cA rfl rfl rfl rfl (fun hg => bV (htO rfl hg) hI)⟩,
     ⟨⟨[⟨85, _, some 19⟩, ⟨83, _, some 17⟩], _, rfl, ⟨rfl, rfl, trivial⟩, rfl, rfl, cA rfl rfl rfl rfl (fun hg => ac (htO rfl hg))⟩,
     ⟨⟨[⟨1, _, none⟩, ⟨86, _, some 20⟩], _, rfl, ⟨rfl, rfl, trivial⟩, rfl, rfl, b8 rfl rfl rfl rfl (fun hg => aj ik rfl cQ rfl (ht rfl))⟩,
     ⟨⟨[⟨87, _, some 21⟩, ⟨86, _, some 20⟩], _, rfl, ⟨rfl, rfl, trivial⟩, rfl, rfl, b8 rfl rfl rfl rfl (fun hg => ai ti28 rfl rfl (htO rfl hg))⟩,
     ⟨⟨[⟨6, _, none⟩, ⟨86, _, some 20⟩], _, rfl, ⟨rfl, rfl, trivial⟩, rfl, rfl, b8 rfl rfl rfl rfl (fun hg => ac (ht rfl))⟩,
     ⟨⟨[⟨89, _, some 23⟩, ⟨86, _, some 20⟩], _, rfl, ⟨rfl, rfl, trivial⟩, rfl, rfl, b8 rfl rfl rfl rfl (fun hg => ok_sub (htO rfl hg) hI)⟩,
     ⟨⟨[⟨88, _, some 22⟩, ⟨90, _, some 24⟩, ⟨86, _, some 20⟩], _, rfl, ⟨rfl, rfl, rfl, trivial⟩, rfl, rfl, b8 rfl rfl rfl rfl (fun hg => am Tryz.underlying28 ti3 rfl (htO rfl hg) (htO rfl hg) (q_e3g hg))⟩,
     ⟨⟨[⟨91, _, some 25⟩, ⟨86, _, some 20⟩], _, rfl, ⟨rfl, rfl, trivial⟩, rfl, rfl, b8 rfl rfl rfl rfl (fun hg => ai ti3 rfl rfl (htO rfl hg))⟩,
     ⟨⟨[⟨1, _, none⟩, ⟨86, _, some 20⟩], _, rfl, ⟨rfl, rfl, trivial⟩, rfl, rfl, b8 rfl rfl rfl rfl (fun hg => aj ik rfl cQ rfl (ht rfl))⟩,
     ⟨⟨[⟨93, _, some 27⟩, ⟨86, _, some 20⟩], _, rfl, ⟨rfl, rfl, trivial⟩, rfl, rfl, b8 rfl rfl rfl rfl (fun hg => ai ti28 rfl rfl (htO rfl hg))⟩,
     ⟨⟨[⟨6, _, none⟩, ⟨86, _, some 20⟩], _, rfl, ⟨rfl, rfl, trivial⟩, rfl, rfl, b8 rfl rfl rfl rfl (fun hg => ac (ht rfl))⟩,
     ⟨⟨[⟨94, _, some 28⟩, ⟨95, _, some 29⟩, ⟨86, _, some 20⟩], _, rfl, ⟨rfl, rfl, rfl, trivial⟩, rfl, rfl, b8 rfl rfl rfl rfl (fun hg => am Tryz.underlying28 ti3 rfl (htO rfl hg) (htO rfl hg) q_e2)⟩,
     ⟨⟨[⟨96, _, some 30⟩, ⟨86, _, some 20⟩], _, rfl, ⟨rfl, rfl, trivial⟩, rfl, rfl, b8 rfl rfl rfl rfl (fun hg => ai ti3 rfl rfl (htO rfl hg))⟩,
     ⟨⟨[⟨92, _, some 26⟩, ⟨97, _, some 31⟩, ⟨86, _, some 20⟩], _, rfl, ⟨rfl, rfl, rfl, trivial⟩, rfl, rfl, b8 rfl rfl rfl rfl (fun hg => eO (htO rfl hg) (htO rfl hg))⟩,
     ⟨⟨[⟨86, _, some 20⟩, ⟨98, _, some 32⟩, ⟨83, _, some 17⟩], _, rfl, ⟨rfl, rfl, rfl, trivial⟩, rfl, rfl, cA rfl rfl rfl rfl (fun hg => bw (htO rfl hg) (fun hb => (htO rfl (andi hg hb))) (fun hb => (h1t3 (andi hg hb)).2) (fun hb => h0t3 hg hb))⟩,
     ⟨⟨[⟨83, _, some 17⟩, ⟨99, _, some 33⟩], _, rfl, ⟨rfl, rfl, trivial⟩, rfl, rfl, af rfl (bX (ht rfl) (fun hb => (htO rfl (fV hb))) (fun hb => (h1t2 hb).2) h0t2)⟩,
     trivial⟩⟩⟩⟩⟩⟩⟩⟩⟩⟩⟩⟩⟩⟩⟩⟩⟩⟩⟩⟩⟩⟩⟩⟩⟩⟩⟩⟩⟩⟩⟩⟩⟩⟩⟩ ?_
    refine AT.next ?_;refine CG.cond (ht rfl) (fun hc => ?_) (fun hc => ?_)
    ·have h := ct h hc;refine CG.seq ?_;refine CG.region ?_;refine RG.op (aa hB) rfl ?_;refine RG.nil ?_;refine AT.next ?_;refine CG.ret ?_;refine al (ae (ae (al (ae ?_))));cases so h;exact ak rfl rfl
    ·have h := cf h hc;refine CG.skip ?_;refine ap ?_;refine AT.next ?_;refine CG.region ?_;refine RG.op (ac (ht rfl)) rfl ?_;refine RG.op (cj (ht rfl) hI) rfl ?_;refine RG.op (aa (ht rfl)) rfl ?_;refine RG.nil ?_;exact AT.round (LG.sub (ih2 (IntKind.i64.wrap (i1 + (1 : Int))) h) ⟨rfl, rfl, trivial⟩)
   ·have h := cf h hc;refine CG.exit ?_;refine ah (ah (av ?_));refine AT.next ?_;refine CG.seq ?_;refine CG.region ?_;refine RG.op (aa hB) rfl ?_;refine RG.nil ?_;refine AT.next ?_;refine CG.ret ?_;cases so h;exact ak rfl rfl

set_option maxRecDepth 100000 in
theorem f13_ok (c : DCatalog) {R : Bool} (h : hM c = some R) : Spec Tryz.prog 13 [tD rpDCatalog c] (tD rB R) := by
 refine Spec.of Tryz.func13 rfl rfl rfl fun w0 S0 => ?_;refine CG.seq ?_;refine CG.region ?_;refine RG.op (aS (ht rfl)) rfl ?_;refine RG.op (aa hB) rfl ?_;refine RG.nil ?_;refine AT.next ?_;refine CG.seq ?_;refine CG.seq ?_;refine CG.region ?_;refine RG.op (aj dl rfl ba rfl (ht rfl)) rfl ?_;refine RG.op (ai iR rfl rfl (ht rfl)) rfl ?_;refine RG.op (au Tryz.underlying22 (ht rfl)) rfl ?_;refine RG.op (bV (ht rfl) hI) rfl ?_;refine RG.nil ?_;refine AT.next ?_;refine CG.cond (ht rfl) (fun hc => ?_) (fun hc => ?_)
 ·have h := ct h hc;refine CG.seq ?_;refine CG.region ?_;refine RG.op (aa hB) rfl ?_;refine RG.nil ?_;refine AT.next ?_;refine CG.ret ?_;refine ae ?_;cases so h;exact ak rfl rfl
 ·have h := cf h hc;refine CG.skip ?_;refine AT.next ?_;refine CG.seq ?_;refine CG.seq ?_;refine CG.region ?_;refine RG.op (aa hI) rfl ?_;refine RG.nil ?_;refine AT.next ?_;refine CG.block ?_;refine CG.loop ?_;refine LG.sub (d7 (Z := fun n i => dJ c n i = some R) (Of := fun i => []) (Gf := fun i => [(1, aF rpDCatalog c), (3, tD (rI .i64) i)]) (fun i h => nn h) (fun n ih i h => ?_) bp (0 : Int) h) ⟨rfl, rfl, trivial⟩;refine aq ?_;refine CG.seq ?_;refine CG.seq ?_;refine CG.region ?_;refine RG.op (ac (ht rfl)) rfl ?_;refine RG.op (aj dl rfl ba rfl (ht rfl)) rfl ?_;refine RG.op (ai iR rfl rfl (ht rfl)) rfl ?_;refine RG.op (au Tryz.underlying22 (ht rfl)) rfl ?_;refine RG.op (ay (ht rfl) (ht rfl)) rfl ?_;refine RG.nil ?_;refine AT.next ?_;refine CG.cond (ht rfl) (fun hc => ?_) (fun hc => ?_)
  ·have h := ct h hc;refine CG.skip ?_;refine AT.next ?_;refine CG.seq ?_;refine CG.block ?_;refine CG.seq ?_;refine CG.seq ?_;refine CG.region ?_;refine RG.op (aj dl rfl ba rfl (ht rfl)) rfl ?_;refine RG.op (ai iR rfl rfl (ht rfl)) rfl ?_;refine RG.op (ac (ht rfl)) rfl ?_
   obtain ⟨e, q_e, h⟩ := bs h
   refine RG.op (am Tryz.underlying22 fu rfl (ht rfl) (ht rfl) q_e) rfl ?_;refine RG.op (ai fu rfl rfl (ht rfl)) rfl ?_
   obtain ⟨r, q_r, h⟩ := bs h
   refine RG.op (ax cb45 (f45_ok _ q_r) ⟨(ht rfl), trivial⟩) rfl ?_;refine RG.op (bq (ht rfl)) rfl ?_;refine RG.nil ?_;refine AT.next ?_;refine CG.cond (ht rfl) (fun hc => ?_) (fun hc => ?_)
   ·have h := ct h hc;refine CG.seq ?_;refine CG.region ?_;refine RG.op (aa hB) rfl ?_;refine RG.nil ?_;refine AT.next ?_;refine CG.ret ?_;refine ae (al (ae (ae (al (ae ?_)))));cases so h;exact ak rfl rfl
   ·have h := cf h hc;refine CG.skip ?_;refine AT.next ?_;refine CG.seq ?_;refine CG.region ?_;refine RG.op (aa hI) rfl ?_;refine RG.nil ?_;refine AT.next ?_;refine CG.block ?_;refine CG.loop ?_;refine LG.sub (d7 (Z := fun n1 k => eH c (dJ c n) i e n1 k = some R) (Of := fun k => []) (Gf := fun k => [(1, aF rpDCatalog c), (3, tD (rI .i64) i), (4, tD (rI .i64) k)]) (fun k h => nn h) (fun n1 ih1 k h => ?_) bp (0 : Int) h) ⟨rfl, rfl, rfl, trivial⟩;refine aq ?_;refine CG.seq ?_;refine CG.seq ?_;refine CG.region ?_;refine RG.op (ac (ht rfl)) rfl ?_;refine RG.op (ac (ht rfl)) rfl ?_;refine RG.op (ay (ht rfl) (ht rfl)) rfl ?_;refine RG.nil ?_;refine AT.next ?_;refine CG.cond (ht rfl) (fun hc => ?_) (fun hc => ?_)
    ·have h := ct h hc;refine CG.skip ?_;refine AT.next ?_;refine CG.seq ?_;refine CG.block ?_;refine CG.seq ?_
     obtain ⟨e1, q_e1, h⟩ := bs h
     refine cn (ts := [aF (rSl rpDTable) c.Tables, tD (rSl rpDTable) c.Tables, tD (rI .i64) k, aF rpDTable e1, aF rS e1.Name, tD rS e1.Name, aF (rSl rpDTable) c.Tables, tD (rSl rpDTable) c.Tables, tD (rI .i64) i, aF rpDTable e, aF rS e.Name, tD rS e.Name, tD rB (e1.Name == e.Name)]) mixed rfl rfl
      ⟨⟨[⟨1, _, none⟩], _, rfl, ⟨rfl, trivial⟩, rfl, rfl, af rfl (aj dl rfl ba rfl (ht rfl))⟩,
      ⟨⟨[⟨28, _, some 0⟩], _, rfl, ⟨rfl, trivial⟩, rfl, rfl, af rfl (ai iR rfl rfl (ht rfl))⟩,
      ⟨⟨[⟨4, _, none⟩], _, rfl, ⟨rfl, trivial⟩, rfl, rfl, af rfl (ac (ht rfl))⟩,
      ⟨⟨[⟨29, _, some 1⟩, ⟨30, _, some 2⟩], _, rfl, ⟨rfl, rfl, trivial⟩, rfl, rfl, af rfl (am Tryz.underlying22 fu rfl (ht rfl) (ht rfl) q_e1)⟩,
      ⟨⟨[⟨31, _, some 3⟩], _, rfl, ⟨rfl, trivial⟩, rfl, rfl, af rfl (aj fd53_0 rfl gL rfl (ht rfl))⟩,
      ⟨⟨[⟨32, _, some 4⟩], _, rfl, ⟨rfl, trivial⟩, rfl, rfl, af rfl (ai ti9 rfl rfl (ht rfl))⟩,
      ⟨⟨[⟨1, _, none⟩], _, rfl, ⟨rfl, trivial⟩, rfl, rfl, af rfl (aj dl rfl ba rfl (ht rfl))⟩,
      ⟨⟨[⟨34, _, some 6⟩], _, rfl, ⟨rfl, trivial⟩, rfl, rfl, af rfl (ai iR rfl rfl (ht rfl))⟩,
      ⟨⟨[⟨3, _, none⟩], _, rfl, ⟨rfl, trivial⟩, rfl, rfl, af rfl (ac (ht rfl))⟩,
      ⟨⟨[⟨35, _, some 7⟩, ⟨36, _, some 8⟩], _, rfl, ⟨rfl, rfl, trivial⟩, rfl, rfl, af rfl (am Tryz.underlying22 fu rfl (ht rfl) (ht rfl) q_e)⟩,
      ⟨⟨[⟨37, _, some 9⟩], _, rfl, ⟨rfl, trivial⟩, rfl, rfl, af rfl (aj fd53_0 rfl gL rfl (ht rfl))⟩,
      ⟨⟨[⟨38, _, some 10⟩], _, rfl, ⟨rfl, trivial⟩, rfl, rfl, af rfl (ai ti9 rfl rfl (ht rfl))⟩,
      ⟨⟨[⟨33, _, some 5⟩, ⟨39, _, some 11⟩], _, rfl, ⟨rfl, rfl, trivial⟩, rfl, rfl, af rfl (gr (ht rfl) (ht rfl))⟩,
      trivial⟩⟩⟩⟩⟩⟩⟩⟩⟩⟩⟩⟩⟩ ?_
     refine AT.next ?_;refine CG.cond (ht rfl) (fun hc => ?_) (fun hc => ?_)
     ·have h := ct h hc;refine CG.seq ?_;refine CG.region ?_;refine RG.op (aa hB) rfl ?_;refine RG.nil ?_;refine AT.next ?_;refine CG.ret ?_;refine al (ae (ae (al (al (ae (ae (al (ae ?_))))))));cases so h;exact ak rfl rfl
     ·have h := cf h hc;refine CG.skip ?_;refine ap ?_;refine AT.next ?_;refine CG.region ?_;refine RG.op (ac (ht rfl)) rfl ?_;refine RG.op (cj (ht rfl) hI) rfl ?_;refine RG.op (aa (ht rfl)) rfl ?_;refine RG.nil ?_;exact AT.round (LG.sub (ih1 (IntKind.i64.wrap (k + (1 : Int))) h) ⟨rfl, rfl, rfl, trivial⟩)
    ·have h := cf h hc;refine CG.exit ?_;refine ah (ah (av ?_));refine ap ?_;refine AT.next ?_;refine CG.region ?_;refine RG.op (ac (ht rfl)) rfl ?_;refine RG.op (cj (ht rfl) hI) rfl ?_;refine RG.op (aa (ht rfl)) rfl ?_;refine RG.nil ?_;exact AT.round (LG.sub (ih (IntKind.i64.wrap (i + (1 : Int))) h) ⟨rfl, rfl, trivial⟩)
  ·have h := cf h hc;refine CG.exit ?_;refine ah (ah (av ?_));refine AT.next ?_;refine CG.seq ?_;refine CG.region ?_;refine RG.op (aa hB) rfl ?_;refine RG.nil ?_;refine AT.next ?_;refine CG.ret ?_;cases so h;exact ak rfl rfl

end Go.Proofs.YtegigakgcnhiaaaGreatDoor

