/- Facts of this claim: P0. -/
import Derived.Test.YtegigakgcnhiaaaGreatDoorLdT
import Derived.Test.YtegigakgcnhiaaaGreatDoorLdF
namespace Go.Proofs.YtegigakgcnhiaaaGreatDoor
open Go

set_option maxRecDepth 100000 in
theorem f108_ok (c : Int) {R : Bool} (h : jV c = some R) : Spec Tryz.prog 108 [tD (rI .i32) c] (tD rB R) := by
 refine Spec.of Tryz.func108 rfl rfl rfl fun w0 S0 => ?_;refine CG.seq ?_;refine CG.region ?_;refine RG.op (aa hB) rfl ?_;refine RG.nil ?_;refine AT.next ?_;refine CG.seq ?_;refine CG.region ?_;refine RG.op (ac (ht rfl)) rfl ?_;refine RG.op (eO (ht rfl) hI) rfl ?_;refine RG.op (ac (ht rfl)) rfl ?_;refine aw rfl rfl rfl rfl (fun hg => ac (ht rfl)) ?_;refine aw rfl rfl rfl rfl (fun hg => kr (htO rfl hg) hI) ?_;refine RG.op (aT (ht rfl) (fun hb => (htO rfl hb))) rfl ?_;refine RG.op (aa (ht rfl)) rfl ?_;refine RG.nil ?_;refine AT.next ?_;refine CG.ret ?_;cases so h;exact ak rfl rfl

set_option maxRecDepth 100000 in
theorem f160_ok (s : (List Str)) (v : Str) {R : Int} (h : dc s v = some R) : Spec Tryz.prog 160 [tD (rSl rS) s, tD rS v] (tD (rI .i64) R) := by
 refine Spec.of Tryz.func160 rfl rfl rfl fun w0 S0 => ?_;refine CG.seq ?_;refine CG.region ?_;refine RG.op (aa hI) rfl ?_;refine RG.nil ?_;refine AT.next ?_;refine CG.seq ?_;refine CG.seq ?_;refine CG.region ?_;refine RG.op (ac (ht rfl)) rfl ?_;refine RG.op (au Tryz.underlying151 (ht rfl)) rfl ?_;refine RG.op (ac hI) rfl ?_;refine RG.nil ?_;refine AT.next ?_;refine CG.block ?_;refine aC (k := 6) rfl (fun hN => ?_);refine CG.loop ?_;refine LG.sub (bf (Z := fun ls i  => (s.drop i = ls) ∧ bv v ls i  = some R) (Of := fun _ i  => []) (Gf := fun _ i  => [(0, tD (rSl rS) s), (1, tD rS v), (7, tD (rI .i64) (s.length : Int)), (8, tD (rI .i64) (i : Int))]) (fun i  h => ?_) (fun e tl ih i  h => ?_) s 0  ⟨rfl, h⟩) ⟨rfl, rfl, rfl, rfl, trivial⟩
 ·obtain ⟨hx, h⟩ := h
  refine aq ?_;refine CG.seq ?_;refine CG.region ?_;refine RG.op (ay (ht rfl) (ht rfl)) rfl ?_;refine RG.nil ?_;refine AT.next ?_;refine CG.seq ?_;refine aM (ht rfl) (bH hx) ?_;refine CG.exit ?_;refine ah (ah (av ?_));refine AT.next ?_;refine CG.seq ?_;refine CG.region ?_;refine RG.op (aa hI) rfl ?_;refine RG.nil ?_;refine AT.next ?_;refine CG.ret ?_;cases so h;exact ak rfl rfl
 ·obtain ⟨hx, h⟩ := h
  refine aq ?_;refine CG.seq ?_;refine CG.region ?_;refine RG.op (ay (ht rfl) (ht rfl)) rfl ?_;refine RG.nil ?_;refine AT.next ?_;refine CG.seq ?_;refine aL (ht rfl) (bz hx) ?_;refine CG.skip ?_;refine AT.next ?_;refine CG.seq ?_;refine CG.block ?_;refine CG.seq ?_;refine CG.region ?_;refine RG.op (ac (ht rfl)) rfl ?_;refine RG.op (aa (ht rfl)) rfl ?_;refine RG.nil ?_;refine AT.next ?_;refine CG.seq ?_;refine CG.region ?_;refine RG.op (ac (ht rfl)) rfl ?_;refine RG.op (ac (ht rfl)) rfl ?_;refine RG.op (ac (ht rfl)) rfl ?_;refine RG.op (am Tryz.underlying151 ti9 rfl (ht rfl) (ht rfl) (bc hx)) rfl ?_;refine RG.op (ai ti9 rfl rfl (ht rfl)) rfl ?_;refine RG.op (gr (ht rfl) (ht rfl)) rfl ?_;refine RG.nil ?_;refine AT.next ?_;refine CG.cond (ht rfl) (fun hc => ?_) (fun hc => ?_)
  ·have h := ct h hc;refine CG.seq ?_;refine CG.region ?_;refine RG.op (ac (ht rfl)) rfl ?_;refine RG.op (aa (ht rfl)) rfl ?_;refine RG.nil ?_;refine AT.next ?_;refine CG.ret ?_;refine al (ae (ae (al (ae ?_))));cases so h;exact ak rfl rfl
  ·have h := cf h hc;refine CG.skip ?_;refine ap ?_;refine AT.next ?_;refine CG.region ?_;refine RG.op (aP (bA hx hN) (ht rfl) hI) rfl ?_;refine RG.op (ac (ht rfl)) rfl ?_;refine RG.nil ?_;exact AT.round (LG.sub (ih (i + 1)  ⟨bG hx, h⟩) ⟨rfl, rfl, rfl, rfl, trivial⟩)

set_option maxRecDepth 100000 in
theorem f137_ok (s : (List Str)) (v : Str) {R : Bool} (h : cC s v = some R) : Spec Tryz.prog 137 [tD (rSl rS) s, tD rS v] (tD rB R) := by
 refine Spec.of Tryz.func137 rfl rfl rfl fun w0 S0 => ?_;refine CG.seq ?_;refine CG.region ?_;refine RG.op (aa hB) rfl ?_;refine RG.nil ?_;refine AT.next ?_;refine CG.seq ?_;refine CG.region ?_;refine RG.op (ac (ht rfl)) rfl ?_;refine RG.op (ac (ht rfl)) rfl ?_
 obtain ⟨r, q_r, h⟩ := bs h
 refine RG.op (ax cb160 (f160_ok _ _ q_r) ⟨(ht rfl), (ht rfl), trivial⟩) rfl ?_;refine RG.op (eO (ht rfl) hI) rfl ?_;refine RG.op (aa (ht rfl)) rfl ?_;refine RG.nil ?_;refine AT.next ?_;refine CG.ret ?_;cases so h;exact ak rfl rfl

set_option maxRecDepth 100000 in
theorem f109_ok (s : Str) {R : Bool} (h : kw s = some R) : Spec Tryz.prog 109 [tD rS s] (tD rB R) := by
 refine Spec.of Tryz.func109 rfl rfl rfl fun w0 S0 => ?_;refine CG.seq ?_;refine CG.region ?_;refine RG.op (aa hB) rfl ?_;refine RG.nil ?_;refine AT.next ?_;refine CG.seq ?_;refine CG.region ?_;refine RG.op (OpOK.glob (r := gE rS 28) (x := gv1) gm1 gr1 (ok_sliceP Tryz.underlying168 ti9 rfl hGlob)) rfl ?_;refine RG.op (ac (ht rfl)) rfl ?_
 obtain ⟨r, q_r, h⟩ := bs h
 refine RG.op (ax cb137 (f137_ok _ _ q_r) ⟨(ht rfl), (ht rfl), trivial⟩) rfl ?_;refine RG.op (aa (ht rfl)) rfl ?_;refine RG.nil ?_;refine AT.next ?_;refine CG.ret ?_;cases so h;exact ak rfl rfl

theorem f110_ok (s : Str) {R : Str} (h : cN s = some R) : Spec Tryz.prog 110 [tD rS s] (tD rS R) := by
 unfold cN at h
 split at h
 ·rename_i hl
  cases h
  refine Spec.of_str fun w hw => ?_
  have := Any.strings_ToUpper_any jE upX ⟨s.toArray⟩ w (by rw [ba_size]; exact hl) hw.1 hw.2
  simp only [List.toList_toArray] at this
  exact this
 ·cases h

set_option maxRecDepth 100000 in
theorem f111_ok (c : Int) {R : Bool} (h : lex_digit c = some R) : Spec Tryz.prog 111 [tD (rI .i32) c] (tD rB R) := by
 refine Spec.of Tryz.func111 rfl rfl rfl fun w0 S0 => ?_;refine CG.seq ?_;refine CG.region ?_;refine RG.op (aa hB) rfl ?_;refine RG.nil ?_;refine AT.next ?_;refine CG.seq ?_;refine CG.region ?_;refine RG.op (ac (ht rfl)) rfl ?_;refine RG.op (eO (ht rfl) hI) rfl ?_;refine RG.op (ac (ht rfl)) rfl ?_;refine aw rfl rfl rfl rfl (fun hg => ac (ht rfl)) ?_;refine aw rfl rfl rfl rfl (fun hg => kr (htO rfl hg) hI) ?_;refine RG.op (aT (ht rfl) (fun hb => (htO rfl hb))) rfl ?_;refine RG.op (aa (ht rfl)) rfl ?_;refine RG.nil ?_;refine AT.next ?_;refine CG.ret ?_;cases so h;exact ak rfl rfl

set_option maxRecDepth 100000 in
theorem f88_ok (s : Str) {R : Bool} (h : gI s = some R) : Spec Tryz.prog 88 [tD rS s] (tD rB R) := by
 refine Spec.of Tryz.func88 rfl rfl rfl fun w0 S0 => ?_;refine CG.seq ?_;refine CG.region ?_;refine RG.op (aa hB) rfl ?_;refine RG.nil ?_;refine AT.next ?_;refine CG.seq ?_;refine CG.seq ?_;refine CG.region ?_;refine RG.op (ac (ht rfl)) rfl ?_;refine RG.op (gr (ht rfl) hS) rfl ?_;refine RG.op (ac (ht rfl)) rfl ?_;refine aE rfl rfl rfl rfl (fun hg => ac (ht rfl)) ?_;refine aE rfl rfl rfl rfl (fun hg => fJ Tryz.underlying9 (htO rfl hg)) ?_;refine aE rfl rfl rfl rfl (fun hg => bV (htO rfl hg) hI) ?_;refine RG.op (cH (ht rfl) (fun hb => (htO rfl (fV hb)))) rfl ?_;refine RG.op (ac (ht rfl)) rfl ?_
 obtain ⟨t, q_t, h⟩ := bs h
 refine aE rfl rfl rfl rfl (fun hg => ac (ht rfl)) ?_
 obtain ⟨b, h1t, h0t⟩ := og q_t
 have q_bg := fun hb => (h1t hb).1
 refine aE rfl rfl rfl rfl (fun hg => iK Tryz.underlying9 (htO rfl hg) hI (q_bg hg)) ?_;refine aE rfl rfl rfl rfl (fun hg => fa Tryz.underlying5 Tryz.underlying21 (htO rfl hg)) ?_
 obtain ⟨r, h1t⟩ := og2 (fun hb => (h1t hb).2)
 have q_rg := fun hb => (h1t hb).1
 refine aE rfl rfl rfl rfl (fun hg => ax cb108 (f108_ok _ (q_rg hg)) ⟨(htO rfl hg), trivial⟩) ?_;refine aE rfl rfl rfl rfl (fun hg => bq (htO rfl hg)) ?_;refine RG.op (bX (ht rfl) (fun hb => (htO rfl (fV hb))) (fun hb => (h1t hb).2) h0t) rfl ?_;refine RG.op (ac (ht rfl)) rfl ?_
 obtain ⟨t1, q_t1, h⟩ := bs h
 refine aE rfl rfl rfl rfl (fun hg => ac (ht rfl)) ?_
 obtain ⟨r1, h1t1, h0t1⟩ := og q_t1
 have q_r1g := fun hb => (h1t1 hb).1
 refine aE rfl rfl rfl rfl (fun hg => ax cb110 (f110_ok _ (q_r1g hg)) ⟨(htO rfl hg), trivial⟩) ?_
 obtain ⟨r2, h1t1⟩ := og2 (fun hb => (h1t1 hb).2)
 have q_r2g := fun hb => (h1t1 hb).1
 refine aE rfl rfl rfl rfl (fun hg => ax cb109 (f109_ok _ (q_r2g hg)) ⟨(htO rfl hg), trivial⟩) ?_;refine RG.op (bX (ht rfl) (fun hb => (htO rfl (fV hb))) (fun hb => (h1t1 hb).2) h0t1) rfl ?_;refine RG.nil ?_;refine AT.next ?_;refine CG.cond (ht rfl) (fun hc => ?_) (fun hc => ?_)
 ·have h := ct h hc;refine CG.seq ?_;refine CG.region ?_;refine RG.op (aa hB) rfl ?_;refine RG.nil ?_;refine AT.next ?_;refine CG.ret ?_;refine ae ?_;cases so h;exact ak rfl rfl
 ·have h := cf h hc;refine CG.skip ?_;refine AT.next ?_;refine CG.seq ?_;refine CG.seq ?_;refine CG.region ?_;refine RG.op (ac (ht rfl)) rfl ?_;refine RG.rangeStr Tryz.underlying9 (ht rfl) rfl (fun rg => ?_);refine RG.nil ?_;refine AT.next ?_;refine CG.block ?_;refine CG.loop ?_;refine LG.sub (LG.row (β := Int × Int) (Z := fun ls => fD ls = some R) (Of := fun ls => [strR rg s ls]) (Gf := [(25, tV (aR rg 0))]) (fun ls h ih => ?_) (runes s) h) ⟨rfl, trivial⟩;refine aq ?_;refine CG.seq ?_;refine CG.region ?_;refine RG.nextStr (ht rfl) rfl (fun hl => ?_) (fun e tl hk => ?_)
  ·subst hl
   refine RG.op (ok_extractNx (ht rfl)) rfl ?_;refine RG.nil ?_;refine AT.next ?_;refine CG.seq ?_;refine aM (ht rfl) rfl ?_;refine CG.exit ?_;refine ah (ah (av ?_));refine AT.next ?_;refine CG.seq ?_;refine CG.region ?_;refine RG.op (aa hB) rfl ?_;refine RG.nil ?_;refine AT.next ?_;refine CG.ret ?_;refine AT.drop ?_;cases so h;exact ak rfl rfl
  ·subst hk
   refine RG.op (ok_extractNxS (i := 0) rfl (ht rfl)) rfl ?_;refine RG.nil ?_;refine AT.next ?_;refine CG.seq ?_;refine aL (ht rfl) rfl ?_;refine CG.skip ?_;refine AT.next ?_;refine CG.block ?_;refine CG.seq ?_;refine CG.region ?_;refine RG.op (ok_extractNxS (i := 2) rfl (ht rfl)) rfl ?_;refine RG.op (aa (ht rfl)) rfl ?_;refine RG.nil ?_;refine AT.next ?_;refine CG.seq ?_;refine CG.region ?_;refine RG.op (ac (ht rfl)) rfl ?_
   obtain ⟨r3, q_r3, h⟩ := bs h
   refine RG.op (ax cb111 (f111_ok _ q_r3) ⟨(ht rfl), trivial⟩) rfl ?_;refine RG.op (bq (ht rfl)) rfl ?_;refine RG.op (ac (ht rfl)) rfl ?_
   obtain ⟨t2, q_t2, h⟩ := bs h
   refine aw rfl rfl rfl rfl (fun hg => ac (ht rfl)) ?_
   obtain ⟨r4, h1t2, h0t2⟩ := og q_t2
   have q_r4g := fun hb => (h1t2 hb).1
   refine aw rfl rfl rfl rfl (fun hg => ax cb108 (f108_ok _ (q_r4g hg)) ⟨(htO rfl hg), trivial⟩) ?_;refine aw rfl rfl rfl rfl (fun hg => bq (htO rfl hg)) ?_;refine RG.op (bw (ht rfl) (fun hb => (htO rfl hb)) (fun hb => (h1t2 hb).2) h0t2) rfl ?_;refine RG.op (ac (ht rfl)) rfl ?_;refine aw rfl rfl rfl rfl (fun hg => ac (ht rfl)) ?_;refine aw rfl rfl rfl rfl (fun hg => aW (htO rfl hg) hI) ?_;refine RG.op (aT (ht rfl) (fun hb => (htO rfl hb))) rfl ?_;refine RG.nil ?_;refine AT.next ?_;refine CG.cond (ht rfl) (fun hc => ?_) (fun hc => ?_)
   ·have h := ct h hc;refine CG.seq ?_;refine CG.region ?_;refine RG.op (aa hB) rfl ?_;refine RG.nil ?_;refine AT.next ?_;refine CG.ret ?_;refine al (ae (al (ae ?_)));refine AT.drop ?_;cases so h;exact ak rfl rfl
   ·have h := cf h hc;refine CG.skip ?_;refine ap ?_;exact AT.round (LG.sub (ih tl (by simp) h) ⟨rfl, trivial⟩)

set_option maxRecDepth 100000 in
theorem f144_ok (s : (List DColumn)) (f : (DColumn → Option Bool)) {R : Int} (h : bO s f = some R) : Spec Tryz.prog 144 [tD (rSl rpDColumn) s, (cU Tryz.prog (fun (x : DColumn) => [tD rpDColumn x]) (fun (x : Bool) => tD rB x) (fun (x : DColumn) => f x))] (tD (rI .i64) R) := by
 refine Spec.of Tryz.func144 rfl rfl rfl fun w0 S0 => ?_;refine CG.seq ?_;refine CG.region ?_;refine RG.op (aa hI) rfl ?_;refine RG.nil ?_;refine AT.next ?_;refine CG.seq ?_;refine CG.seq ?_;refine CG.region ?_;refine RG.op (ac (ht rfl)) rfl ?_;refine RG.op (au Tryz.underlying51 (ht rfl)) rfl ?_;refine RG.op (ac hI) rfl ?_;refine RG.nil ?_;refine AT.next ?_;refine CG.block ?_;refine aC (k := 6) rfl (fun hN => ?_);refine CG.loop ?_;refine LG.sub (bf (Z := fun ls i  => (s.drop i = ls) ∧ aU f ls i  = some R) (Of := fun _ i  => []) (Gf := fun _ i  => [(0, tD (rSl rpDColumn) s), (1, (cU Tryz.prog (fun (x : DColumn) => [tD rpDColumn x]) (fun (x : Bool) => tD rB x) (fun (x : DColumn) => f x))), (7, tD (rI .i64) (s.length : Int)), (8, tD (rI .i64) (i : Int))]) (fun i  h => ?_) (fun e tl ih i  h => ?_) s 0  ⟨rfl, h⟩) ⟨rfl, rfl, rfl, rfl, trivial⟩
 ·obtain ⟨hx, h⟩ := h
  refine aq ?_;refine CG.seq ?_;refine CG.region ?_;refine RG.op (ay (ht rfl) (ht rfl)) rfl ?_;refine RG.nil ?_;refine AT.next ?_;refine CG.seq ?_;refine aM (ht rfl) (bH hx) ?_;refine CG.exit ?_;refine ah (ah (av ?_));refine AT.next ?_;refine CG.seq ?_;refine CG.region ?_;refine RG.op (aa hI) rfl ?_;refine RG.nil ?_;refine AT.next ?_;refine CG.ret ?_;cases so h;exact ak rfl rfl
 ·obtain ⟨hx, h⟩ := h
  refine aq ?_;refine CG.seq ?_;refine CG.region ?_;refine RG.op (ay (ht rfl) (ht rfl)) rfl ?_;refine RG.nil ?_;refine AT.next ?_;refine CG.seq ?_;refine aL (ht rfl) (bz hx) ?_;refine CG.skip ?_;refine AT.next ?_;refine CG.seq ?_;refine CG.block ?_;refine CG.seq ?_;refine CG.region ?_;refine RG.op (ac (ht rfl)) rfl ?_;refine RG.op (aa (ht rfl)) rfl ?_;refine RG.nil ?_;refine AT.next ?_;refine CG.seq ?_;refine CG.region ?_;refine RG.op (ac (ht rfl)) rfl ?_;refine RG.op (ac (ht rfl)) rfl ?_;refine RG.op (ac (ht rfl)) rfl ?_;refine RG.op (am Tryz.underlying51 f8 rfl (ht rfl) (ht rfl) (bc hx)) rfl ?_;refine RG.op (ai f8 rfl rfl (ht rfl)) rfl ?_
  obtain ⟨r, q_r, h⟩ := bs h
  refine RG.op (dj (args := (fun (x : DColumn) => [tD rpDColumn x])) (res := (fun (x : Bool) => tD rB x)) (f := (fun (x : DColumn) => f x)) (x := ((e) : DColumn)) (ht rfl) q_r ⟨(ht rfl), trivial⟩) rfl ?_;refine RG.nil ?_;refine AT.next ?_;refine CG.cond (ht rfl) (fun hc => ?_) (fun hc => ?_)
  ·have h := ct h hc;refine CG.seq ?_;refine CG.region ?_;refine RG.op (ac (ht rfl)) rfl ?_;refine RG.op (aa (ht rfl)) rfl ?_;refine RG.nil ?_;refine AT.next ?_;refine CG.ret ?_;refine al (ae (ae (al (ae ?_))));cases so h;exact ak rfl rfl
  ·have h := cf h hc;refine CG.skip ?_;refine ap ?_;refine AT.next ?_;refine CG.region ?_;refine RG.op (aP (bA hx hN) (ht rfl) hI) rfl ?_;refine RG.op (ac (ht rfl)) rfl ?_;refine RG.nil ?_;exact AT.round (LG.sub (ih (i + 1)  ⟨bG hx, h⟩) ⟨rfl, rfl, rfl, rfl, trivial⟩)

set_option maxRecDepth 100000 in
theorem f145_ok (of : (DColumn → Option Str)) (name : Str) (p : DColumn) {R : Bool} (h : bB of name p = some R) : Spec Tryz.prog 145 [tD rpDColumn p, aF (rT ((cU Tryz.prog (fun (x : DColumn) => [tD rpDColumn x]) (fun (x : Str) => tD rS x) (fun (x : DColumn) => of x)))) (), aF rS name] (tD rB R) := by
 refine Spec.of Tryz.func145 rfl rfl rfl fun w0 S0 => ?_;refine CG.seq ?_;refine CG.region ?_;refine RG.op (aS (ht rfl)) rfl ?_;refine RG.op (aa hB) rfl ?_;refine RG.nil ?_;refine AT.next ?_;refine CG.seq ?_
 obtain ⟨r, q_r, h⟩ := bs h
 refine cn (ts := [(cU Tryz.prog (fun (x : DColumn) => [tD rpDColumn x]) (fun (x : Str) => tD rS x) (fun (x : DColumn) => of x)), tD rpDColumn p, tD rS r, tD rS name, tD rB (r == name), tD rB (r == name)]) mixed rfl rfl
  ⟨⟨[⟨1, _, none⟩], _, rfl, ⟨rfl, trivial⟩, rfl, rfl, af rfl (ok_loadF ti126 (ht rfl))⟩,
  ⟨⟨[⟨3, _, none⟩], _, rfl, ⟨rfl, trivial⟩, rfl, rfl, af rfl (ai f8 rfl rfl (ht rfl))⟩,
  ⟨⟨[⟨5, _, some 0⟩, ⟨6, _, some 1⟩], _, rfl, ⟨rfl, rfl, trivial⟩, rfl, rfl, af rfl (dj (args := (fun (x : DColumn) => [tD rpDColumn x])) (res := (fun (x : Str) => tD rS x)) (f := (fun (x : DColumn) => of x)) (x := ((p) : DColumn)) (ht rfl) q_r ⟨(ht rfl), trivial⟩)⟩,
  ⟨⟨[⟨2, _, none⟩], _, rfl, ⟨rfl, trivial⟩, rfl, rfl, af rfl (ai ti9 rfl rfl (ht rfl))⟩,
  ⟨⟨[⟨7, _, some 2⟩, ⟨8, _, some 3⟩], _, rfl, ⟨rfl, rfl, trivial⟩, rfl, rfl, af rfl (gr (ht rfl) (ht rfl))⟩,
  ⟨⟨[⟨9, _, some 4⟩], _, rfl, ⟨rfl, trivial⟩, rfl, rfl, af rfl (aa (ht rfl))⟩,
  trivial⟩⟩⟩⟩⟩⟩ ?_
 refine AT.next ?_;refine CG.ret ?_;cases so h;exact ak rfl rfl

set_option maxRecDepth 100000 in
theorem f112_ok (l : (List DColumn)) (of : (DColumn → Option Str)) (name : Str) {R : Int × Bool} (h : cK l of name = some R) : Spec Tryz.prog 112 [tD (rSl rpDColumn) l, (cU Tryz.prog (fun (x : DColumn) => [tD rpDColumn x]) (fun (x : Str) => tD rS x) (fun (x : DColumn) => of x)), tD rS name] (tT [tD (rI .i64) R.1, tD rB R.2]) := by
 refine Spec.of Tryz.func112 rfl rfl rfl fun w0 S0 => ?_;refine CG.seq ?_;refine CG.region ?_;refine RG.op (ok_boxF (ht rfl)) rfl ?_;refine RG.op (aS (ht rfl)) rfl ?_;refine RG.op (aa hI) rfl ?_;refine RG.op (aa hB) rfl ?_;refine RG.nil ?_;refine AT.next ?_;refine CG.seq ?_;refine CG.region ?_;refine RG.op (ac (ht rfl)) rfl ?_;refine RG.op ((show OpOK _ _ _ _ ((cU Tryz.prog (fun (x : DColumn) => [tD rpDColumn x]) (fun (x : Bool) => tD rB x) (fun (x : DColumn) => (bB of name) x))) from jq (cts := [aF (rT ((cU Tryz.prog (fun (x : DColumn) => [tD rpDColumn x]) (fun (x : Str) => tD rS x) (fun (x : DColumn) => of x)))) (), aF rS name]) (caps := [.tmp 4, .tmp 5]) cb145 ⟨(ht rfl), (ht rfl), trivial⟩ (fun x y h => f145_ok _ _ _ h))) rfl ?_
 obtain ⟨r, q_r, h⟩ := bs h
 refine RG.op (ax cb144 (f144_ok _ _ q_r) ⟨(ht rfl), (ht rfl), trivial⟩) rfl ?_;refine RG.op (aa (ht rfl)) rfl ?_;refine RG.nil ?_;refine AT.next ?_;refine CG.seq ?_;refine CG.region ?_;refine RG.op (ac (ht rfl)) rfl ?_;refine RG.op (ok_max2 (ht rfl) hI) rfl ?_;refine RG.op (ac (ht rfl)) rfl ?_;refine RG.op (eO (ht rfl) hI) rfl ?_;refine RG.op (aa (ht rfl)) rfl ?_;refine RG.op (aa (ht rfl)) rfl ?_;refine RG.nil ?_;refine AT.next ?_;refine CG.ret ?_;cases so h;exact gW rfl rfl rfl

set_option maxRecDepth 100000 in
theorem f89_ok (l : (List DColumn)) (of : (DColumn → Option Str)) {R : Bool} (h : dV l of = some R) : Spec Tryz.prog 89 [tD (rSl rpDColumn) l, (cU Tryz.prog (fun (x : DColumn) => [tD rpDColumn x]) (fun (x : Str) => tD rS x) (fun (x : DColumn) => of x))] (tD rB R) := by
 refine Spec.of Tryz.func89 rfl rfl rfl fun w0 S0 => ?_;refine CG.seq ?_;refine CG.region ?_;refine RG.op (aa hB) rfl ?_;refine RG.nil ?_;refine AT.next ?_;refine CG.seq ?_;refine CG.seq ?_;refine CG.region ?_;refine RG.op (ac (ht rfl)) rfl ?_;refine RG.op (au Tryz.underlying51 (ht rfl)) rfl ?_;refine RG.op (ac hI) rfl ?_;refine RG.nil ?_;refine AT.next ?_;refine CG.block ?_;refine aC (k := 9) rfl (fun hN => ?_);refine CG.loop ?_;refine LG.sub (bf (Z := fun ls i  => (l.drop i = ls) ∧ bR l of ls i  = some R) (Of := fun _ i  => []) (Gf := fun _ i  => [(0, tD (rSl rpDColumn) l), (1, (cU Tryz.prog (fun (x : DColumn) => [tD rpDColumn x]) (fun (x : Str) => tD rS x) (fun (x : DColumn) => of x))), (9, tD (rSl rpDColumn) l), (10, tD (rI .i64) (l.length : Int)), (11, tD (rI .i64) (i : Int))]) (fun i  h => ?_) (fun e tl ih i  h => ?_) l 0  ⟨rfl, h⟩) ⟨rfl, rfl, rfl, rfl, rfl, trivial⟩
 ·obtain ⟨hx, h⟩ := h
  refine aq ?_;refine CG.seq ?_;refine CG.region ?_;refine RG.op (ay (ht rfl) (ht rfl)) rfl ?_;refine RG.nil ?_;refine AT.next ?_;refine CG.seq ?_;refine aM (ht rfl) (bH hx) ?_;refine CG.exit ?_;refine ah (ah (av ?_));refine AT.next ?_;refine CG.seq ?_;refine CG.region ?_;refine RG.op (aa hB) rfl ?_;refine RG.nil ?_;refine AT.next ?_;refine CG.ret ?_;cases so h;exact ak rfl rfl
 ·obtain ⟨hx, h⟩ := h
  refine aq ?_;refine CG.seq ?_;refine CG.region ?_;refine RG.op (ay (ht rfl) (ht rfl)) rfl ?_;refine RG.nil ?_;refine AT.next ?_;refine CG.seq ?_;refine aL (ht rfl) (bz hx) ?_;refine CG.skip ?_;refine AT.next ?_;refine CG.seq ?_;refine CG.block ?_;refine CG.seq ?_;refine CG.region ?_;refine RG.op (ac (ht rfl)) rfl ?_;refine RG.op (am Tryz.underlying51 f8 rfl (ht rfl) (ht rfl) (bc hx)) rfl ?_;refine RG.op (ai f8 rfl rfl (ht rfl)) rfl ?_;refine RG.alloc (r := rpDColumn) (x := (⟨[], (0 : Int)⟩ : DColumn)) f8 (fun _ => iJ _) rfl (fun b => ?_);refine RG.op (aa (ht rfl)) rfl ?_;refine aH f8 rfl aB rfl (ht rfl) (ht rfl) ?_;refine RG.settleB 6 rfl ?_;refine RG.nil ?_;refine AT.next ?_;refine CG.seq ?_;refine CG.region ?_;refine RG.op (ac (ht rfl)) rfl ?_;refine RG.op (ac (ht rfl)) rfl ?_;refine RG.op (ac (ht rfl)) rfl ?_;refine RG.op (ai f8 rfl rfl (ht rfl)) rfl ?_
  obtain ⟨r, q_r, h⟩ := bs h
  refine RG.op (dj (args := (fun (x : DColumn) => [tD rpDColumn x])) (res := (fun (x : Str) => tD rS x)) (f := (fun (x : DColumn) => of x)) (x := ((e) : DColumn)) (ht rfl) q_r ⟨(ht rfl), trivial⟩) rfl ?_
  obtain ⟨r1, q_r1, h⟩ := bs h
  refine RG.op (ax cb112 (f112_ok _ _ _ q_r1) ⟨(ht rfl), (ht rfl), (ht rfl), trivial⟩) rfl ?_;refine RG.op (ac (ht rfl)) rfl ?_;refine RG.op (bE rfl (ht rfl)) rfl ?_;refine RG.op (bE rfl (ht rfl)) rfl ?_;refine RG.op (aa (ht rfl)) rfl ?_;refine RG.op (aa (ht rfl)) rfl ?_;refine RG.nil ?_;refine AT.next ?_;refine CG.seq ?_;refine CG.region ?_;refine RG.op (ac (ht rfl)) rfl ?_;refine RG.op (ac (ht rfl)) rfl ?_;refine RG.op (aW (ht rfl) (ht rfl)) rfl ?_;refine RG.op (ac (ht rfl)) rfl ?_
  obtain ⟨t, q_t, h⟩ := bs h
  refine aE rfl rfl rfl rfl (fun hg => ac (ht rfl)) ?_;refine aE rfl rfl rfl rfl (fun hg => ai f8 rfl rfl (ht rfl)) ?_
  obtain ⟨r2, h1t, h0t⟩ := og q_t
  have q_r2g := fun hb => (h1t hb).1
  refine aE rfl rfl rfl rfl (fun hg => dj (args := (fun (x : DColumn) => [tD rpDColumn x])) (res := (fun (x : Str) => tD rS x)) (f := (fun (x : DColumn) => of x)) (x := ((e) : DColumn)) (htO rfl hg) (q_r2g hg) ⟨(htO rfl hg), trivial⟩) ?_
  obtain ⟨r3, h1t⟩ := og2 (fun hb => (h1t hb).2)
  have q_r3g := fun hb => (h1t hb).1
  refine aE rfl rfl rfl rfl (fun hg => ax cb88 (f88_ok _ (q_r3g hg)) ⟨(htO rfl hg), trivial⟩) ?_;refine aE rfl rfl rfl rfl (fun hg => bq (htO rfl hg)) ?_;refine RG.op (bX (ht rfl) (fun hb => (htO rfl (fV hb))) (fun hb => (h1t hb).2) h0t) rfl ?_;refine RG.nil ?_;refine AT.next ?_;refine CG.cond (ht rfl) (fun hc => ?_) (fun hc => ?_)
  ·have h := ct h hc;refine CG.seq ?_;refine CG.region ?_;refine RG.op (aa hB) rfl ?_;refine RG.nil ?_;refine AT.next ?_;refine CG.ret ?_;refine al (ae (ae (al (ae ?_))));cases so h;exact ak rfl rfl
  ·have h := cf h hc;refine CG.skip ?_;refine ap ?_;refine AT.next ?_;refine CG.region ?_;refine RG.op (aP (bA hx hN) (ht rfl) hI) rfl ?_;refine RG.op (ac (ht rfl)) rfl ?_;refine RG.nil ?_;exact AT.round (LG.sub (ih (i + 1)  ⟨bG hx, h⟩) ⟨rfl, rfl, rfl, rfl, rfl, trivial⟩)

set_option maxRecDepth 100000 in
theorem f90_ok (c : DColumn) {R : Str} (h : bF c = some R) : Spec Tryz.prog 90 [tD rpDColumn c] (tD rS R) := by
 refine Spec.of Tryz.func90 rfl rfl rfl fun w0 S0 => ?_;refine CG.seq ?_;refine CG.region ?_;refine RG.op (aS (ht rfl)) rfl ?_;refine RG.op (aa hS) rfl ?_;refine RG.nil ?_;refine AT.next ?_;refine CG.seq ?_;refine CG.region ?_;refine RG.op (aj fd79_0 rfl ig rfl (ht rfl)) rfl ?_;refine RG.op (ai ti9 rfl rfl (ht rfl)) rfl ?_;refine RG.op (aa (ht rfl)) rfl ?_;refine RG.nil ?_;refine AT.next ?_;refine CG.ret ?_;cases so h;exact ak rfl rfl

set_option maxRecDepth 100000 in
theorem f91_ok (kind : Int) {R : Str} (h : iG kind = some R) : Spec Tryz.prog 91 [tD (rI .i64) kind] (tD rS R) := by
 refine Spec.of Tryz.func91 rfl rfl rfl fun w0 S0 => ?_;refine CG.seq ?_;refine CG.region ?_;refine RG.op (aa hS) rfl ?_;refine RG.nil ?_;refine AT.next ?_;refine CG.seq ?_;refine CG.seq ?_;refine CG.region ?_;refine RG.op (OpOK.glob (r := (gE rpDS145 3)) (x := gv0) gm0 gr0 (ai ti146 rfl rfl hGlob)) rfl ?_;refine RG.op (ac hI) rfl ?_;refine RG.nil ?_;refine AT.next ?_;refine CG.block ?_;refine CG.loop ?_;refine LG.sub (LG.nat1 (Z := fun k i  => (3 - i = k) ∧ cR kind k i  = some R) (Of := fun _ i  => []) (Gf := fun _ i  => [(0, tD (rI .i64) kind), (5, tD (gE rpDS145 3) gv0), (6, tD (rI .i64) (i : Int))]) (fun i  h => ?_) (fun k1 ih i  h => ?_) 3 0  ⟨rfl, h⟩) ⟨rfl, rfl, rfl, trivial⟩
 ·obtain ⟨hx, h⟩ := h
  refine aq ?_;refine CG.seq ?_;refine CG.region ?_;refine RG.op (ay (ht rfl) hI) rfl ?_;refine RG.nil ?_;refine AT.next ?_;refine CG.seq ?_;refine aM (ht rfl) (natF hx) ?_;refine CG.exit ?_;refine ah (ah (av ?_));refine AT.next ?_;refine CG.seq ?_;refine CG.region ?_;refine RG.op (aa hS) rfl ?_;refine RG.nil ?_;refine AT.next ?_;refine CG.ret ?_;cases so h;exact ak rfl rfl
 ·obtain ⟨hx, h⟩ := h
  refine aq ?_;refine CG.seq ?_;refine CG.region ?_;refine RG.op (ay (ht rfl) hI) rfl ?_;refine RG.nil ?_;refine AT.next ?_;refine CG.seq ?_;refine aL (ht rfl) (natT hx) ?_;refine CG.skip ?_;refine AT.next ?_;refine CG.seq ?_;refine CG.block ?_;refine CG.seq ?_;refine CG.region ?_
  obtain ⟨e1, q_e1, h⟩ := bs h
  refine RG.op (ok_indexA Tryz.underlying146 ti145 rfl rfl (ht rfl) (ht rfl) q_e1) rfl ?_;refine RG.alloc (r := rpDS145) (x := (⟨[], (0 : Int)⟩ : DS145)) ti145 (fun _ => zrDS145 _) rfl (fun b => ?_);refine aH ti145 rfl aB rfl (ht rfl) (ht rfl) ?_;refine RG.settleB 4 rfl ?_;refine RG.nil ?_;refine AT.next ?_;refine CG.seq ?_;refine CG.region ?_;refine RG.op (aj fd145_1 rfl flDS145_1 rfl (ht rfl)) rfl ?_;refine RG.op (ai ti3 rfl rfl (ht rfl)) rfl ?_;refine RG.op (ac (ht rfl)) rfl ?_;refine RG.op (a7 (ht rfl) (ht rfl)) rfl ?_;refine RG.nil ?_;refine AT.next ?_;refine CG.cond (ht rfl) (fun hc => ?_) (fun hc => ?_)
  ·have h := ct h hc;refine CG.seq ?_;refine CG.region ?_;refine RG.op (aj fd145_0 rfl flDS145_0 rfl (ht rfl)) rfl ?_;refine RG.op (ai ti9 rfl rfl (ht rfl)) rfl ?_;refine RG.op (aa (ht rfl)) rfl ?_;refine RG.nil ?_;refine AT.next ?_;refine CG.ret ?_;refine al (ae (ae (al (ae ?_))));cases so h;exact ak rfl rfl
  ·have h := cf h hc;refine CG.skip ?_;refine ap ?_;refine AT.next ?_;refine CG.region ?_;refine RG.op (aP (natL hx (by decide)) (ht rfl) hI) rfl ?_;refine RG.op (ac (ht rfl)) rfl ?_;refine RG.nil ?_;exact AT.round (LG.sub (ih (i + 1)  ⟨natS hx, h⟩) ⟨rfl, rfl, rfl, trivial⟩)

set_option maxRecDepth 100000 in
theorem f66_ok (t : DTable) {R : Int} (h : d5 t = some R) : Spec Tryz.prog 66 [tD rpDTable t] (tD (rI .i64) R) := by
 refine Spec.of Tryz.func66 rfl rfl rfl fun w0 S0 => ?_;refine CG.seq ?_;refine CG.region ?_;refine RG.op (aS (ht rfl)) rfl ?_;refine RG.op (aa hI) rfl ?_;refine RG.nil ?_;refine AT.next ?_;refine CG.seq ?_;refine CG.region ?_;refine RG.op (aj fd53_0 rfl gL rfl (ht rfl)) rfl ?_;refine RG.op (ai ti9 rfl rfl (ht rfl)) rfl ?_
 obtain ⟨r, q_r, h⟩ := bs h
 refine RG.op (ax cb88 (f88_ok _ q_r) ⟨(ht rfl), trivial⟩) rfl ?_;refine RG.op (ac (ht rfl)) rfl ?_;refine aw rfl rfl rfl rfl (fun hg => aj fl rfl b6 rfl (ht rfl)) ?_;refine aw rfl rfl rfl rfl (fun hg => ai ti51 rfl rfl (htO rfl hg)) ?_;refine aw rfl rfl rfl rfl (fun hg => au Tryz.underlying51 (htO rfl hg)) ?_;refine aw rfl rfl rfl rfl (fun hg => eO (htO rfl hg) hI) ?_;refine RG.op (aT (ht rfl) (fun hb => (htO rfl hb))) rfl ?_;refine RG.op (ac (ht rfl)) rfl ?_;refine aw rfl rfl rfl rfl (fun hg => aj fl rfl b6 rfl (ht rfl)) ?_;refine aw rfl rfl rfl rfl (fun hg => ai ti51 rfl rfl (htO rfl hg)) ?_;refine aw rfl rfl rfl rfl (fun hg => au Tryz.underlying51 (htO rfl hg)) ?_;refine aw rfl rfl rfl rfl (fun hg => kr (htO rfl hg) hI) ?_;refine RG.op (aT (ht rfl) (fun hb => (htO rfl hb))) rfl ?_;refine RG.op (ac (ht rfl)) rfl ?_
 obtain ⟨t1, q_t1, h⟩ := bs h
 refine aw rfl rfl rfl rfl (fun hg => aj fl rfl b6 rfl (ht rfl)) ?_;refine aw rfl rfl rfl rfl (fun hg => ai ti51 rfl rfl (htO rfl hg)) ?_
 obtain ⟨r1, h1t1, h0t1⟩ := og q_t1
 have q_r1g := fun hb => (h1t1 hb).1
 refine aw rfl rfl rfl rfl (fun hg => ax cb89 (f89_ok _ _ (q_r1g hg)) ⟨(htO rfl hg), (hFn cb90 fun x y h => f90_ok _ h), trivial⟩) ?_;refine RG.op (bw (ht rfl) (fun hb => (htO rfl hb)) (fun hb => (h1t1 hb).2) h0t1) rfl ?_;refine RG.op (aa (ht rfl)) rfl ?_;refine RG.nil ?_;refine AT.next ?_;refine CG.seq ?_;refine CG.seq ?_;refine CG.region ?_;refine RG.op (aj fl rfl b6 rfl (ht rfl)) rfl ?_;refine RG.op (ai ti51 rfl rfl (ht rfl)) rfl ?_;refine RG.op (au Tryz.underlying51 (ht rfl)) rfl ?_;refine RG.op (ac hI) rfl ?_;refine RG.nil ?_;refine AT.next ?_;refine CG.block ?_;refine aC (k := 29) rfl (fun hN => ?_);refine CG.loop ?_;refine LG.sub (ii (Z := fun ls i ok => (t.Columns.drop i = ls) ∧ ca t ls ok = some R) (Of := fun _ i ok => []) (Gf := fun _ i ok => [(1, aF rpDTable t), (3, tD rB ok), (29, tD (rSl rpDColumn) t.Columns), (30, tD (rI .i64) (t.Columns.length : Int)), (31, tD (rI .i64) (i : Int))]) (fun i ok h => ?_) (fun e tl ih i ok h => ?_) t.Columns 0 t1 ⟨rfl, h⟩) ⟨rfl, rfl, rfl, rfl, rfl, trivial⟩
 ·obtain ⟨hx, h⟩ := h
  refine aq ?_;refine CG.seq ?_;refine CG.region ?_;refine RG.op (ay (ht rfl) (ht rfl)) rfl ?_;refine RG.nil ?_;refine AT.next ?_;refine CG.seq ?_;refine aM (ht rfl) (bH hx) ?_;refine CG.exit ?_;refine ah (ah (av ?_));refine AT.next ?_;refine CG.seq ?_;refine CG.seq ?_;refine CG.region ?_;refine RG.op (aj ik rfl cQ rfl (ht rfl)) rfl ?_;refine RG.op (ai ti28 rfl rfl (ht rfl)) rfl ?_;refine RG.op (au Tryz.underlying28 (ht rfl)) rfl ?_;refine RG.op (ac hI) rfl ?_;refine RG.nil ?_;refine AT.next ?_;refine CG.block ?_;refine aC (k := 44) rfl (fun hN1 => ?_);refine CG.loop ?_;refine LG.sub (ii (Z := fun ls1 i1 ok1 => (t.Keys.drop i1 = ls1) ∧ bJ t ls1 i1 ok1 = some R) (Of := fun _ i1 ok1 => []) (Gf := fun _ i1 ok1 => [(1, aF rpDTable t), (3, tD rB ok1), (44, tD (rSl (rI .i64)) t.Keys), (45, tD (rI .i64) (t.Keys.length : Int)), (46, tD (rI .i64) (i1 : Int))]) (fun i1 ok1 h => ?_) (fun e1 tl1 ih1 i1 ok1 h => ?_) t.Keys 0 ok ⟨rfl, h⟩) ⟨rfl, rfl, rfl, rfl, rfl, trivial⟩
  ·obtain ⟨hx1, h⟩ := h
   refine aq ?_;refine CG.seq ?_;refine CG.region ?_;refine RG.op (ay (ht rfl) (ht rfl)) rfl ?_;refine RG.nil ?_;refine AT.next ?_;refine CG.seq ?_;refine aM (ht rfl) (bH hx1) ?_;refine CG.exit ?_;refine ah (ah (av ?_));refine AT.next ?_;refine CG.seq ?_;refine CG.seq ?_;refine CG.region ?_;refine RG.op (ac (ht rfl)) rfl ?_;refine RG.op (bq (ht rfl)) rfl ?_;refine RG.nil ?_;refine AT.next ?_;refine CG.cond (ht rfl) (fun hc => ?_) (fun hc => ?_)
   ·have h := ct h hc;refine CG.seq ?_;refine CG.region ?_;refine RG.op (aa hI) rfl ?_;refine RG.nil ?_;refine AT.next ?_;refine CG.ret ?_;refine ae ?_;cases so h;exact ak rfl rfl
   ·have h := cf h hc;refine CG.skip ?_;refine AT.next ?_;refine CG.seq ?_;refine CG.region ?_;refine RG.op (aa hI) rfl ?_;refine RG.nil ?_;refine AT.next ?_;refine CG.ret ?_;cases so h;exact ak rfl rfl
  ·obtain ⟨hx1, h⟩ := h
   refine aq ?_;refine CG.seq ?_;refine CG.region ?_;refine RG.op (ay (ht rfl) (ht rfl)) rfl ?_;refine RG.nil ?_;refine AT.next ?_;refine CG.seq ?_;refine aL (ht rfl) (bz hx1) ?_;refine CG.skip ?_;refine AT.next ?_;refine CG.seq ?_;refine CG.block ?_;refine CG.seq ?_;refine CG.region ?_;refine RG.op (ac (ht rfl)) rfl ?_;refine RG.op (am Tryz.underlying28 ti3 rfl (ht rfl) (ht rfl) (bc hx1)) rfl ?_;refine RG.op (ai ti3 rfl rfl (ht rfl)) rfl ?_;refine RG.op (aa (ht rfl)) rfl ?_;refine RG.op (aa (ht rfl)) rfl ?_;refine RG.nil ?_;refine AT.next ?_;refine CG.region ?_;refine RG.op (ac (ht rfl)) rfl ?_;refine RG.op (ac (ht rfl)) rfl ?_;refine aw rfl rfl rfl rfl (fun hg => ac (ht rfl)) ?_;refine aw rfl rfl rfl rfl (fun hg => eO (htO rfl hg) hI) ?_;refine RG.op (aT (ht rfl) (fun hb => (htO rfl hb))) rfl ?_;refine RG.op (ac (ht rfl)) rfl ?_;refine aw rfl rfl rfl rfl (fun hg => ac (ht rfl)) ?_;refine aw rfl rfl rfl rfl (fun hg => aj fl rfl b6 rfl (ht rfl)) ?_;refine aw rfl rfl rfl rfl (fun hg => ai ti51 rfl rfl (htO rfl hg)) ?_;refine aw rfl rfl rfl rfl (fun hg => au Tryz.underlying51 (htO rfl hg)) ?_;refine aw rfl rfl rfl rfl (fun hg => ay (htO rfl hg) (htO rfl hg)) ?_;refine RG.op (aT (ht rfl) (fun hb => (htO rfl hb))) rfl ?_;refine RG.op (ac (ht rfl)) rfl ?_
   obtain ⟨t2, q_t2, h⟩ := bs h
   refine aw rfl rfl rfl rfl (fun hg => ac (ht rfl)) ?_;refine aw rfl rfl rfl rfl (fun hg => a7 (htO rfl hg) hI) ?_;refine aw rfl rfl rfl rfl (fun hg => ac (htO rfl hg)) ?_
   obtain ⟨t3, h1t2, h0t2⟩ := og q_t2
   have q_t3g := fun hb => (h1t2 hb).1
   refine eU rfl rfl rfl rfl (fun hg => aj ik rfl cQ rfl (ht rfl)) ?_;refine eU rfl rfl rfl rfl (fun hg => ai ti28 rfl rfl (htO rfl hg)) ?_;refine eU rfl rfl rfl rfl (fun hg => ac (ht rfl)) ?_;refine eU rfl rfl rfl rfl (fun hg => ok_sub (htO rfl hg) hI) ?_
   obtain ⟨e2, h1t3, h0t3⟩ := og3 q_t3g
   have q_e2g := fun hb => (h1t3 hb).1
   refine eU rfl rfl rfl rfl (fun hg => am Tryz.underlying28 ti3 rfl (htO rfl hg) (htO rfl hg) (q_e2g hg)) ?_;refine eU rfl rfl rfl rfl (fun hg => ai ti3 rfl rfl (htO rfl hg)) ?_;refine eU rfl rfl rfl rfl (fun hg => ac (ht rfl)) ?_;refine eU rfl rfl rfl rfl (fun hg => ay (htO rfl hg) (htO rfl hg)) ?_;refine aw rfl rfl rfl rfl (fun hg => bX (htO rfl hg) (fun hb => (htO rfl (andi hg (fV hb)))) (fun hb => (h1t3 (andi hg hb)).2) (fun hb => h0t3 hg hb)) ?_;refine RG.op (bw (ht rfl) (fun hb => (htO rfl hb)) (fun hb => (h1t2 hb).2) h0t2) rfl ?_;refine RG.op (aa (ht rfl)) rfl ?_;refine RG.nil ?_;refine ap ?_;refine AT.next ?_;refine CG.region ?_;refine RG.op (aP (bA hx1 hN1) (ht rfl) hI) rfl ?_;refine RG.op (ac (ht rfl)) rfl ?_;refine RG.nil ?_;exact AT.round (LG.sub (ih1 (i1 + 1) t2 ⟨bG hx1, h⟩) ⟨rfl, rfl, rfl, rfl, rfl, trivial⟩)
 ·obtain ⟨hx, h⟩ := h
  refine aq ?_;refine CG.seq ?_;refine CG.region ?_;refine RG.op (ay (ht rfl) (ht rfl)) rfl ?_;refine RG.nil ?_;refine AT.next ?_;refine CG.seq ?_;refine aL (ht rfl) (bz hx) ?_;refine CG.skip ?_;refine AT.next ?_;refine CG.seq ?_;refine CG.block ?_;refine CG.seq ?_;refine CG.region ?_;refine RG.op (am Tryz.underlying51 f8 rfl (ht rfl) (ht rfl) (bc hx)) rfl ?_;refine RG.op (ai f8 rfl rfl (ht rfl)) rfl ?_;refine RG.alloc (r := rpDColumn) (x := (⟨[], (0 : Int)⟩ : DColumn)) f8 (fun _ => iJ _) rfl (fun b => ?_);refine aH f8 rfl aB rfl (ht rfl) (ht rfl) ?_;refine RG.settleB 5 rfl ?_;refine RG.nil ?_;refine AT.next ?_;refine CG.region ?_;refine RG.op (ac (ht rfl)) rfl ?_;refine RG.op (ac (ht rfl)) rfl ?_
  obtain ⟨t4, q_t4, h⟩ := bs h
  refine aw rfl rfl rfl rfl (fun hg => aj fd79_1 rfl jw rfl (ht rfl)) ?_;refine aw rfl rfl rfl rfl (fun hg => ai ti3 rfl rfl (htO rfl hg)) ?_
  obtain ⟨r2, h1t4, h0t4⟩ := og q_t4
  have q_r2g := fun hb => (h1t4 hb).1
  refine aw rfl rfl rfl rfl (fun hg => ax cb91 (f91_ok _ (q_r2g hg)) ⟨(htO rfl hg), trivial⟩) ?_;refine aw rfl rfl rfl rfl (fun hg => ok_neqS (htO rfl hg) hS) ?_;refine RG.op (bw (ht rfl) (fun hb => (htO rfl hb)) (fun hb => (h1t4 hb).2) h0t4) rfl ?_;refine RG.op (aa (ht rfl)) rfl ?_;refine RG.nil ?_;refine ap ?_;refine AT.next ?_;refine CG.region ?_;refine RG.op (aP (bA hx hN) (ht rfl) hI) rfl ?_;refine RG.op (ac (ht rfl)) rfl ?_;refine RG.nil ?_;exact AT.round (LG.sub (ih (i + 1) t4 ⟨bG hx, h⟩) ⟨rfl, rfl, rfl, rfl, rfl, trivial⟩)

set_option maxRecDepth 100000 in
theorem f65_ok (t : DTable) {R : Bool} (h : du t = some R) : Spec Tryz.prog 65 [tD rpDTable t] (tD rB R) := by
 refine Spec.of Tryz.func65 rfl rfl rfl fun w0 S0 => ?_;refine CG.seq ?_;refine CG.region ?_;refine RG.op (aS (ht rfl)) rfl ?_;refine RG.op (aa hB) rfl ?_;refine RG.nil ?_;refine AT.next ?_;refine CG.seq ?_;refine CG.region ?_;refine RG.op (ai fu rfl rfl (ht rfl)) rfl ?_
 obtain ⟨r, q_r, h⟩ := bs h
 refine RG.op (ax cb66 (f66_ok _ q_r) ⟨(ht rfl), trivial⟩) rfl ?_;refine RG.op (aW (ht rfl) hI) rfl ?_;refine RG.op (aa (ht rfl)) rfl ?_;refine RG.nil ?_;refine AT.next ?_;refine CG.ret ?_;cases so h;exact ak rfl rfl

set_option maxRecDepth 100000 in
theorem f92_ok (s : (List DTable)) (f : (DTable → Option Bool)) {R : Int} (h : bg s f = some R) : Spec Tryz.prog 92 [tD (rSl rpDTable) s, (cU Tryz.prog (fun (x : DTable) => [tD rpDTable x]) (fun (x : Bool) => tD rB x) (fun (x : DTable) => f x))] (tD (rI .i64) R) := by
 refine Spec.of Tryz.func92 rfl rfl rfl fun w0 S0 => ?_;refine CG.seq ?_;refine CG.region ?_;refine RG.op (aa hI) rfl ?_;refine RG.nil ?_;refine AT.next ?_;refine CG.seq ?_;refine CG.seq ?_;refine CG.region ?_;refine RG.op (ac (ht rfl)) rfl ?_;refine RG.op (au Tryz.underlying22 (ht rfl)) rfl ?_;refine RG.op (ac hI) rfl ?_;refine RG.nil ?_;refine AT.next ?_;refine CG.block ?_;refine aC (k := 6) rfl (fun hN => ?_);refine CG.loop ?_;refine LG.sub (bf (Z := fun ls i  => (s.drop i = ls) ∧ aN f ls i  = some R) (Of := fun _ i  => []) (Gf := fun _ i  => [(0, tD (rSl rpDTable) s), (1, (cU Tryz.prog (fun (x : DTable) => [tD rpDTable x]) (fun (x : Bool) => tD rB x) (fun (x : DTable) => f x))), (7, tD (rI .i64) (s.length : Int)), (8, tD (rI .i64) (i : Int))]) (fun i  h => ?_) (fun e tl ih i  h => ?_) s 0  ⟨rfl, h⟩) ⟨rfl, rfl, rfl, rfl, trivial⟩
 ·obtain ⟨hx, h⟩ := h
  refine aq ?_;refine CG.seq ?_;refine CG.region ?_;refine RG.op (ay (ht rfl) (ht rfl)) rfl ?_;refine RG.nil ?_;refine AT.next ?_;refine CG.seq ?_;refine aM (ht rfl) (bH hx) ?_;refine CG.exit ?_;refine ah (ah (av ?_));refine AT.next ?_;refine CG.seq ?_;refine CG.region ?_;refine RG.op (aa hI) rfl ?_;refine RG.nil ?_;refine AT.next ?_;refine CG.ret ?_;cases so h;exact ak rfl rfl
 ·obtain ⟨hx, h⟩ := h
  refine aq ?_;refine CG.seq ?_;refine CG.region ?_;refine RG.op (ay (ht rfl) (ht rfl)) rfl ?_;refine RG.nil ?_;refine AT.next ?_;refine CG.seq ?_;refine aL (ht rfl) (bz hx) ?_;refine CG.skip ?_;refine AT.next ?_;refine CG.seq ?_;refine CG.block ?_;refine CG.seq ?_;refine CG.region ?_;refine RG.op (ac (ht rfl)) rfl ?_;refine RG.op (aa (ht rfl)) rfl ?_;refine RG.nil ?_;refine AT.next ?_;refine CG.seq ?_;refine CG.region ?_;refine RG.op (ac (ht rfl)) rfl ?_;refine RG.op (ac (ht rfl)) rfl ?_;refine RG.op (ac (ht rfl)) rfl ?_;refine RG.op (am Tryz.underlying22 fu rfl (ht rfl) (ht rfl) (bc hx)) rfl ?_;refine RG.op (ai fu rfl rfl (ht rfl)) rfl ?_
  obtain ⟨r, q_r, h⟩ := bs h
  refine RG.op (dj (args := (fun (x : DTable) => [tD rpDTable x])) (res := (fun (x : Bool) => tD rB x)) (f := (fun (x : DTable) => f x)) (x := ((e) : DTable)) (ht rfl) q_r ⟨(ht rfl), trivial⟩) rfl ?_;refine RG.nil ?_;refine AT.next ?_;refine CG.cond (ht rfl) (fun hc => ?_) (fun hc => ?_)
  ·have h := ct h hc;refine CG.seq ?_;refine CG.region ?_;refine RG.op (ac (ht rfl)) rfl ?_;refine RG.op (aa (ht rfl)) rfl ?_;refine RG.nil ?_;refine AT.next ?_;refine CG.ret ?_;refine al (ae (ae (al (ae ?_))));cases so h;exact ak rfl rfl
  ·have h := cf h hc;refine CG.skip ?_;refine ap ?_;refine AT.next ?_;refine CG.region ?_;refine RG.op (aP (bA hx hN) (ht rfl) hI) rfl ?_;refine RG.op (ac (ht rfl)) rfl ?_;refine RG.nil ?_;exact AT.round (LG.sub (ih (i + 1)  ⟨bG hx, h⟩) ⟨rfl, rfl, rfl, rfl, trivial⟩)

set_option maxRecDepth 100000 in
theorem f67_ok (s : (List DTable)) (f : (DTable → Option Bool)) {R : Bool} (h : bN s f = some R) : Spec Tryz.prog 67 [tD (rSl rpDTable) s, (cU Tryz.prog (fun (x : DTable) => [tD rpDTable x]) (fun (x : Bool) => tD rB x) (fun (x : DTable) => f x))] (tD rB R) := by
 refine Spec.of Tryz.func67 rfl rfl rfl fun w0 S0 => ?_;refine CG.seq ?_;refine CG.region ?_;refine RG.op (aa hB) rfl ?_;refine RG.nil ?_;refine AT.next ?_;refine CG.seq ?_;refine CG.region ?_;refine RG.op (ac (ht rfl)) rfl ?_;refine RG.op (ac (ht rfl)) rfl ?_
 obtain ⟨r, q_r, h⟩ := bs h
 refine RG.op (ax cb92 (f92_ok _ _ q_r) ⟨(ht rfl), (ht rfl), trivial⟩) rfl ?_;refine RG.op (eO (ht rfl) hI) rfl ?_;refine RG.op (aa (ht rfl)) rfl ?_;refine RG.nil ?_;refine AT.next ?_;refine CG.ret ?_;cases so h;exact ak rfl rfl

set_option maxRecDepth 100000 in
theorem f113_ok (of : (DTable → Option Str)) (name : Str) (p : DTable) {R : Bool} (h : bI of name p = some R) : Spec Tryz.prog 113 [tD rpDTable p, aF (rT ((cU Tryz.prog (fun (x : DTable) => [tD rpDTable x]) (fun (x : Str) => tD rS x) (fun (x : DTable) => of x)))) (), aF rS name] (tD rB R) := by
 refine Spec.of Tryz.func113 rfl rfl rfl fun w0 S0 => ?_;refine CG.seq ?_;refine CG.region ?_;refine RG.op (aS (ht rfl)) rfl ?_;refine RG.op (aa hB) rfl ?_;refine RG.nil ?_;refine AT.next ?_;refine CG.seq ?_
 obtain ⟨r, q_r, h⟩ := bs h
 refine cn (ts := [(cU Tryz.prog (fun (x : DTable) => [tD rpDTable x]) (fun (x : Str) => tD rS x) (fun (x : DTable) => of x)), tD rpDTable p, tD rS r, tD rS name, tD rB (r == name), tD rB (r == name)]) mixed rfl rfl
  ⟨⟨[⟨1, _, none⟩], _, rfl, ⟨rfl, trivial⟩, rfl, rfl, af rfl (ok_loadF ti110 (ht rfl))⟩,
  ⟨⟨[⟨3, _, none⟩], _, rfl, ⟨rfl, trivial⟩, rfl, rfl, af rfl (ai fu rfl rfl (ht rfl))⟩,
  ⟨⟨[⟨5, _, some 0⟩, ⟨6, _, some 1⟩], _, rfl, ⟨rfl, rfl, trivial⟩, rfl, rfl, af rfl (dj (args := (fun (x : DTable) => [tD rpDTable x])) (res := (fun (x : Str) => tD rS x)) (f := (fun (x : DTable) => of x)) (x := ((p) : DTable)) (ht rfl) q_r ⟨(ht rfl), trivial⟩)⟩,
  ⟨⟨[⟨2, _, none⟩], _, rfl, ⟨rfl, trivial⟩, rfl, rfl, af rfl (ai ti9 rfl rfl (ht rfl))⟩,
  ⟨⟨[⟨7, _, some 2⟩, ⟨8, _, some 3⟩], _, rfl, ⟨rfl, rfl, trivial⟩, rfl, rfl, af rfl (gr (ht rfl) (ht rfl))⟩,
  ⟨⟨[⟨9, _, some 4⟩], _, rfl, ⟨rfl, trivial⟩, rfl, rfl, af rfl (aa (ht rfl))⟩,
  trivial⟩⟩⟩⟩⟩⟩ ?_
 refine AT.next ?_;refine CG.ret ?_;cases so h;exact ak rfl rfl

set_option maxRecDepth 100000 in
theorem f93_ok (l : (List DTable)) (of : (DTable → Option Str)) (name : Str) {R : Int × Bool} (h : cW l of name = some R) : Spec Tryz.prog 93 [tD (rSl rpDTable) l, (cU Tryz.prog (fun (x : DTable) => [tD rpDTable x]) (fun (x : Str) => tD rS x) (fun (x : DTable) => of x)), tD rS name] (tT [tD (rI .i64) R.1, tD rB R.2]) := by
 refine Spec.of Tryz.func93 rfl rfl rfl fun w0 S0 => ?_;refine CG.seq ?_;refine CG.region ?_;refine RG.op (ok_boxF (ht rfl)) rfl ?_;refine RG.op (aS (ht rfl)) rfl ?_;refine RG.op (aa hI) rfl ?_;refine RG.op (aa hB) rfl ?_;refine RG.nil ?_;refine AT.next ?_;refine CG.seq ?_;refine CG.region ?_;refine RG.op (ac (ht rfl)) rfl ?_;refine RG.op ((show OpOK _ _ _ _ ((cU Tryz.prog (fun (x : DTable) => [tD rpDTable x]) (fun (x : Bool) => tD rB x) (fun (x : DTable) => (bI of name) x))) from jq (cts := [aF (rT ((cU Tryz.prog (fun (x : DTable) => [tD rpDTable x]) (fun (x : Str) => tD rS x) (fun (x : DTable) => of x)))) (), aF rS name]) (caps := [.tmp 4, .tmp 5]) cb113 ⟨(ht rfl), (ht rfl), trivial⟩ (fun x y h => f113_ok _ _ _ h))) rfl ?_
 obtain ⟨r, q_r, h⟩ := bs h
 refine RG.op (ax cb92 (f92_ok _ _ q_r) ⟨(ht rfl), (ht rfl), trivial⟩) rfl ?_;refine RG.op (aa (ht rfl)) rfl ?_;refine RG.nil ?_;refine AT.next ?_;refine CG.seq ?_;refine CG.region ?_;refine RG.op (ac (ht rfl)) rfl ?_;refine RG.op (ok_max2 (ht rfl) hI) rfl ?_;refine RG.op (ac (ht rfl)) rfl ?_;refine RG.op (eO (ht rfl) hI) rfl ?_;refine RG.op (aa (ht rfl)) rfl ?_;refine RG.op (aa (ht rfl)) rfl ?_;refine RG.nil ?_;refine AT.next ?_;refine CG.ret ?_;cases so h;exact gW rfl rfl rfl

set_option maxRecDepth 100000 in
theorem f68_ok (l : (List DTable)) (of : (DTable → Option Str)) {R : Bool} (h : d4 l of = some R) : Spec Tryz.prog 68 [tD (rSl rpDTable) l, (cU Tryz.prog (fun (x : DTable) => [tD rpDTable x]) (fun (x : Str) => tD rS x) (fun (x : DTable) => of x))] (tD rB R) := by
 refine Spec.of Tryz.func68 rfl rfl rfl fun w0 S0 => ?_;refine CG.seq ?_;refine CG.region ?_;refine RG.op (aa hB) rfl ?_;refine RG.nil ?_;refine AT.next ?_;refine CG.seq ?_;refine CG.seq ?_;refine CG.region ?_;refine RG.op (ac (ht rfl)) rfl ?_;refine RG.op (au Tryz.underlying22 (ht rfl)) rfl ?_;refine RG.op (ac hI) rfl ?_;refine RG.nil ?_;refine AT.next ?_;refine CG.block ?_;refine aC (k := 9) rfl (fun hN => ?_);refine CG.loop ?_;refine LG.sub (bf (Z := fun ls i  => (l.drop i = ls) ∧ bW l of ls i  = some R) (Of := fun _ i  => []) (Gf := fun _ i  => [(0, tD (rSl rpDTable) l), (1, (cU Tryz.prog (fun (x : DTable) => [tD rpDTable x]) (fun (x : Str) => tD rS x) (fun (x : DTable) => of x))), (9, tD (rSl rpDTable) l), (10, tD (rI .i64) (l.length : Int)), (11, tD (rI .i64) (i : Int))]) (fun i  h => ?_) (fun e tl ih i  h => ?_) l 0  ⟨rfl, h⟩) ⟨rfl, rfl, rfl, rfl, rfl, trivial⟩
 ·obtain ⟨hx, h⟩ := h
  refine aq ?_;refine CG.seq ?_;refine CG.region ?_;refine RG.op (ay (ht rfl) (ht rfl)) rfl ?_;refine RG.nil ?_;refine AT.next ?_;refine CG.seq ?_;refine aM (ht rfl) (bH hx) ?_;refine CG.exit ?_;refine ah (ah (av ?_));refine AT.next ?_;refine CG.seq ?_;refine CG.region ?_;refine RG.op (aa hB) rfl ?_;refine RG.nil ?_;refine AT.next ?_;refine CG.ret ?_;cases so h;exact ak rfl rfl
 ·obtain ⟨hx, h⟩ := h
  refine aq ?_;refine CG.seq ?_;refine CG.region ?_;refine RG.op (ay (ht rfl) (ht rfl)) rfl ?_;refine RG.nil ?_;refine AT.next ?_;refine CG.seq ?_;refine aL (ht rfl) (bz hx) ?_;refine CG.skip ?_;refine AT.next ?_;refine CG.seq ?_;refine CG.block ?_;refine CG.seq ?_;refine CG.region ?_;refine RG.op (ac (ht rfl)) rfl ?_;refine RG.op (am Tryz.underlying22 fu rfl (ht rfl) (ht rfl) (bc hx)) rfl ?_;refine RG.op (ai fu rfl rfl (ht rfl)) rfl ?_;refine RG.alloc (r := rpDTable) (x := (⟨[], [], []⟩ : DTable)) fu (fun _ => zrDTable _) rfl (fun b => ?_);refine RG.op (aa (ht rfl)) rfl ?_;refine aH fu rfl aB rfl (ht rfl) (ht rfl) ?_;refine RG.settleB 6 rfl ?_;refine RG.nil ?_;refine AT.next ?_;refine CG.seq ?_;refine CG.region ?_;refine RG.op (ac (ht rfl)) rfl ?_;refine RG.op (ac (ht rfl)) rfl ?_;refine RG.op (ac (ht rfl)) rfl ?_;refine RG.op (ai fu rfl rfl (ht rfl)) rfl ?_
  obtain ⟨r, q_r, h⟩ := bs h
  refine RG.op (dj (args := (fun (x : DTable) => [tD rpDTable x])) (res := (fun (x : Str) => tD rS x)) (f := (fun (x : DTable) => of x)) (x := ((e) : DTable)) (ht rfl) q_r ⟨(ht rfl), trivial⟩) rfl ?_
  obtain ⟨r1, q_r1, h⟩ := bs h
  refine RG.op (ax cb93 (f93_ok _ _ _ q_r1) ⟨(ht rfl), (ht rfl), (ht rfl), trivial⟩) rfl ?_;refine RG.op (ac (ht rfl)) rfl ?_;refine RG.op (bE rfl (ht rfl)) rfl ?_;refine RG.op (bE rfl (ht rfl)) rfl ?_;refine RG.op (aa (ht rfl)) rfl ?_;refine RG.op (aa (ht rfl)) rfl ?_;refine RG.nil ?_;refine AT.next ?_;refine CG.seq ?_;refine CG.region ?_;refine RG.op (ac (ht rfl)) rfl ?_;refine RG.op (ac (ht rfl)) rfl ?_;refine RG.op (aW (ht rfl) (ht rfl)) rfl ?_;refine RG.op (ac (ht rfl)) rfl ?_
  obtain ⟨t, q_t, h⟩ := bs h
  refine aE rfl rfl rfl rfl (fun hg => ac (ht rfl)) ?_;refine aE rfl rfl rfl rfl (fun hg => ai fu rfl rfl (ht rfl)) ?_
  obtain ⟨r2, h1t, h0t⟩ := og q_t
  have q_r2g := fun hb => (h1t hb).1
  refine aE rfl rfl rfl rfl (fun hg => dj (args := (fun (x : DTable) => [tD rpDTable x])) (res := (fun (x : Str) => tD rS x)) (f := (fun (x : DTable) => of x)) (x := ((e) : DTable)) (htO rfl hg) (q_r2g hg) ⟨(htO rfl hg), trivial⟩) ?_
  obtain ⟨r3, h1t⟩ := og2 (fun hb => (h1t hb).2)
  have q_r3g := fun hb => (h1t hb).1
  refine aE rfl rfl rfl rfl (fun hg => ax cb88 (f88_ok _ (q_r3g hg)) ⟨(htO rfl hg), trivial⟩) ?_;refine aE rfl rfl rfl rfl (fun hg => bq (htO rfl hg)) ?_;refine RG.op (bX (ht rfl) (fun hb => (htO rfl (fV hb))) (fun hb => (h1t hb).2) h0t) rfl ?_;refine RG.nil ?_;refine AT.next ?_;refine CG.cond (ht rfl) (fun hc => ?_) (fun hc => ?_)
  ·have h := ct h hc;refine CG.seq ?_;refine CG.region ?_;refine RG.op (aa hB) rfl ?_;refine RG.nil ?_;refine AT.next ?_;refine CG.ret ?_;refine al (ae (ae (al (ae ?_))));cases so h;exact ak rfl rfl
  ·have h := cf h hc;refine CG.skip ?_;refine ap ?_;refine AT.next ?_;refine CG.region ?_;refine RG.op (aP (bA hx hN) (ht rfl) hI) rfl ?_;refine RG.op (ac (ht rfl)) rfl ?_;refine RG.nil ?_;exact AT.round (LG.sub (ih (i + 1)  ⟨bG hx, h⟩) ⟨rfl, rfl, rfl, rfl, rfl, trivial⟩)

set_option maxRecDepth 100000 in
theorem f69_ok (t : DTable) {R : Str} (h : bM t = some R) : Spec Tryz.prog 69 [tD rpDTable t] (tD rS R) := by
 refine Spec.of Tryz.func69 rfl rfl rfl fun w0 S0 => ?_;refine CG.seq ?_;refine CG.region ?_;refine RG.op (aS (ht rfl)) rfl ?_;refine RG.op (aa hS) rfl ?_;refine RG.nil ?_;refine AT.next ?_;refine CG.seq ?_;refine CG.region ?_;refine RG.op (aj fd53_0 rfl gL rfl (ht rfl)) rfl ?_;refine RG.op (ai ti9 rfl rfl (ht rfl)) rfl ?_;refine RG.op (aa (ht rfl)) rfl ?_;refine RG.nil ?_;refine AT.next ?_;refine CG.ret ?_;cases so h;exact ak rfl rfl

set_option maxRecDepth 100000 in
theorem f39_ok (c : DCatalog) {R : Int} (h : ep c = some R) : Spec Tryz.prog 39 [tD rpDCatalog c] (tD (rI .i64) R) := by
 refine Spec.of Tryz.func39 rfl rfl rfl fun w0 S0 => ?_;refine CG.seq ?_;refine CG.region ?_;refine RG.op (aS (ht rfl)) rfl ?_;refine RG.op (aa hI) rfl ?_;refine RG.nil ?_;refine AT.next ?_;refine CG.seq ?_;refine CG.region ?_;refine RG.op (aa (show aA _ _ _ ((cU Tryz.prog (fun (x : DTable) => [tD rpDTable x]) (fun (x : Bool) => tD rB x) (fun (x : DTable) => du x))) from (hFn cb65 fun x y h => f65_ok _ h))) rfl ?_;refine RG.nil ?_;refine AT.next ?_;refine CG.seq ?_;refine CG.seq ?_;refine CG.region ?_;refine RG.op (aj dl rfl ba rfl (ht rfl)) rfl ?_;refine RG.op (ai iR rfl rfl (ht rfl)) rfl ?_;refine RG.op (au Tryz.underlying22 (ht rfl)) rfl ?_;refine RG.op (bV (ht rfl) hI) rfl ?_;refine RG.op (ac (ht rfl)) rfl ?_
 obtain ⟨t, q_t, h⟩ := bs h
 refine aE rfl rfl rfl rfl (fun hg => aj dl rfl ba rfl (ht rfl)) ?_;refine aE rfl rfl rfl rfl (fun hg => ai iR rfl rfl (htO rfl hg)) ?_;refine aE rfl rfl rfl rfl (fun hg => ac (ht rfl)) ?_
 obtain ⟨r, h1t, h0t⟩ := og q_t
 have q_rg := fun hb => (h1t hb).1
 refine aE rfl rfl rfl rfl (fun hg => ax cb67 (f67_ok _ _ (q_rg hg)) ⟨(htO rfl hg), (htO rfl hg), trivial⟩) ?_;refine RG.op (bX (ht rfl) (fun hb => (htO rfl (fV hb))) (fun hb => (h1t hb).2) h0t) rfl ?_;refine RG.op (ac (ht rfl)) rfl ?_
 obtain ⟨t1, q_t1, h⟩ := bs h
 refine aE rfl rfl rfl rfl (fun hg => aj dl rfl ba rfl (ht rfl)) ?_;refine aE rfl rfl rfl rfl (fun hg => ai iR rfl rfl (htO rfl hg)) ?_
 obtain ⟨r1, h1t1, h0t1⟩ := og q_t1
 have q_r1g := fun hb => (h1t1 hb).1
 refine aE rfl rfl rfl rfl (fun hg => ax cb68 (f68_ok _ _ (q_r1g hg)) ⟨(htO rfl hg), (hFn cb69 fun x y h => f69_ok _ h), trivial⟩) ?_;refine aE rfl rfl rfl rfl (fun hg => bq (htO rfl hg)) ?_;refine RG.op (bX (ht rfl) (fun hb => (htO rfl (fV hb))) (fun hb => (h1t1 hb).2) h0t1) rfl ?_;refine RG.nil ?_;refine AT.next ?_;refine CG.cond (ht rfl) (fun hc => ?_) (fun hc => ?_)
 ·have h := ct h hc;refine CG.seq ?_;refine CG.region ?_;refine RG.op (aa hI) rfl ?_;refine RG.nil ?_;refine AT.next ?_;refine CG.ret ?_;refine ae ?_;cases so h;exact ak rfl rfl
 ·have h := cf h hc;refine CG.skip ?_;refine AT.next ?_;refine CG.seq ?_;refine CG.region ?_;refine RG.op (aa hI) rfl ?_;refine RG.nil ?_;refine AT.next ?_;refine CG.ret ?_;cases so h;exact ak rfl rfl

set_option maxRecDepth 100000 in
theorem f114_ok (v : DValue) {R : DValue} (h : value_blank v = some R) : Spec Tryz.prog 114 [tD rpDValue v] (tD rpDValue R) := by
 refine Spec.of Tryz.func114 rfl rfl rfl fun w0 S0 => ?_;refine CG.seq ?_;refine CG.region ?_;refine RG.boxO (ht rfl) rfl (fun b => ?_);refine RG.alloc (r := rpDValue) (x := (⟨(0 : Int), (0 : Int), (0 : Int), []⟩ : DValue)) b9 (fun _ => fq _) rfl (fun b1 => ?_);refine RG.nil ?_;refine AT.next ?_;refine CG.seq ?_;refine CG.seq ?_;refine CG.region ?_;refine RG.op (bb (n := 0) ev rfl (ht rfl) rfl) rfl ?_;refine RG.op (dP ti3 rfl rfl bZ (.tail _ (.head _)) (ht rfl)) rfl ?_;refine RG.nil ?_;refine AT.next ?_;refine CG.bjoin1 (Z := fun v1 => da v1 = some R) (Of := fun v1 => [bx rpDValue 89 b v1, bx rpDValue 89 b1 (⟨(0 : Int), (0 : Int), (0 : Int), []⟩ : DValue)]) (Gf := fun v1 => [(1, tV (aR b 0)), (2, tV (aR b1 0))]) (fun v1 h => ?_) (fun K => ?_)
 ·skip
  refine AT.next ?_;refine CG.seq ?_;refine CG.region ?_;refine RG.op (dP b9 rfl rfl fe (.head _) (ht rfl)) rfl ?_;refine cL ?_;refine aH b9 rfl aB rfl (ht rfl) (ht rfl) ?_;refine RG.settleB 2 rfl ?_;refine RG.nil ?_;refine AT.next ?_;refine CG.ret ?_;refine AT.drop ?_;cases so h;exact fG rfl b9 rfl rfl rfl
 ·skip
  refine CG.seq ?_;refine CG.block ?_;refine CG.seq ?_;refine CG.block ?_;refine CG.seq ?_;refine CG.bjoin1 (Z := fun v2 => fZ v2 = some R) (Of := fun v2 => [bx rpDValue 89 b v2, bx rpDValue 89 b1 (⟨(0 : Int), (0 : Int), (0 : Int), []⟩ : DValue)]) (Gf := fun v2 => [(1, tV (aR b 0)), (2, tV (aR b1 0))]) (fun v2 h => ?_) (fun K1 => ?_)
  ·skip
   refine AT.next ?_;refine CG.seq ?_;refine CG.region ?_;refine RG.op (bb (n := 0) ev rfl (ht rfl) rfl) rfl ?_;refine aH ti3 rfl j9 rfl (ht rfl) hI ?_;refine RG.nil ?_;refine AT.next ?_;refine CG.exit ?_;refine aX rfl (ah (aX rfl (ah (av ?_))));exact AT.sub (K (DValue.mk (0 : Int) v2.N v2.U v2.S) h) ⟨rfl, rfl, trivial⟩
  ·skip
   refine CG.seq ?_;refine CG.bjoin0 (Z := fY v = some R) (Of := [bx rpDValue 89 b v, bx rpDValue 89 b1 (⟨(0 : Int), (0 : Int), (0 : Int), []⟩ : DValue)]) (Gf := [(1, tV (aR b 0)), (2, tV (aR b1 0))]) (fun h => ?_) (fun K2 => ?_)
   ·skip
    refine AT.next ?_;refine CG.region ?_;refine RG.op (bb (n := 1) fO rfl (ht rfl) rfl) rfl ?_;refine aH ti2 rfl sfDValue_1 rfl (ht rfl) hI ?_;refine RG.nil ?_;refine ap ?_;exact AT.sub (K1 (DValue.mk v.Kind (0 : Int) v.U v.S) h) ⟨rfl, rfl, trivial⟩
   ·skip
    refine CG.seq ?_;refine CG.block ?_;refine CG.seq ?_;refine CG.seq ?_;refine CG.seq ?_;refine CG.region ?_;refine RG.op (a7 (ht rfl) hI) rfl ?_;refine RG.op (aa (ht rfl)) rfl ?_;refine RG.nil ?_;refine AT.next ?_;refine CG.cond (ht rfl) (fun hc => ?_) (fun hc => ?_)
    ·have h := ct h hc;refine CG.exit ?_;refine ah (ah (av ?_));refine AT.next ?_;refine CG.seq ?_;refine CG.region ?_;refine RG.op (bb (n := 1) fO rfl (ht rfl) rfl) rfl ?_;refine RG.op (dP ti2 rfl rfl cm (.tail _ (.head _)) (ht rfl)) rfl ?_;refine RG.op (aW (ht rfl) hI) rfl ?_;refine RG.op (ac (ht rfl)) rfl ?_;refine aw rfl rfl rfl rfl (fun hg => bb (n := 1) fO rfl (ht rfl) rfl) ?_;refine aw rfl rfl rfl rfl (fun hg => dP ti2 rfl rfl cm (.tail _ (.head _)) (htO rfl hg)) ?_;refine aw rfl rfl rfl rfl (fun hg => aW (htO rfl hg) hI) ?_;refine RG.op (aT (ht rfl) (fun hb => (htO rfl hb))) rfl ?_;refine RG.nil ?_;refine AT.next ?_;refine CG.cond (ht rfl) (fun hc => ?_) (fun hc => ?_)
     ·have h := ct h hc;refine CG.exit ?_;refine aX rfl (ah (aX rfl (ah (aX rfl (ah (aX rfl (ah (av ?_))))))));refine bl ?_;exact AT.sub (K v h) ⟨rfl, rfl, trivial⟩
     ·have h := cf h hc;refine CG.skip ?_;refine ap ?_;refine bl ?_;exact AT.sub (K2 h) ⟨rfl, rfl, trivial⟩
    ·have h := cf h hc;refine CG.skip ?_;refine AT.next ?_;refine CG.seq ?_;refine CG.seq ?_;refine CG.region ?_;refine RG.op (a7 (ht rfl) hI) rfl ?_;refine RG.op (aa (ht rfl)) rfl ?_;refine RG.nil ?_;refine AT.next ?_;refine CG.cond (ht rfl) (fun hc => ?_) (fun hc => ?_)
     ·have h := ct h hc;refine CG.exit ?_;refine ah (ah (aX rfl (ah (av ?_))));refine bl ?_;exact AT.sub (K2 h) ⟨rfl, rfl, trivial⟩
     ·have h := cf h hc;refine CG.skip ?_;refine AT.next ?_;refine CG.seq ?_;refine CG.seq ?_;refine CG.region ?_;refine RG.op (a7 (ht rfl) hI) rfl ?_;refine RG.op (aa (ht rfl)) rfl ?_;refine RG.nil ?_;refine AT.next ?_;refine CG.cond (ht rfl) (fun hc => ?_) (fun hc => ?_)
      ·have h := ct h hc;refine CG.exit ?_;refine ah (ah (aX rfl (ah (aX rfl (ah (av ?_))))));refine bl ?_;exact AT.sub (K1 v h) ⟨rfl, rfl, trivial⟩
      ·have h := cf h hc;refine CG.skip ?_;refine AT.next ?_;refine CG.seq ?_;refine CG.seq ?_;refine CG.region ?_;refine RG.op (a7 (ht rfl) hI) rfl ?_;refine RG.op (aa (ht rfl)) rfl ?_;refine RG.nil ?_;refine AT.next ?_;refine CG.cond (ht rfl) (fun hc => ?_) (fun hc => ?_)
       ·have h := ct h hc;refine CG.exit ?_;refine ah (ah (aX rfl (ah (aX rfl (ah (aX rfl (ah (av ?_))))))));refine AT.next ?_;refine j4 (Z := fun v3 => fX v3 = some R) (Of := fun v3 => [bx rpDValue 89 b v3, bx rpDValue 89 b1 (⟨(0 : Int), (0 : Int), (0 : Int), []⟩ : DValue)]) (Gf := fun v3 => [(1, tV (aR b 0)), (2, tV (aR b1 0))]) (fun v3 h => ?_) (fun K3 => ?_)
        ·skip
         refine CG.exit ?_;refine aX rfl (ah (av ?_));exact AT.sub (K v3 h) ⟨rfl, rfl, trivial⟩
        ·skip
         refine CG.seq ?_;refine CG.region ?_;refine RG.op (bb (n := 3) eR rfl (ht rfl) rfl) rfl ?_;refine RG.op (dP ti9 rfl rfl bQ (.tail _ (.head _)) (ht rfl)) rfl ?_;refine RG.op (fJ Tryz.underlying9 (ht rfl)) rfl ?_;refine RG.op (kr (ht rfl) hI) rfl ?_;refine RG.nil ?_;refine AT.next ?_;refine CG.cond (ht rfl) (fun hc => ?_) (fun hc => ?_)
         ·have h := ct h hc;refine CG.region ?_;refine RG.op (bb (n := 0) ev rfl (ht rfl) rfl) rfl ?_;refine cL ?_;refine aH ti3 rfl j9 rfl (ht rfl) hI ?_;refine RG.op (bb (n := 3) eR rfl (ht rfl) rfl) rfl ?_;refine aH ti9 rfl sfDValue_3 rfl (ht rfl) hS ?_;refine RG.nil ?_;exact AT.sub (K3 (DValue.mk (0 : Int) v.N v.U ([])) h) ⟨rfl, rfl, trivial⟩
         ·have h := cf h hc;refine CG.skip ?_;refine bl ?_;exact AT.sub (K3 v h) ⟨rfl, rfl, trivial⟩
       ·have h := cf h hc;refine CG.skip ?_;refine AT.next ?_;refine CG.seq ?_;refine CG.region ?_;refine RG.op (a7 (ht rfl) hI) rfl ?_;refine RG.op (aa (ht rfl)) rfl ?_;refine RG.nil ?_;refine AT.next ?_;refine CG.cond (ht rfl) (fun hc => ?_) (fun hc => ?_)
        ·have h := ct h hc;refine CG.exit ?_;refine ah (aX rfl (ah (aX rfl (ah (aX rfl (ah (aX rfl (ah (av ?_)))))))));refine AT.next ?_;refine CG.seq ?_;refine CG.region ?_;refine RG.op (bb (n := 0) ev rfl (ht rfl) rfl) rfl ?_;refine cL ?_;refine aH ti3 rfl j9 rfl (ht rfl) hI ?_;refine RG.op (bb (n := 1) fO rfl (ht rfl) rfl) rfl ?_;refine aH ti2 rfl sfDValue_1 rfl (ht rfl) hI ?_;refine RG.op (bb (n := 2) ij rfl (ht rfl) rfl) rfl ?_;refine aH ti87 rfl sfDValue_2 rfl (ht rfl) hI ?_;refine RG.nil ?_;refine AT.next ?_;refine CG.exit ?_;refine av ?_;exact AT.sub (K (DValue.mk (0 : Int) (0 : Int) (0 : Int) v.S) h) ⟨rfl, rfl, trivial⟩
        ·have h := cf h hc;refine CG.skip ?_;refine AT.next ?_;refine CG.exit ?_;refine aX rfl (ah (aX rfl (ah (aX rfl (ah (aX rfl (ah (aX rfl (ah (av ?_))))))))));refine bl ?_;exact AT.sub (K v h) ⟨rfl, rfl, trivial⟩

end Go.Proofs.YtegigakgcnhiaaaGreatDoor

