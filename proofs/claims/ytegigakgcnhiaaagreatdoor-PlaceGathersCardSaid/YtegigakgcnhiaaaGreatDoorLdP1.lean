/- Facts of this claim: P1. -/
import Derived.Test.YtegigakgcnhiaaaGreatDoorLdT
import Derived.Test.YtegigakgcnhiaaaGreatDoorLdP0
namespace Go.Proofs.YtegigakgcnhiaaaGreatDoor
open Go

set_option maxRecDepth 100000 in
theorem f94_ok (v : DValue) {R : Int} (h : gX v = some R) : Spec Tryz.prog 94 [tD rpDValue v] (tD (rI .i64) R) := by
 refine Spec.of Tryz.func94 rfl rfl rfl fun w0 S0 => ?_;refine CG.seq ?_;refine CG.region ?_;refine RG.op (aS (ht rfl)) rfl ?_;refine RG.op (aa hI) rfl ?_;refine RG.nil ?_;refine AT.next ?_;refine CG.seq ?_;refine CG.seq ?_;refine CG.region ?_;refine RG.op (ai b9 rfl rfl (ht rfl)) rfl ?_
 obtain ⟨r, q_r, h⟩ := bs h
 refine RG.op (ax cb114 (f114_ok _ q_r) ⟨(ht rfl), trivial⟩) rfl ?_;refine RG.op (dQ (y := (⟨(0 : Int), (0 : Int), (0 : Int), []⟩ : DValue)) b9 fs89 fq (rfl)) rfl ?_;refine RG.op (ok_neqD eq89 (ht rfl) (ht rfl)) rfl ?_;refine RG.nil ?_;refine AT.next ?_;refine CG.cond (ht rfl) (fun hc => ?_) (fun hc => ?_)
 ·have h := ct h hc;refine CG.seq ?_;refine CG.region ?_;refine RG.op (aa hI) rfl ?_;refine RG.nil ?_;refine AT.next ?_;refine CG.ret ?_;refine ae ?_;cases so h;exact ak rfl rfl
 ·have h := cf h hc;refine CG.skip ?_;refine AT.next ?_;refine CG.seq ?_;refine CG.region ?_;refine RG.op (aa hI) rfl ?_;refine RG.nil ?_;refine AT.next ?_;refine CG.ret ?_;cases so h;exact ak rfl rfl

set_option maxRecDepth 100000 in
theorem f70_ok (rows : (List (List DValue))) (kinds : (List Int)) {R : Bool} (h : jy rows kinds = some R) : Spec Tryz.prog 70 [tD (rSl (rSl rpDValue)) rows, tD (rSl (rI .i64)) kinds] (tD rB R) := by
 refine Spec.of Tryz.func70 rfl rfl rfl fun w0 S0 => ?_;refine CG.seq ?_;refine CG.region ?_;refine RG.op (aa hB) rfl ?_;refine RG.nil ?_;refine AT.next ?_;refine CG.seq ?_;refine CG.seq ?_;refine CG.region ?_;refine RG.op (ac (ht rfl)) rfl ?_;refine RG.op (au Tryz.underlying54 (ht rfl)) rfl ?_;refine RG.op (bV (ht rfl) hI) rfl ?_;refine RG.nil ?_;refine AT.next ?_;refine CG.cond (ht rfl) (fun hc => ?_) (fun hc => ?_)
 ·have h := ct h hc;refine CG.seq ?_;refine CG.region ?_;refine RG.op (aa hB) rfl ?_;refine RG.nil ?_;refine AT.next ?_;refine CG.ret ?_;refine ae ?_;cases so h;exact ak rfl rfl
 ·have h := cf h hc;refine CG.skip ?_;refine AT.next ?_;refine CG.seq ?_;refine CG.seq ?_;refine CG.region ?_;refine RG.op (ac (ht rfl)) rfl ?_;refine RG.op (au Tryz.underlying54 (ht rfl)) rfl ?_;refine RG.op (ac hI) rfl ?_;refine RG.nil ?_;refine AT.next ?_;refine CG.block ?_;refine aC (k := 12) rfl (fun hN => ?_);refine CG.loop ?_;refine LG.sub (bf (Z := fun ls i  => (rows.drop i = ls) ∧ dT kinds ls  = some R) (Of := fun _ i  => []) (Gf := fun _ i  => [(1, tD (rSl (rI .i64)) kinds), (12, tD (rSl (rSl rpDValue)) rows), (13, tD (rI .i64) (rows.length : Int)), (14, tD (rI .i64) (i : Int))]) (fun i  h => ?_) (fun e tl ih i  h => ?_) rows 0  ⟨rfl, h⟩) ⟨rfl, rfl, rfl, rfl, trivial⟩
  ·obtain ⟨hx, h⟩ := h
   refine aq ?_;refine CG.seq ?_;refine CG.region ?_;refine RG.op (ay (ht rfl) (ht rfl)) rfl ?_;refine RG.nil ?_;refine AT.next ?_;refine CG.seq ?_;refine aM (ht rfl) (bH hx) ?_;refine CG.exit ?_;refine ah (ah (av ?_));refine AT.next ?_;refine CG.seq ?_;refine CG.region ?_;refine RG.op (aa hB) rfl ?_;refine RG.nil ?_;refine AT.next ?_;refine CG.ret ?_;cases so h;exact ak rfl rfl
  ·obtain ⟨hx, h⟩ := h
   refine aq ?_;refine CG.seq ?_;refine CG.region ?_;refine RG.op (ay (ht rfl) (ht rfl)) rfl ?_;refine RG.nil ?_;refine AT.next ?_;refine CG.seq ?_;refine aL (ht rfl) (bz hx) ?_;refine CG.skip ?_;refine AT.next ?_;refine CG.seq ?_;refine CG.block ?_;refine CG.seq ?_;refine CG.region ?_;refine RG.op (am Tryz.underlying54 cr rfl (ht rfl) (ht rfl) (bc hx)) rfl ?_;refine RG.op (ai cr rfl rfl (ht rfl)) rfl ?_;refine RG.op (aa (ht rfl)) rfl ?_;refine RG.nil ?_;refine AT.next ?_;refine CG.seq ?_;refine CG.seq ?_;refine CG.region ?_;refine RG.op (ac (ht rfl)) rfl ?_;refine RG.op (au Tryz.underlying45 (ht rfl)) rfl ?_;refine RG.op (ac (ht rfl)) rfl ?_;refine RG.op (au Tryz.underlying28 (ht rfl)) rfl ?_;refine RG.op (aW (ht rfl) (ht rfl)) rfl ?_;refine RG.nil ?_;refine AT.next ?_;refine CG.cond (ht rfl) (fun hc => ?_) (fun hc => ?_)
   ·have h := ct h hc;refine CG.seq ?_;refine CG.region ?_;refine RG.op (aa hB) rfl ?_;refine RG.nil ?_;refine AT.next ?_;refine CG.ret ?_;refine ae (al (ae (ae (al (ae ?_)))));cases so h;exact ak rfl rfl
   ·have h := cf h hc;refine CG.skip ?_;refine AT.next ?_;refine CG.seq ?_;refine CG.region ?_;refine RG.op (ac (ht rfl)) rfl ?_;refine RG.op (au Tryz.underlying45 (ht rfl)) rfl ?_;refine RG.op (ac hI) rfl ?_;refine RG.nil ?_;refine AT.next ?_;refine CG.block ?_;refine aC (k := 23) rfl (fun hN1 => ?_);refine CG.loop ?_;refine LG.sub (bf (Z := fun ls1 i1  => (e.drop i1 = ls1) ∧ dS kinds (dT kinds tl) ls1 i1  = some R) (Of := fun _ i1  => []) (Gf := fun _ i1  => [(1, tD (rSl (rI .i64)) kinds), (12, tD (rSl (rSl rpDValue)) rows), (13, tD (rI .i64) (rows.length : Int)), (14, tD (rI .i64) (i : Int)), (23, tD (rSl rpDValue) e), (24, tD (rI .i64) (e.length : Int)), (25, tD (rI .i64) (i1 : Int))]) (fun i1  h => ?_) (fun e1 tl1 ih1 i1  h => ?_) e 0  ⟨rfl, h⟩) ⟨rfl, rfl, rfl, rfl, rfl, rfl, rfl, trivial⟩
    ·obtain ⟨hx1, h⟩ := h
     refine aq ?_;refine CG.seq ?_;refine CG.region ?_;refine RG.op (ay (ht rfl) (ht rfl)) rfl ?_;refine RG.nil ?_;refine AT.next ?_;refine CG.seq ?_;refine aM (ht rfl) (bH hx1) ?_;refine CG.exit ?_;refine ah (ah (av ?_));refine ap ?_;refine AT.next ?_;refine CG.region ?_;refine RG.op (aP (bA hx hN) (ht rfl) hI) rfl ?_;refine RG.op (ac (ht rfl)) rfl ?_;refine RG.nil ?_;exact AT.round (LG.sub (ih (i + 1)  ⟨bG hx, h⟩) ⟨rfl, rfl, rfl, rfl, trivial⟩)
    ·obtain ⟨hx1, h⟩ := h
     refine aq ?_;refine CG.seq ?_;refine CG.region ?_;refine RG.op (ay (ht rfl) (ht rfl)) rfl ?_;refine RG.nil ?_;refine AT.next ?_;refine CG.seq ?_;refine aL (ht rfl) (bz hx1) ?_;refine CG.skip ?_;refine AT.next ?_;refine CG.seq ?_;refine CG.block ?_;refine CG.seq ?_;refine CG.region ?_;refine RG.op (ac (ht rfl)) rfl ?_;refine RG.op (am Tryz.underlying45 b9 rfl (ht rfl) (ht rfl) (bc hx1)) rfl ?_;refine RG.op (ai b9 rfl rfl (ht rfl)) rfl ?_;refine RG.alloc (r := rpDValue) (x := (⟨(0 : Int), (0 : Int), (0 : Int), []⟩ : DValue)) b9 (fun _ => fq _) rfl (fun b => ?_);refine RG.op (aa (ht rfl)) rfl ?_;refine aH b9 rfl aB rfl (ht rfl) (ht rfl) ?_;refine RG.settleB 8 rfl ?_;refine RG.nil ?_;refine AT.next ?_;refine CG.seq ?_
     obtain ⟨r, q_r, h⟩ := bs h
     obtain ⟨t, q_t, h⟩ := bs h
     obtain ⟨t1, h1t, h0t⟩ := og q_t
     have q_t1g := fun hb => (h1t hb).1
     obtain ⟨e2, h1t1, h0t1⟩ := og3 q_t1g
     have q_e2g := fun hb => (h1t1 hb).1
     refine cn (ts := [tD rpDValue e1, tD (rI .i64) r, tD rB (r != (0 : Int)), tD rB (r != (0 : Int)), bj (!(r != (0 : Int))) (aF (rI .i64) e1.Kind), bj (!(r != (0 : Int))) (tD (rI .i64) e1.Kind), bj (!(r != (0 : Int))) (tD rB (e1.Kind != (0 : Int))), bj (!(r != (0 : Int))) (tD rB (e1.Kind != (0 : Int))), bj ((!(r != (0 : Int))) && (e1.Kind != (0 : Int))) (aF (rI .i64) e1.Kind), bj ((!(r != (0 : Int))) && (e1.Kind != (0 : Int))) (tD (rI .i64) e1.Kind), bj ((!(r != (0 : Int))) && (e1.Kind != (0 : Int))) (tD (rSl (rI .i64)) kinds), bj ((!(r != (0 : Int))) && (e1.Kind != (0 : Int))) (tD (rI .i64) (i1 : Int)), bj ((!(r != (0 : Int))) && (e1.Kind != (0 : Int))) (aF (rI .i64) e2), bj ((!(r != (0 : Int))) && (e1.Kind != (0 : Int))) (tD (rI .i64) e2), bj ((!(r != (0 : Int))) && (e1.Kind != (0 : Int))) (tD rB (e1.Kind != e2)), bj (!(r != (0 : Int))) (tD rB t1), tD rB t]) mixed rfl rfl
      ⟨⟨[⟨8, _, none⟩], _, rfl, ⟨rfl, trivial⟩, rfl, rfl, af rfl (ai b9 rfl rfl (ht rfl))⟩,
      ⟨⟨[⟨30, _, some 0⟩], _, rfl, ⟨rfl, trivial⟩, rfl, rfl, af rfl (ax cb94 (f94_ok _ q_r) ⟨(ht rfl), trivial⟩)⟩,
      ⟨⟨[⟨31, _, some 1⟩], _, rfl, ⟨rfl, trivial⟩, rfl, rfl, af rfl (aW (ht rfl) hI)⟩,
      ⟨⟨[⟨32, _, some 2⟩], _, rfl, ⟨rfl, trivial⟩, rfl, rfl, af rfl (ac (ht rfl))⟩,
      ⟨⟨[⟨8, _, none⟩, ⟨33, _, some 3⟩], _, rfl, ⟨rfl, rfl, trivial⟩, rfl, rfl, cA rfl rfl rfl rfl (fun hg => aj ev rfl bZ rfl (ht rfl))⟩,
      ⟨⟨[⟨34, _, some 4⟩, ⟨33, _, some 3⟩], _, rfl, ⟨rfl, rfl, trivial⟩, rfl, rfl, cA rfl rfl rfl rfl (fun hg => ai ti3 rfl rfl (htO rfl hg))⟩,
      ⟨⟨[⟨35, _, some 5⟩, ⟨33, _, some 3⟩], _, rfl, ⟨rfl, rfl, trivial⟩, rfl, rfl, cA rfl rfl rfl rfl (fun hg => aW (htO rfl hg) hI)⟩,
      ⟨⟨[⟨36, _, some 6⟩, ⟨33, _, some 3⟩], _, rfl, ⟨rfl, rfl, trivial⟩, rfl, rfl, cA rfl rfl rfl rfl (fun hg => ac (htO rfl hg))⟩,
      ⟨⟨[⟨8, _, none⟩, ⟨37, _, some 7⟩], _, rfl, ⟨rfl, rfl, trivial⟩, rfl, rfl, b8 rfl rfl rfl rfl (fun hg => aj ev rfl bZ rfl (ht rfl))⟩,
      ⟨⟨[⟨38, _, some 8⟩, ⟨37, _, some 7⟩], _, rfl, ⟨rfl, rfl, trivial⟩, rfl, rfl, b8 rfl rfl rfl rfl (fun hg => ai ti3 rfl rfl (htO rfl hg))⟩,
      ⟨⟨[⟨1, _, none⟩, ⟨37, _, some 7⟩], _, rfl, ⟨rfl, rfl, trivial⟩, rfl, rfl, b8 rfl rfl rfl rfl (fun hg => ac (ht rfl))⟩,
      ⟨⟨[⟨7, _, none⟩, ⟨37, _, some 7⟩], _, rfl, ⟨rfl, rfl, trivial⟩, rfl, rfl, b8 rfl rfl rfl rfl (fun hg => ac (ht rfl))⟩,
      ⟨⟨[⟨40, _, some 10⟩, ⟨41, _, some 11⟩, ⟨37, _, some 7⟩], _, rfl, ⟨rfl, rfl, rfl, trivial⟩, rfl, rfl, b8 rfl rfl rfl rfl (fun hg => am Tryz.underlying28 ti3 rfl (htO rfl hg) (htO rfl hg) (q_e2g hg))⟩,
      ⟨⟨[⟨42, _, some 12⟩, ⟨37, _, some 7⟩], _, rfl, ⟨rfl, rfl, trivial⟩, rfl, rfl, b8 rfl rfl rfl rfl (fun hg => ai ti3 rfl rfl (htO rfl hg))⟩,
      ⟨⟨[⟨39, _, some 9⟩, ⟨43, _, some 13⟩, ⟨37, _, some 7⟩], _, rfl, ⟨rfl, rfl, rfl, trivial⟩, rfl, rfl, b8 rfl rfl rfl rfl (fun hg => aW (htO rfl hg) (htO rfl hg))⟩,
      ⟨⟨[⟨37, _, some 7⟩, ⟨44, _, some 14⟩, ⟨33, _, some 3⟩], _, rfl, ⟨rfl, rfl, rfl, trivial⟩, rfl, rfl, cA rfl rfl rfl rfl (fun hg => bw (htO rfl hg) (fun hb => (htO rfl (andi hg hb))) (fun hb => (h1t1 (andi hg hb)).2) (fun hb => h0t1 hg hb))⟩,
      ⟨⟨[⟨33, _, some 3⟩, ⟨45, _, some 15⟩], _, rfl, ⟨rfl, rfl, trivial⟩, rfl, rfl, af rfl (bX (ht rfl) (fun hb => (htO rfl (fV hb))) (fun hb => (h1t hb).2) h0t)⟩,
      trivial⟩⟩⟩⟩⟩⟩⟩⟩⟩⟩⟩⟩⟩⟩⟩⟩⟩ ?_
     refine AT.next ?_;refine CG.cond (ht rfl) (fun hc => ?_) (fun hc => ?_)
     ·have h := ct h hc;refine CG.seq ?_;refine CG.region ?_;refine RG.op (aa hB) rfl ?_;refine RG.nil ?_;refine AT.next ?_;refine CG.ret ?_;refine al (ae (ae (al (al (ae (ae (al (ae ?_))))))));cases so h;exact ak rfl rfl
     ·have h := cf h hc;refine CG.skip ?_;refine ap ?_;refine AT.next ?_;refine CG.region ?_;refine RG.op (aP (bA hx1 hN1) (ht rfl) hI) rfl ?_;refine RG.op (ac (ht rfl)) rfl ?_;refine RG.nil ?_;exact AT.round (LG.sub (ih1 (i1 + 1)  ⟨bG hx1, h⟩) ⟨rfl, rfl, rfl, rfl, rfl, rfl, rfl, trivial⟩)

set_option maxRecDepth 100000 in
theorem f40_ok (c : DCatalog) (b : DBase) {R : Int} (h : dU c b = some R) : Spec Tryz.prog 40 [tD rpDCatalog c, tD rpDBase b] (tD (rI .i64) R) := by
 refine Spec.of Tryz.func40 rfl rfl rfl fun w0 S0 => ?_;refine CG.seq ?_;refine CG.region ?_;refine RG.op (aS (ht rfl)) rfl ?_;refine RG.op (aS (ht rfl)) rfl ?_;refine RG.op (aa hI) rfl ?_;refine RG.nil ?_;refine AT.next ?_;refine CG.seq ?_;refine CG.seq ?_;refine CG.region ?_;refine RG.op (ai f9 rfl rfl (ht rfl)) rfl ?_
 obtain ⟨r, q_r, h⟩ := bs h
 refine RG.op (ax cb39 (f39_ok _ q_r) ⟨(ht rfl), trivial⟩) rfl ?_;refine RG.op (aa (ht rfl)) rfl ?_;refine RG.nil ?_;refine AT.next ?_;refine CG.seq ?_;refine CG.region ?_;refine RG.op (ac (ht rfl)) rfl ?_;refine RG.op (aW (ht rfl) hI) rfl ?_;refine RG.nil ?_;refine AT.next ?_;refine CG.cond (ht rfl) (fun hc => ?_) (fun hc => ?_)
 ·have h := ct h hc;refine CG.seq ?_;refine CG.region ?_;refine RG.op (ac (ht rfl)) rfl ?_;refine RG.op (aa (ht rfl)) rfl ?_;refine RG.nil ?_;refine AT.next ?_;refine CG.ret ?_;refine ae ?_;cases so h;exact ak rfl rfl
 ·have h := cf h hc;refine CG.skip ?_;refine AT.next ?_;refine CG.seq ?_;refine CG.seq ?_;refine CG.region ?_;refine RG.op (aj ce rfl bt rfl (ht rfl)) rfl ?_;refine RG.op (ai fy rfl rfl (ht rfl)) rfl ?_;refine RG.op (au Tryz.underlying25 (ht rfl)) rfl ?_;refine RG.op (aj dl rfl ba rfl (ht rfl)) rfl ?_;refine RG.op (ai iR rfl rfl (ht rfl)) rfl ?_;refine RG.op (au Tryz.underlying22 (ht rfl)) rfl ?_;refine RG.op (aW (ht rfl) (ht rfl)) rfl ?_;refine RG.nil ?_;refine AT.next ?_;refine CG.cond (ht rfl) (fun hc => ?_) (fun hc => ?_)
  ·have h := ct h hc;refine CG.seq ?_;refine CG.region ?_;refine RG.op (aa hI) rfl ?_;refine RG.nil ?_;refine AT.next ?_;refine CG.ret ?_;refine ae ?_;cases so h;exact ak rfl rfl
  ·have h := cf h hc;refine CG.skip ?_;refine AT.next ?_;refine CG.seq ?_;refine CG.seq ?_;refine CG.region ?_;refine RG.op (aj dl rfl ba rfl (ht rfl)) rfl ?_;refine RG.op (ai iR rfl rfl (ht rfl)) rfl ?_;refine RG.op (au Tryz.underlying22 (ht rfl)) rfl ?_;refine RG.op (ac hI) rfl ?_;refine RG.nil ?_;refine AT.next ?_;refine CG.block ?_;refine aC (k := 24) rfl (fun hN => ?_);refine CG.loop ?_;refine LG.sub (bf (Z := fun ls i  => (c.Tables.drop i = ls) ∧ b7 b ls i  = some R) (Of := fun _ i  => []) (Gf := fun _ i  => [(3, aF rpDBase b), (24, tD (rSl rpDTable) c.Tables), (25, tD (rI .i64) (c.Tables.length : Int)), (26, tD (rI .i64) (i : Int))]) (fun i  h => ?_) (fun e tl ih i  h => ?_) c.Tables 0  ⟨rfl, h⟩) ⟨rfl, rfl, rfl, rfl, trivial⟩
   ·obtain ⟨hx, h⟩ := h
    refine aq ?_;refine CG.seq ?_;refine CG.region ?_;refine RG.op (ay (ht rfl) (ht rfl)) rfl ?_;refine RG.nil ?_;refine AT.next ?_;refine CG.seq ?_;refine aM (ht rfl) (bH hx) ?_;refine CG.exit ?_;refine ah (ah (av ?_));refine AT.next ?_;refine CG.seq ?_;refine CG.region ?_;refine RG.op (aa hI) rfl ?_;refine RG.nil ?_;refine AT.next ?_;refine CG.ret ?_;cases so h;exact ak rfl rfl
   ·obtain ⟨hx, h⟩ := h
    refine aq ?_;refine CG.seq ?_;refine CG.region ?_;refine RG.op (ay (ht rfl) (ht rfl)) rfl ?_;refine RG.nil ?_;refine AT.next ?_;refine CG.seq ?_;refine aL (ht rfl) (bz hx) ?_;refine CG.skip ?_;refine AT.next ?_;refine CG.seq ?_;refine CG.block ?_;refine CG.seq ?_;refine CG.region ?_;refine RG.op (ac (ht rfl)) rfl ?_;refine RG.op (am Tryz.underlying22 fu rfl (ht rfl) (ht rfl) (bc hx)) rfl ?_;refine RG.op (ai fu rfl rfl (ht rfl)) rfl ?_;refine RG.alloc (r := rpDTable) (x := (⟨[], [], []⟩ : DTable)) fu (fun _ => zrDTable _) rfl (fun b1 => ?_);refine RG.op (aa (ht rfl)) rfl ?_;refine aH fu rfl aB rfl (ht rfl) (ht rfl) ?_;refine RG.settleB 7 rfl ?_;refine RG.nil ?_;refine AT.next ?_;refine CG.seq ?_;refine CG.region ?_;refine RG.fresh false (rI .i64) 3 ?_;refine RG.op (aa hVn) rfl ?_;refine RG.nil ?_;refine AT.next ?_;refine CG.seq ?_;refine CG.seq ?_;refine CG.region ?_;refine RG.op (aj fl rfl b6 rfl (ht rfl)) rfl ?_;refine RG.op (ai ti51 rfl rfl (ht rfl)) rfl ?_;refine RG.op (au Tryz.underlying51 (ht rfl)) rfl ?_;refine RG.op (ac hI) rfl ?_;refine RG.nil ?_;refine AT.next ?_;refine CG.block ?_;refine aC (k := 32) rfl (fun hN1 => ?_);refine CG.loop ?_;refine LG.sub (i9 (Z := fun ls1 i1 kinds l c1 => (e.Columns.drop i1 = ls1) ∧ cq b (b7 b tl) i ls1 kinds = some R) (Of := fun _ i1 kinds l c1 => [arr (rI .i64) 3 l c1 kinds]) (Gf := fun _ i1 kinds l c1 => [(3, aF rpDBase b), (6, tD (rI .i64) (i : Int)), (8, tV (aD l c1 kinds.length)), (24, tD (rSl rpDTable) c.Tables), (25, tD (rI .i64) (c.Tables.length : Int)), (26, tD (rI .i64) (i : Int)), (32, tD (rSl rpDColumn) e.Columns), (33, tD (rI .i64) (e.Columns.length : Int)), (34, tD (rI .i64) (i1 : Int))]) (fun i1 kinds l c1 h => ?_) (fun e1 tl1 ih1 i1 kinds l c1 h => ?_) e.Columns 0 ([] : List Int) none 0 ⟨rfl, h⟩) ⟨rfl, rfl, rfl, rfl, rfl, rfl, rfl, rfl, rfl, trivial⟩
    ·obtain ⟨hx1, h⟩ := h
     refine aq ?_;refine CG.seq ?_;refine CG.region ?_;refine RG.op (ay (ht rfl) (ht rfl)) rfl ?_;refine RG.nil ?_;refine AT.next ?_;refine CG.seq ?_;refine aM (ht rfl) (bH hx1) ?_;refine CG.exit ?_;refine ah (ah (av ?_));refine AT.next ?_;refine CG.seq ?_;refine CG.region ?_;refine RG.op (aj ce rfl bt rfl (ht rfl)) rfl ?_;refine RG.op (ai fy rfl rfl (ht rfl)) rfl ?_;refine RG.op (ac (ht rfl)) rfl ?_
     obtain ⟨e2, q_e2, h⟩ := bs h
     refine RG.op (am Tryz.underlying25 cM rfl (ht rfl) (ht rfl) q_e2) rfl ?_;refine RG.op (ai cM rfl rfl (ht rfl)) rfl ?_;refine RG.op (ac (ht rfl)) rfl ?_;refine RG.freeze ?_;refine RG.tipAt 8 rfl ?_;refine RG.tipAt 49 rfl ?_
     obtain ⟨r1, q_r1, h⟩ := bs h
     refine RG.op (ax cb70 (f70_ok _ _ q_r1) ⟨(ht rfl), (tO_d (ht rfl)), trivial⟩) rfl ?_;refine RG.op (bq (ht rfl)) rfl ?_;refine RG.nil ?_;refine AT.next ?_;refine CG.cond (ht rfl) (fun hc => ?_) (fun hc => ?_)
     ·have h := ct h hc;refine CG.seq ?_;refine CG.region ?_;refine RG.op (aa hI) rfl ?_;refine RG.nil ?_;refine AT.next ?_;refine CG.ret ?_;refine al (ae (ae (al (ae ?_))));refine AT.drop ?_;cases so h;exact ak rfl rfl
     ·have h := cf h hc;refine CG.skip ?_;refine ap ?_;refine AT.next ?_;refine CG.region ?_;refine RG.op (aP (bA hx hN) (ht rfl) hI) rfl ?_;refine RG.op (ac (ht rfl)) rfl ?_;refine RG.nil ?_;refine AT.drop ?_;exact AT.round (LG.sub (ih (i + 1)  ⟨bG hx, h⟩) ⟨rfl, rfl, rfl, rfl, trivial⟩)
    ·obtain ⟨hx1, h⟩ := h
     refine aq ?_;refine CG.seq ?_;refine CG.region ?_;refine RG.op (ay (ht rfl) (ht rfl)) rfl ?_;refine RG.nil ?_;refine AT.next ?_;refine CG.seq ?_;refine aL (ht rfl) (bz hx1) ?_;refine CG.skip ?_;refine AT.next ?_;refine CG.seq ?_;refine CG.block ?_;refine CG.seq ?_;refine CG.region ?_;refine RG.op (am Tryz.underlying51 f8 rfl (ht rfl) (ht rfl) (bc hx1)) rfl ?_;refine RG.op (ai f8 rfl rfl (ht rfl)) rfl ?_;refine RG.alloc (r := rpDColumn) (x := (⟨[], (0 : Int)⟩ : DColumn)) f8 (fun _ => iJ _) rfl (fun b2 => ?_);refine aH f8 rfl aB rfl (ht rfl) (ht rfl) ?_;refine RG.settleB 10 rfl ?_;refine RG.nil ?_;refine AT.next ?_;refine CG.region ?_;refine RG.op (ac (ht rfl)) rfl ?_;refine RG.op (aj fd79_1 rfl jw rfl (ht rfl)) rfl ?_;refine RG.op (ai ti3 rfl rfl (ht rfl)) rfl ?_;refine RG.op (aO (r := (rI .i64)) (ys := [e1.Kind]) (xs := [.tmp 40]) Tryz.underlying28 ti3 rfl rfl rfl rfl rfl ⟨(ht rfl), trivial⟩) rfl ?_
     obtain ⟨kinds1, q_kinds1, h⟩ := bs h
     refine RG.append ti3 rfl rfl rfl rfl Tryz.underlying28 rfl rfl (ht rfl) (ht rfl) q_kinds1 (fun l1 c2 => ?_);refine RG.op (aa (ht rfl)) rfl ?_;refine RG.nil ?_;refine ap ?_;refine AT.next ?_;refine CG.region ?_;refine RG.op (aP (bA hx1 hN1) (ht rfl) hI) rfl ?_;refine RG.op (ac (ht rfl)) rfl ?_;refine RG.nil ?_;exact AT.round (LG.sub (ih1 (i1 + 1) kinds1 l1 c2 ⟨bG hx1, h⟩) ⟨rfl, rfl, rfl, rfl, rfl, rfl, rfl, rfl, rfl, trivial⟩)

set_option maxRecDepth 100000 in
theorem f41_ok (c : (List Int)) (c1 : Int) (i : Int) {R : Int} (h : eM c c1 i = some R) : Spec Tryz.prog 41 [tD (rI .i64) i, aF (rSl (rI .i64)) c, aF (rI .i64) c1] (tD (rI .i64) R) := by
 refine Spec.of Tryz.func41 rfl rfl rfl fun w0 S0 => ?_;refine CG.seq ?_;refine CG.region ?_;refine RG.op (aa hI) rfl ?_;refine RG.nil ?_;refine AT.next ?_;refine j4 (Z := fun i1 => iZ c1 i1 = some R) (Of := fun i1 => []) (Gf := fun i1 => [(0, tD (rI .i64) i1), (2, aF (rI .i64) c1)]) (fun i1 h => ?_) (fun K => ?_)
 ·skip
  refine CG.seq ?_
  obtain ⟨u, q_u, h⟩ := bs h
  obtain ⟨u1, q_u1, h⟩ := bs h
  refine cn (ts := [tD (rI .i64) i1, tD (rI .i64) c1, tD (rI .i64) ((i1).tmod c1), tD (rI .i64) c1, tD (rI .i64) (IntKind.i64.wrap (((i1).tmod c1) + c1)), tD (rI .i64) c1, tD (rI .i64) (((IntKind.i64.wrap (((i1).tmod c1) + c1))).tmod c1), tD (rI .i64) (IntKind.i64.wrap ((((IntKind.i64.wrap (((i1).tmod c1) + c1))).tmod c1) + (1 : Int))), tD (rI .i64) (IntKind.i64.wrap ((((IntKind.i64.wrap (((i1).tmod c1) + c1))).tmod c1) + (1 : Int)))]) mixed rfl rfl
   ⟨⟨[⟨0, _, none⟩], _, rfl, ⟨rfl, trivial⟩, rfl, rfl, af rfl (ac (ht rfl))⟩,
   ⟨⟨[⟨2, _, none⟩], _, rfl, ⟨rfl, trivial⟩, rfl, rfl, af rfl (ai ti3 rfl rfl (ht rfl))⟩,
   ⟨⟨[⟨15, _, some 0⟩, ⟨16, _, some 1⟩], _, rfl, ⟨rfl, rfl, trivial⟩, rfl, rfl, af rfl (ok_rem (ht rfl) (ht rfl) (nz_some q_u))⟩,
   ⟨⟨[⟨2, _, none⟩], _, rfl, ⟨rfl, trivial⟩, rfl, rfl, af rfl (ai ti3 rfl rfl (ht rfl))⟩,
   ⟨⟨[⟨17, _, some 2⟩, ⟨18, _, some 3⟩], _, rfl, ⟨rfl, rfl, trivial⟩, rfl, rfl, af rfl (cj (ht rfl) (ht rfl))⟩,
   ⟨⟨[⟨2, _, none⟩], _, rfl, ⟨rfl, trivial⟩, rfl, rfl, af rfl (ai ti3 rfl rfl (ht rfl))⟩,
   ⟨⟨[⟨19, _, some 4⟩, ⟨20, _, some 5⟩], _, rfl, ⟨rfl, rfl, trivial⟩, rfl, rfl, af rfl (ok_rem (ht rfl) (ht rfl) (nz_some q_u1))⟩,
   ⟨⟨[⟨21, _, some 6⟩], _, rfl, ⟨rfl, trivial⟩, rfl, rfl, af rfl (cj (ht rfl) hI)⟩,
   ⟨⟨[⟨22, _, some 7⟩], _, rfl, ⟨rfl, trivial⟩, rfl, rfl, af rfl (aa (ht rfl))⟩,
   trivial⟩⟩⟩⟩⟩⟩⟩⟩⟩ ?_
  refine AT.next ?_;refine CG.ret ?_;cases so h;exact ak rfl rfl
 ·skip
  refine CG.seq ?_;refine CG.region ?_;refine RG.op (ai ti28 rfl rfl (ht rfl)) rfl ?_;refine RG.op (au Tryz.underlying28 (ht rfl)) rfl ?_;refine RG.op (bV (ht rfl) hI) rfl ?_;refine RG.nil ?_;refine AT.next ?_;refine CG.cond (ht rfl) (fun hc => ?_) (fun hc => ?_)
  ·have h := ct h hc
   obtain ⟨u2, q_u2, h⟩ := bs h
   obtain ⟨e, q_e, h⟩ := bs h
   refine cn (ts := [tD (rSl (rI .i64)) c, tD (rI .i64) i, tD (rSl (rI .i64)) c, tD (rI .i64) (c.length : Int), tD (rI .i64) ((i).tmod (c.length : Int)), aF (rI .i64) e, tD (rI .i64) e, tD (rI .i64) e]) mixed rfl rfl
    ⟨⟨[⟨1, _, none⟩], _, rfl, ⟨rfl, trivial⟩, rfl, rfl, af rfl (ai ti28 rfl rfl (ht rfl))⟩,
    ⟨⟨[⟨0, _, none⟩], _, rfl, ⟨rfl, trivial⟩, rfl, rfl, af rfl (ac (ht rfl))⟩,
    ⟨⟨[⟨1, _, none⟩], _, rfl, ⟨rfl, trivial⟩, rfl, rfl, af rfl (ai ti28 rfl rfl (ht rfl))⟩,
    ⟨⟨[⟨10, _, some 2⟩], _, rfl, ⟨rfl, trivial⟩, rfl, rfl, af rfl (au Tryz.underlying28 (ht rfl))⟩,
    ⟨⟨[⟨9, _, some 1⟩, ⟨11, _, some 3⟩], _, rfl, ⟨rfl, rfl, trivial⟩, rfl, rfl, af rfl (ok_rem (ht rfl) (ht rfl) (nz_some q_u2))⟩,
    ⟨⟨[⟨8, _, some 0⟩, ⟨12, _, some 4⟩], _, rfl, ⟨rfl, rfl, trivial⟩, rfl, rfl, af rfl (am Tryz.underlying28 ti3 rfl (ht rfl) (ht rfl) q_e)⟩,
    ⟨⟨[⟨13, _, some 5⟩], _, rfl, ⟨rfl, trivial⟩, rfl, rfl, af rfl (ai ti3 rfl rfl (ht rfl))⟩,
    ⟨⟨[⟨14, _, some 6⟩], _, rfl, ⟨rfl, trivial⟩, rfl, rfl, af rfl (aa (ht rfl))⟩,
    trivial⟩⟩⟩⟩⟩⟩⟩⟩ ?_
   exact AT.sub (K e h) ⟨rfl, rfl, trivial⟩
  ·have h := cf h hc;refine CG.skip ?_;exact AT.sub (K i h) ⟨rfl, rfl, trivial⟩

set_option maxRecDepth 100000 in
theorem f102_ok (v : DValue) {R : Bool} (h : hJ v = some R) : Spec Tryz.prog 102 [tD rpDValue v] (tD rB R) := by
 refine Spec.of Tryz.func102 rfl rfl rfl fun w0 S0 => ?_;refine CG.seq ?_;refine CG.region ?_;refine RG.op (aS (ht rfl)) rfl ?_;refine RG.op (aa hB) rfl ?_;refine RG.nil ?_;refine AT.next ?_;refine CG.seq ?_;refine CG.region ?_;refine RG.op (ai b9 rfl rfl (ht rfl)) rfl ?_
 obtain ⟨r, q_r, h⟩ := bs h
 refine RG.op (ax cb94 (f94_ok _ q_r) ⟨(ht rfl), trivial⟩) rfl ?_;refine RG.op (aW (ht rfl) hI) rfl ?_;refine RG.op (aa (ht rfl)) rfl ?_;refine RG.nil ?_;refine AT.next ?_;refine CG.ret ?_;cases so h;exact ak rfl rfl

set_option maxRecDepth 100000 in
theorem f121_ok (s : (List DValue)) (f : (DValue → Option Bool)) {R : Int} (h : dd s f = some R) : Spec Tryz.prog 121 [tD (rSl rpDValue) s, (cU Tryz.prog (fun (x : DValue) => [tD rpDValue x]) (fun (x : Bool) => tD rB x) (fun (x : DValue) => f x))] (tD (rI .i64) R) := by
 refine Spec.of Tryz.func121 rfl rfl rfl fun w0 S0 => ?_;refine CG.seq ?_;refine CG.region ?_;refine RG.op (aa hI) rfl ?_;refine RG.nil ?_;refine AT.next ?_;refine CG.seq ?_;refine CG.seq ?_;refine CG.region ?_;refine RG.op (ac (ht rfl)) rfl ?_;refine RG.op (au Tryz.underlying45 (ht rfl)) rfl ?_;refine RG.op (ac hI) rfl ?_;refine RG.nil ?_;refine AT.next ?_;refine CG.block ?_;refine aC (k := 6) rfl (fun hN => ?_);refine CG.loop ?_;refine LG.sub (bf (Z := fun ls i  => (s.drop i = ls) ∧ a6 f ls i  = some R) (Of := fun _ i  => []) (Gf := fun _ i  => [(0, tD (rSl rpDValue) s), (1, (cU Tryz.prog (fun (x : DValue) => [tD rpDValue x]) (fun (x : Bool) => tD rB x) (fun (x : DValue) => f x))), (7, tD (rI .i64) (s.length : Int)), (8, tD (rI .i64) (i : Int))]) (fun i  h => ?_) (fun e tl ih i  h => ?_) s 0  ⟨rfl, h⟩) ⟨rfl, rfl, rfl, rfl, trivial⟩
 ·obtain ⟨hx, h⟩ := h
  refine aq ?_;refine CG.seq ?_;refine CG.region ?_;refine RG.op (ay (ht rfl) (ht rfl)) rfl ?_;refine RG.nil ?_;refine AT.next ?_;refine CG.seq ?_;refine aM (ht rfl) (bH hx) ?_;refine CG.exit ?_;refine ah (ah (av ?_));refine AT.next ?_;refine CG.seq ?_;refine CG.region ?_;refine RG.op (aa hI) rfl ?_;refine RG.nil ?_;refine AT.next ?_;refine CG.ret ?_;cases so h;exact ak rfl rfl
 ·obtain ⟨hx, h⟩ := h
  refine aq ?_;refine CG.seq ?_;refine CG.region ?_;refine RG.op (ay (ht rfl) (ht rfl)) rfl ?_;refine RG.nil ?_;refine AT.next ?_;refine CG.seq ?_;refine aL (ht rfl) (bz hx) ?_;refine CG.skip ?_;refine AT.next ?_;refine CG.seq ?_;refine CG.block ?_;refine CG.seq ?_;refine CG.region ?_;refine RG.op (ac (ht rfl)) rfl ?_;refine RG.op (aa (ht rfl)) rfl ?_;refine RG.nil ?_;refine AT.next ?_;refine CG.seq ?_;refine CG.region ?_;refine RG.op (ac (ht rfl)) rfl ?_;refine RG.op (ac (ht rfl)) rfl ?_;refine RG.op (ac (ht rfl)) rfl ?_;refine RG.op (am Tryz.underlying45 b9 rfl (ht rfl) (ht rfl) (bc hx)) rfl ?_;refine RG.op (ai b9 rfl rfl (ht rfl)) rfl ?_
  obtain ⟨r, q_r, h⟩ := bs h
  refine RG.op (dj (args := (fun (x : DValue) => [tD rpDValue x])) (res := (fun (x : Bool) => tD rB x)) (f := (fun (x : DValue) => f x)) (x := ((e) : DValue)) (ht rfl) q_r ⟨(ht rfl), trivial⟩) rfl ?_;refine RG.nil ?_;refine AT.next ?_;refine CG.cond (ht rfl) (fun hc => ?_) (fun hc => ?_)
  ·have h := ct h hc;refine CG.seq ?_;refine CG.region ?_;refine RG.op (ac (ht rfl)) rfl ?_;refine RG.op (aa (ht rfl)) rfl ?_;refine RG.nil ?_;refine AT.next ?_;refine CG.ret ?_;refine al (ae (ae (al (ae ?_))));cases so h;exact ak rfl rfl
  ·have h := cf h hc;refine CG.skip ?_;refine ap ?_;refine AT.next ?_;refine CG.region ?_;refine RG.op (aP (bA hx hN) (ht rfl) hI) rfl ?_;refine RG.op (ac (ht rfl)) rfl ?_;refine RG.nil ?_;exact AT.round (LG.sub (ih (i + 1)  ⟨bG hx, h⟩) ⟨rfl, rfl, rfl, rfl, trivial⟩)

set_option maxRecDepth 100000 in
theorem f103_ok (s : (List DValue)) (f : (DValue → Option Bool)) {R : Bool} (h : bU s f = some R) : Spec Tryz.prog 103 [tD (rSl rpDValue) s, (cU Tryz.prog (fun (x : DValue) => [tD rpDValue x]) (fun (x : Bool) => tD rB x) (fun (x : DValue) => f x))] (tD rB R) := by
 refine Spec.of Tryz.func103 rfl rfl rfl fun w0 S0 => ?_;refine CG.seq ?_;refine CG.region ?_;refine RG.op (aa hB) rfl ?_;refine RG.nil ?_;refine AT.next ?_;refine CG.seq ?_;refine CG.region ?_;refine RG.op (ac (ht rfl)) rfl ?_;refine RG.op (ac (ht rfl)) rfl ?_
 obtain ⟨r, q_r, h⟩ := bs h
 refine RG.op (ax cb121 (f121_ok _ _ q_r) ⟨(ht rfl), (ht rfl), trivial⟩) rfl ?_;refine RG.op (eO (ht rfl) hI) rfl ?_;refine RG.op (aa (ht rfl)) rfl ?_;refine RG.nil ?_;refine AT.next ?_;refine CG.ret ?_;cases so h;exact ak rfl rfl

set_option maxRecDepth 100000 in
theorem f82_ok (r : (List DValue)) {R : Bool} (h : row_right r = some R) : Spec Tryz.prog 82 [tD (rSl rpDValue) r] (tD rB R) := by
 refine Spec.of Tryz.func82 rfl rfl rfl fun w0 S0 => ?_;refine CG.seq ?_;refine CG.region ?_;refine RG.op (aa hB) rfl ?_;refine RG.nil ?_;refine AT.next ?_;refine CG.seq ?_;refine CG.region ?_;refine RG.op (aa (show aA _ _ _ ((cU Tryz.prog (fun (x : DValue) => [tD rpDValue x]) (fun (x : Bool) => tD rB x) (fun (x : DValue) => hJ x))) from (hFn cb102 fun x y h => f102_ok _ h))) rfl ?_;refine RG.nil ?_;refine AT.next ?_;refine CG.seq ?_;refine CG.region ?_;refine RG.op (ac (ht rfl)) rfl ?_;refine RG.op (au Tryz.underlying45 (ht rfl)) rfl ?_;refine RG.op (kr (ht rfl) hI) rfl ?_;refine RG.op (ac (ht rfl)) rfl ?_
 obtain ⟨t, q_t, h⟩ := bs h
 refine aw rfl rfl rfl rfl (fun hg => ac (ht rfl)) ?_;refine aw rfl rfl rfl rfl (fun hg => ac (ht rfl)) ?_
 obtain ⟨r1, h1t, h0t⟩ := og q_t
 have q_r1g := fun hb => (h1t hb).1
 refine aw rfl rfl rfl rfl (fun hg => ax cb103 (f103_ok _ _ (q_r1g hg)) ⟨(htO rfl hg), (htO rfl hg), trivial⟩) ?_;refine aw rfl rfl rfl rfl (fun hg => bq (htO rfl hg)) ?_;refine RG.op (bw (ht rfl) (fun hb => (htO rfl hb)) (fun hb => (h1t hb).2) h0t) rfl ?_;refine RG.op (aa (ht rfl)) rfl ?_;refine RG.nil ?_;refine AT.next ?_;refine CG.ret ?_;cases so h;exact ak rfl rfl

set_option maxRecDepth 100000 in
theorem f56_ok (l : (List (List (List DValue)))) {R : Int} (h : row_lists l = some R) : Spec Tryz.prog 56 [tD (rSl (rSl (rSl rpDValue))) l] (tD (rI .i64) R) := by
 refine Spec.of Tryz.func56 rfl rfl rfl fun w0 S0 => ?_;refine CG.seq ?_;refine CG.region ?_;refine RG.op (aa hI) rfl ?_;refine RG.nil ?_;refine AT.next ?_;refine CG.seq ?_;refine CG.region ?_;refine RG.op (aa hI) rfl ?_;refine RG.nil ?_;refine AT.next ?_;refine CG.seq ?_;refine CG.seq ?_;refine CG.region ?_;refine RG.op (ac (ht rfl)) rfl ?_;refine RG.op (au Tryz.underlying25 (ht rfl)) rfl ?_;refine RG.op (ac hI) rfl ?_;refine RG.nil ?_;refine AT.next ?_;refine CG.block ?_;refine aC (k := 8) rfl (fun hN => ?_);refine CG.loop ?_;refine LG.sub (ii (Z := fun ls i n => (l.drop i = ls) ∧ dy ls n = some R) (Of := fun _ i n => []) (Gf := fun _ i n => [(3, tD (rI .i64) n), (8, tD (rSl (rSl (rSl rpDValue))) l), (9, tD (rI .i64) (l.length : Int)), (10, tD (rI .i64) (i : Int))]) (fun i n h => ?_) (fun e tl ih i n h => ?_) l 0 (0 : Int) ⟨rfl, h⟩) ⟨rfl, rfl, rfl, rfl, trivial⟩
 ·obtain ⟨hx, h⟩ := h
  refine aq ?_;refine CG.seq ?_;refine CG.region ?_;refine RG.op (ay (ht rfl) (ht rfl)) rfl ?_;refine RG.nil ?_;refine AT.next ?_;refine CG.seq ?_;refine aM (ht rfl) (bH hx) ?_;refine CG.exit ?_;refine ah (ah (av ?_));refine AT.next ?_;refine CG.seq ?_;refine CG.seq ?_;refine CG.region ?_;refine RG.op (ac (ht rfl)) rfl ?_;refine RG.op (bV (ht rfl) hI) rfl ?_;refine RG.nil ?_;refine AT.next ?_;refine CG.cond (ht rfl) (fun hc => ?_) (fun hc => ?_)
  ·have h := ct h hc;refine CG.seq ?_;refine CG.region ?_;refine RG.op (aa hI) rfl ?_;refine RG.nil ?_;refine AT.next ?_;refine CG.ret ?_;refine ae ?_;cases so h;exact ak rfl rfl
  ·have h := cf h hc;refine CG.skip ?_;refine AT.next ?_;refine CG.seq ?_;refine CG.region ?_;refine RG.op (aa hI) rfl ?_;refine RG.nil ?_;refine AT.next ?_;refine CG.ret ?_;cases so h;exact ak rfl rfl
 ·obtain ⟨hx, h⟩ := h
  refine aq ?_;refine CG.seq ?_;refine CG.region ?_;refine RG.op (ay (ht rfl) (ht rfl)) rfl ?_;refine RG.nil ?_;refine AT.next ?_;refine CG.seq ?_;refine aL (ht rfl) (bz hx) ?_;refine CG.skip ?_;refine AT.next ?_;refine CG.seq ?_;refine CG.block ?_;refine CG.seq ?_;refine CG.region ?_;refine RG.op (am Tryz.underlying25 cM rfl (ht rfl) (ht rfl) (bc hx)) rfl ?_;refine RG.op (ai cM rfl rfl (ht rfl)) rfl ?_;refine RG.op (aa (ht rfl)) rfl ?_;refine RG.nil ?_;refine AT.next ?_;refine CG.seq ?_;refine CG.seq ?_;refine CG.region ?_;refine RG.op (ac (ht rfl)) rfl ?_;refine RG.op (au Tryz.underlying54 (ht rfl)) rfl ?_;refine RG.op (ac hI) rfl ?_;refine RG.nil ?_;refine AT.next ?_;refine CG.block ?_;refine aC (k := 14) rfl (fun hN1 => ?_);refine CG.loop ?_;refine LG.sub (bf (Z := fun ls1 i1  => (e.drop i1 = ls1) ∧ gc (dy tl) e n ls1  = some R) (Of := fun _ i1  => []) (Gf := fun _ i1  => [(3, tD (rI .i64) n), (5, tD (rSl (rSl rpDValue)) e), (8, tD (rSl (rSl (rSl rpDValue))) l), (9, tD (rI .i64) (l.length : Int)), (10, tD (rI .i64) (i : Int)), (14, tD (rSl (rSl rpDValue)) e), (15, tD (rI .i64) (e.length : Int)), (16, tD (rI .i64) (i1 : Int))]) (fun i1  h => ?_) (fun e1 tl1 ih1 i1  h => ?_) e 0  ⟨rfl, h⟩) ⟨rfl, rfl, rfl, rfl, rfl, rfl, rfl, rfl, trivial⟩
  ·obtain ⟨hx1, h⟩ := h
   refine aq ?_;refine CG.seq ?_;refine CG.region ?_;refine RG.op (ay (ht rfl) (ht rfl)) rfl ?_;refine RG.nil ?_;refine AT.next ?_;refine CG.seq ?_;refine aM (ht rfl) (bH hx1) ?_;refine CG.exit ?_;refine ah (ah (av ?_));refine AT.next ?_;refine CG.region ?_;refine RG.op (ac (ht rfl)) rfl ?_;refine RG.op (ac (ht rfl)) rfl ?_;refine RG.op (au Tryz.underlying54 (ht rfl)) rfl ?_;refine RG.op (ok_max2 (ht rfl) (ht rfl)) rfl ?_;refine RG.op (aa (ht rfl)) rfl ?_;refine RG.nil ?_;refine ap ?_;refine AT.next ?_;refine CG.region ?_;refine RG.op (aP (bA hx hN) (ht rfl) hI) rfl ?_;refine RG.op (ac (ht rfl)) rfl ?_;refine RG.nil ?_;exact AT.round (LG.sub (ih (i + 1) (max n (e.length : Int)) ⟨bG hx, h⟩) ⟨rfl, rfl, rfl, rfl, trivial⟩)
  ·obtain ⟨hx1, h⟩ := h
   refine aq ?_;refine CG.seq ?_;refine CG.region ?_;refine RG.op (ay (ht rfl) (ht rfl)) rfl ?_;refine RG.nil ?_;refine AT.next ?_;refine CG.seq ?_;refine aL (ht rfl) (bz hx1) ?_;refine CG.skip ?_;refine AT.next ?_;refine CG.seq ?_;refine CG.block ?_;refine CG.seq ?_;refine CG.region ?_;refine RG.op (am Tryz.underlying54 cr rfl (ht rfl) (ht rfl) (bc hx1)) rfl ?_;refine RG.op (ai cr rfl rfl (ht rfl)) rfl ?_;refine RG.op (aa (ht rfl)) rfl ?_;refine RG.nil ?_;refine AT.next ?_;refine CG.seq ?_;refine CG.region ?_;refine RG.op (ac (ht rfl)) rfl ?_
   obtain ⟨r, q_r, h⟩ := bs h
   refine RG.op (ax cb82 (f82_ok _ q_r) ⟨(ht rfl), trivial⟩) rfl ?_;refine RG.op (bq (ht rfl)) rfl ?_;refine RG.nil ?_;refine AT.next ?_;refine CG.cond (ht rfl) (fun hc => ?_) (fun hc => ?_)
   ·have h := ct h hc;refine CG.seq ?_;refine CG.region ?_;refine RG.op (aa hI) rfl ?_;refine RG.nil ?_;refine AT.next ?_;refine CG.ret ?_;refine al (ae (ae (al (ae (al (ae (ae (al (ae ?_)))))))));cases so h;exact ak rfl rfl
   ·have h := cf h hc;refine CG.skip ?_;refine ap ?_;refine AT.next ?_;refine CG.region ?_;refine RG.op (aP (bA hx1 hN1) (ht rfl) hI) rfl ?_;refine RG.op (ac (ht rfl)) rfl ?_;refine RG.nil ?_;exact AT.round (LG.sub (ih1 (i1 + 1)  ⟨bG hx1, h⟩) ⟨rfl, rfl, rfl, rfl, rfl, rfl, rfl, rfl, trivial⟩)

set_option maxRecDepth 100000 in
theorem f146_ok (c : Int) {R : Bool} (h : jg c = some R) : Spec Tryz.prog 146 [tD (rI .i64) c] (tD rB R) := by
 refine Spec.of Tryz.func146 rfl rfl rfl fun w0 S0 => ?_;refine CG.seq ?_;refine CG.region ?_;refine RG.op (aa hB) rfl ?_;refine RG.nil ?_;refine AT.next ?_;refine CG.seq ?_;refine CG.region ?_;refine RG.op (ac (ht rfl)) rfl ?_;refine RG.op (ay (ht rfl) hI) rfl ?_;refine RG.op (aa (ht rfl)) rfl ?_;refine RG.nil ?_;refine AT.next ?_;refine CG.ret ?_;cases so h;exact ak rfl rfl

set_option maxRecDepth 100000 in
theorem f168_ok (s : (List Int)) (f : (Int → Option Bool)) {R : Int} (h : dC s f = some R) : Spec Tryz.prog 168 [tD (rSl (rI .i64)) s, (cU Tryz.prog (fun (x : Int) => [tD (rI .i64) x]) (fun (x : Bool) => tD rB x) (fun (x : Int) => f x))] (tD (rI .i64) R) := by
 refine Spec.of Tryz.func168 rfl rfl rfl fun w0 S0 => ?_;refine CG.seq ?_;refine CG.region ?_;refine RG.op (aa hI) rfl ?_;refine RG.nil ?_;refine AT.next ?_;refine CG.seq ?_;refine CG.seq ?_;refine CG.region ?_;refine RG.op (ac (ht rfl)) rfl ?_;refine RG.op (au Tryz.underlying28 (ht rfl)) rfl ?_;refine RG.op (ac hI) rfl ?_;refine RG.nil ?_;refine AT.next ?_;refine CG.block ?_;refine aC (k := 6) rfl (fun hN => ?_);refine CG.loop ?_;refine LG.sub (bf (Z := fun ls i  => (s.drop i = ls) ∧ bK f ls i  = some R) (Of := fun _ i  => []) (Gf := fun _ i  => [(0, tD (rSl (rI .i64)) s), (1, (cU Tryz.prog (fun (x : Int) => [tD (rI .i64) x]) (fun (x : Bool) => tD rB x) (fun (x : Int) => f x))), (7, tD (rI .i64) (s.length : Int)), (8, tD (rI .i64) (i : Int))]) (fun i  h => ?_) (fun e tl ih i  h => ?_) s 0  ⟨rfl, h⟩) ⟨rfl, rfl, rfl, rfl, trivial⟩
 ·obtain ⟨hx, h⟩ := h
  refine aq ?_;refine CG.seq ?_;refine CG.region ?_;refine RG.op (ay (ht rfl) (ht rfl)) rfl ?_;refine RG.nil ?_;refine AT.next ?_;refine CG.seq ?_;refine aM (ht rfl) (bH hx) ?_;refine CG.exit ?_;refine ah (ah (av ?_));refine AT.next ?_;refine CG.seq ?_;refine CG.region ?_;refine RG.op (aa hI) rfl ?_;refine RG.nil ?_;refine AT.next ?_;refine CG.ret ?_;cases so h;exact ak rfl rfl
 ·obtain ⟨hx, h⟩ := h
  refine aq ?_;refine CG.seq ?_;refine CG.region ?_;refine RG.op (ay (ht rfl) (ht rfl)) rfl ?_;refine RG.nil ?_;refine AT.next ?_;refine CG.seq ?_;refine aL (ht rfl) (bz hx) ?_;refine CG.skip ?_;refine AT.next ?_;refine CG.seq ?_;refine CG.block ?_;refine CG.seq ?_;refine CG.region ?_;refine RG.op (ac (ht rfl)) rfl ?_;refine RG.op (aa (ht rfl)) rfl ?_;refine RG.nil ?_;refine AT.next ?_;refine CG.seq ?_;refine CG.region ?_;refine RG.op (ac (ht rfl)) rfl ?_;refine RG.op (ac (ht rfl)) rfl ?_;refine RG.op (ac (ht rfl)) rfl ?_;refine RG.op (am Tryz.underlying28 ti3 rfl (ht rfl) (ht rfl) (bc hx)) rfl ?_;refine RG.op (ai ti3 rfl rfl (ht rfl)) rfl ?_
  obtain ⟨r, q_r, h⟩ := bs h
  refine RG.op (dj (args := (fun (x : Int) => [tD (rI .i64) x])) (res := (fun (x : Bool) => tD rB x)) (f := (fun (x : Int) => f x)) (x := ((e) : Int)) (ht rfl) q_r ⟨(ht rfl), trivial⟩) rfl ?_;refine RG.nil ?_;refine AT.next ?_;refine CG.cond (ht rfl) (fun hc => ?_) (fun hc => ?_)
  ·have h := ct h hc;refine CG.seq ?_;refine CG.region ?_;refine RG.op (ac (ht rfl)) rfl ?_;refine RG.op (aa (ht rfl)) rfl ?_;refine RG.nil ?_;refine AT.next ?_;refine CG.ret ?_;refine al (ae (ae (al (ae ?_))));cases so h;exact ak rfl rfl
  ·have h := cf h hc;refine CG.skip ?_;refine ap ?_;refine AT.next ?_;refine CG.region ?_;refine RG.op (aP (bA hx hN) (ht rfl) hI) rfl ?_;refine RG.op (ac (ht rfl)) rfl ?_;refine RG.nil ?_;exact AT.round (LG.sub (ih (i + 1)  ⟨bG hx, h⟩) ⟨rfl, rfl, rfl, rfl, trivial⟩)

set_option maxRecDepth 100000 in
theorem f147_ok (s : (List Int)) (f : (Int → Option Bool)) {R : Bool} (h : bL s f = some R) : Spec Tryz.prog 147 [tD (rSl (rI .i64)) s, (cU Tryz.prog (fun (x : Int) => [tD (rI .i64) x]) (fun (x : Bool) => tD rB x) (fun (x : Int) => f x))] (tD rB R) := by
 refine Spec.of Tryz.func147 rfl rfl rfl fun w0 S0 => ?_;refine CG.seq ?_;refine CG.region ?_;refine RG.op (aa hB) rfl ?_;refine RG.nil ?_;refine AT.next ?_;refine CG.seq ?_;refine CG.region ?_;refine RG.op (ac (ht rfl)) rfl ?_;refine RG.op (ac (ht rfl)) rfl ?_
 obtain ⟨r, q_r, h⟩ := bs h
 refine RG.op (ax cb168 (f168_ok _ _ q_r) ⟨(ht rfl), (ht rfl), trivial⟩) rfl ?_;refine RG.op (eO (ht rfl) hI) rfl ?_;refine RG.op (aa (ht rfl)) rfl ?_;refine RG.nil ?_;refine AT.next ?_;refine CG.ret ?_;cases so h;exact ak rfl rfl

set_option maxRecDepth 100000 in
theorem f169_ok (r : (List DValue)) (c : Int) {R : Bool} (h : row_has_1 r c = some R) : Spec Tryz.prog 169 [tD (rI .i64) c, aF (rSl rpDValue) r] (tD rB R) := by
 refine Spec.of Tryz.func169 rfl rfl rfl fun w0 S0 => ?_;refine CG.seq ?_;refine CG.region ?_;refine RG.op (aa hB) rfl ?_;refine RG.nil ?_;refine AT.next ?_;refine CG.seq ?_;refine CG.region ?_;refine RG.op (ac (ht rfl)) rfl ?_;refine RG.op (ay (ht rfl) hI) rfl ?_;refine RG.op (ac (ht rfl)) rfl ?_;refine aE rfl rfl rfl rfl (fun hg => ac (ht rfl)) ?_;refine aE rfl rfl rfl rfl (fun hg => ai cr rfl rfl (ht rfl)) ?_;refine aE rfl rfl rfl rfl (fun hg => au Tryz.underlying45 (htO rfl hg)) ?_;refine aE rfl rfl rfl rfl (fun hg => eO (htO rfl hg) (htO rfl hg)) ?_;refine RG.op (cH (ht rfl) (fun hb => (htO rfl (fV hb)))) rfl ?_;refine RG.op (aa (ht rfl)) rfl ?_;refine RG.nil ?_;refine AT.next ?_;refine CG.ret ?_;cases so h;exact ak rfl rfl

set_option maxRecDepth 100000 in
theorem f148_ok (r : (List DValue)) (columns : (List Int)) {R : Bool} (h : row_has r columns = some R) : Spec Tryz.prog 148 [tD (rSl rpDValue) r, tD (rSl (rI .i64)) columns] (tD rB R) := by
 refine Spec.of Tryz.func148 rfl rfl rfl fun w0 S0 => ?_;refine CG.seq ?_;refine CG.region ?_;refine RG.op (aS (ht rfl)) rfl ?_;refine RG.op (aa hB) rfl ?_;refine RG.nil ?_;refine AT.next ?_;refine CG.seq ?_;refine CG.region ?_;refine RG.op ((show OpOK _ _ _ _ ((cU Tryz.prog (fun (x : Int) => [tD (rI .i64) x]) (fun (x : Bool) => tD rB x) (fun (x : Int) => (row_has_1 r) x))) from jq (cts := [aF (rSl rpDValue) r]) (caps := [.tmp 2]) cb169 ⟨(ht rfl), trivial⟩ (fun x y h => f169_ok _ _ h))) rfl ?_;refine RG.op (aa (ht rfl)) rfl ?_;refine RG.nil ?_;refine AT.next ?_;refine CG.seq ?_;refine CG.region ?_;refine RG.op (ac (ht rfl)) rfl ?_;refine RG.op (au Tryz.underlying28 (ht rfl)) rfl ?_;refine RG.op (kr (ht rfl) hI) rfl ?_;refine RG.op (ac (ht rfl)) rfl ?_
 obtain ⟨t, q_t, h⟩ := bs h
 refine aw rfl rfl rfl rfl (fun hg => ac (ht rfl)) ?_;refine aw rfl rfl rfl rfl (fun hg => ac (ht rfl)) ?_
 obtain ⟨r1, h1t, h0t⟩ := og q_t
 have q_r1g := fun hb => (h1t hb).1
 refine aw rfl rfl rfl rfl (fun hg => ax cb147 (f147_ok _ _ (q_r1g hg)) ⟨(htO rfl hg), (htO rfl hg), trivial⟩) ?_;refine aw rfl rfl rfl rfl (fun hg => bq (htO rfl hg)) ?_;refine RG.op (bw (ht rfl) (fun hb => (htO rfl hb)) (fun hb => (h1t hb).2) h0t) rfl ?_;refine RG.op (aa (ht rfl)) rfl ?_;refine RG.nil ?_;refine AT.next ?_;refine CG.ret ?_;cases so h;exact ak rfl rfl

set_option maxRecDepth 100000 in
theorem f115_ok (l : (List (List DValue))) (columns : (List Int)) {R : Int} (h : row_asked l columns = some R) : Spec Tryz.prog 115 [tD (rSl (rSl rpDValue)) l, tD (rSl (rI .i64)) columns] (tD (rI .i64) R) := by
 refine Spec.of Tryz.func115 rfl rfl rfl fun w0 S0 => ?_;refine CG.seq ?_;refine CG.region ?_;refine RG.op (aa hI) rfl ?_;refine RG.nil ?_;refine AT.next ?_;refine CG.seq ?_;refine CG.seq ?_;refine CG.region ?_;refine RG.op (ac (ht rfl)) rfl ?_;refine RG.op (aO (r := (rSl (rSl rpDValue))) (ys := [l]) (xs := [.tmp 9]) Tryz.underlying25 cM rfl rfl rfl rfl rfl ⟨(ht rfl), trivial⟩) rfl ?_
 obtain ⟨r, q_r, h⟩ := bs h
 refine RG.op (ax cb56 (f56_ok _ q_r) ⟨(ht rfl), trivial⟩) rfl ?_;refine RG.op (aa (ht rfl)) rfl ?_;refine RG.nil ?_;refine AT.next ?_;refine CG.seq ?_;refine CG.region ?_;refine RG.op (ac (ht rfl)) rfl ?_;refine RG.op (aW (ht rfl) hI) rfl ?_;refine RG.nil ?_;refine AT.next ?_;refine CG.cond (ht rfl) (fun hc => ?_) (fun hc => ?_)
 ·have h := ct h hc;refine CG.seq ?_;refine CG.region ?_;refine RG.op (ac (ht rfl)) rfl ?_;refine RG.op (aa (ht rfl)) rfl ?_;refine RG.nil ?_;refine AT.next ?_;refine CG.ret ?_;refine ae ?_;cases so h;exact ak rfl rfl
 ·have h := cf h hc;refine CG.skip ?_;refine AT.next ?_;refine CG.seq ?_;refine CG.region ?_;refine RG.op (aa (show aA _ _ _ ((cU Tryz.prog (fun (x : Int) => [tD (rI .i64) x]) (fun (x : Bool) => tD rB x) (fun (x : Int) => jg x))) from (hFn cb146 fun x y h => f146_ok _ h))) rfl ?_;refine RG.nil ?_;refine AT.next ?_;refine CG.seq ?_;refine CG.seq ?_;refine CG.region ?_;refine RG.op (ac (ht rfl)) rfl ?_;refine RG.op (au Tryz.underlying28 (ht rfl)) rfl ?_;refine RG.op (bV (ht rfl) hI) rfl ?_;refine RG.op (ac (ht rfl)) rfl ?_
  obtain ⟨t, q_t, h⟩ := bs h
  refine aE rfl rfl rfl rfl (fun hg => ac (ht rfl)) ?_;refine aE rfl rfl rfl rfl (fun hg => ac (ht rfl)) ?_
  obtain ⟨r1, h1t, h0t⟩ := og q_t
  have q_r1g := fun hb => (h1t hb).1
  refine aE rfl rfl rfl rfl (fun hg => ax cb147 (f147_ok _ _ (q_r1g hg)) ⟨(htO rfl hg), (htO rfl hg), trivial⟩) ?_;refine RG.op (bX (ht rfl) (fun hb => (htO rfl (fV hb))) (fun hb => (h1t hb).2) h0t) rfl ?_;refine RG.nil ?_;refine AT.next ?_;refine CG.cond (ht rfl) (fun hc => ?_) (fun hc => ?_)
  ·have h := ct h hc;refine CG.seq ?_;refine CG.region ?_;refine RG.op (aa hI) rfl ?_;refine RG.nil ?_;refine AT.next ?_;refine CG.ret ?_;refine ae ?_;cases so h;exact ak rfl rfl
  ·have h := cf h hc;refine CG.skip ?_;refine AT.next ?_;refine CG.seq ?_;refine CG.seq ?_;refine CG.region ?_;refine RG.op (ac (ht rfl)) rfl ?_;refine RG.op (au Tryz.underlying54 (ht rfl)) rfl ?_;refine RG.op (ac hI) rfl ?_;refine RG.nil ?_;refine AT.next ?_;refine CG.block ?_;refine aC (k := 23) rfl (fun hN => ?_);refine CG.loop ?_;refine LG.sub (bf (Z := fun ls i  => (l.drop i = ls) ∧ iy columns ls  = some R) (Of := fun _ i  => []) (Gf := fun _ i  => [(1, tD (rSl (rI .i64)) columns), (23, tD (rSl (rSl rpDValue)) l), (24, tD (rI .i64) (l.length : Int)), (25, tD (rI .i64) (i : Int))]) (fun i  h => ?_) (fun e tl ih i  h => ?_) l 0  ⟨rfl, h⟩) ⟨rfl, rfl, rfl, rfl, trivial⟩
   ·obtain ⟨hx, h⟩ := h
    refine aq ?_;refine CG.seq ?_;refine CG.region ?_;refine RG.op (ay (ht rfl) (ht rfl)) rfl ?_;refine RG.nil ?_;refine AT.next ?_;refine CG.seq ?_;refine aM (ht rfl) (bH hx) ?_;refine CG.exit ?_;refine ah (ah (av ?_));refine AT.next ?_;refine CG.seq ?_;refine CG.region ?_;refine RG.op (aa hI) rfl ?_;refine RG.nil ?_;refine AT.next ?_;refine CG.ret ?_;cases so h;exact ak rfl rfl
   ·obtain ⟨hx, h⟩ := h
    refine aq ?_;refine CG.seq ?_;refine CG.region ?_;refine RG.op (ay (ht rfl) (ht rfl)) rfl ?_;refine RG.nil ?_;refine AT.next ?_;refine CG.seq ?_;refine aL (ht rfl) (bz hx) ?_;refine CG.skip ?_;refine AT.next ?_;refine CG.seq ?_;refine CG.block ?_;refine CG.seq ?_;refine CG.region ?_;refine RG.op (am Tryz.underlying54 cr rfl (ht rfl) (ht rfl) (bc hx)) rfl ?_;refine RG.op (ai cr rfl rfl (ht rfl)) rfl ?_;refine RG.op (aa (ht rfl)) rfl ?_;refine RG.nil ?_;refine AT.next ?_;refine CG.seq ?_;refine CG.region ?_;refine RG.op (ac (ht rfl)) rfl ?_;refine RG.op (ac (ht rfl)) rfl ?_
    obtain ⟨r2, q_r2, h⟩ := bs h
    refine RG.op (ax cb148 (f148_ok _ _ q_r2) ⟨(ht rfl), (ht rfl), trivial⟩) rfl ?_;refine RG.op (bq (ht rfl)) rfl ?_;refine RG.nil ?_;refine AT.next ?_;refine CG.cond (ht rfl) (fun hc => ?_) (fun hc => ?_)
    ·have h := ct h hc;refine CG.seq ?_;refine CG.region ?_;refine RG.op (aa hI) rfl ?_;refine RG.nil ?_;refine AT.next ?_;refine CG.ret ?_;refine al (ae (ae (al (ae ?_))));cases so h;exact ak rfl rfl
    ·have h := cf h hc;refine CG.skip ?_;refine ap ?_;refine AT.next ?_;refine CG.region ?_;refine RG.op (aP (bA hx hN) (ht rfl) hI) rfl ?_;refine RG.op (ac (ht rfl)) rfl ?_;refine RG.nil ?_;exact AT.round (LG.sub (ih (i + 1)  ⟨bG hx, h⟩) ⟨rfl, rfl, rfl, rfl, trivial⟩)

set_option maxRecDepth 100000 in
theorem f116_own (r : (List DValue)) (columns : (List Int)) {R : (List DValue)} (h : jI r columns = some R) : SpecO Tryz.prog 116 [tD (rSl rpDValue) r, tD (rSl (rI .i64)) columns] false rpDValue 89 R := by
 refine SpecO.of Tryz.func116 rfl rfl rfl fun w0 S0 => ?_;refine CG.seq ?_;refine CG.region ?_;refine RG.fresh false rpDValue 89 ?_;refine RG.op (aa hVn) rfl ?_;refine RG.nil ?_;refine AT.next ?_;refine CG.seq ?_;refine CG.region ?_;refine RG.fresh false rpDValue 89 ?_;refine RG.op (aa hVn) rfl ?_;refine RG.nil ?_;refine AT.next ?_;refine CG.seq ?_;refine CG.seq ?_;refine CG.region ?_;refine RG.op (ac (ht rfl)) rfl ?_;refine RG.op (au Tryz.underlying28 (ht rfl)) rfl ?_;refine RG.op (ac hI) rfl ?_;refine RG.nil ?_;refine AT.next ?_;refine CG.block ?_;refine aC (k := 8) rfl (fun hN => ?_);refine CG.loop ?_;refine fh ?_;refine LG.drop ?_;refine LG.sub (i9 (Z := fun ls i out l c => (columns.drop i = ls) ∧ g9 r ls out = some R) (Of := fun _ i out l c => [arr rpDValue 89 l c out]) (Gf := fun _ i out l c => [(0, tD (rSl rpDValue) r), (5, tV (aD l c out.length)), (8, tD (rSl (rI .i64)) columns), (9, tD (rI .i64) (columns.length : Int)), (10, tD (rI .i64) (i : Int))]) (fun i out l c h => ?_) (fun e tl ih i out l c h => ?_) columns 0 ([] : List DValue) none 0 ⟨rfl, h⟩) ⟨rfl, rfl, rfl, rfl, rfl, trivial⟩
 ·obtain ⟨hx, h⟩ := h
  refine aq ?_;refine CG.seq ?_;refine CG.region ?_;refine RG.op (ay (ht rfl) (ht rfl)) rfl ?_;refine RG.nil ?_;refine AT.next ?_;refine CG.seq ?_;refine aM (ht rfl) (bH hx) ?_;refine CG.exit ?_;refine ah (ah (av ?_));refine AT.next ?_;refine CG.seq ?_;refine CG.region ?_;refine RG.op (ac (ht rfl)) rfl ?_;refine RG.op (aa (ht rfl)) rfl ?_;refine RG.nil ?_;refine AT.next ?_;refine CG.ret ?_;cases so h;exact iI rfl rfl
 ·obtain ⟨hx, h⟩ := h
  refine aq ?_;refine CG.seq ?_;refine CG.region ?_;refine RG.op (ay (ht rfl) (ht rfl)) rfl ?_;refine RG.nil ?_;refine AT.next ?_;refine CG.seq ?_;refine aL (ht rfl) (bz hx) ?_;refine CG.skip ?_;refine AT.next ?_;refine CG.seq ?_;refine CG.block ?_;refine CG.seq ?_;refine CG.region ?_;refine RG.op (am Tryz.underlying28 ti3 rfl (ht rfl) (ht rfl) (bc hx)) rfl ?_;refine RG.op (ai ti3 rfl rfl (ht rfl)) rfl ?_;refine RG.op (aa (ht rfl)) rfl ?_;refine RG.nil ?_;refine AT.next ?_;refine CG.region ?_;refine RG.op (ac (ht rfl)) rfl ?_;refine RG.op (ac (ht rfl)) rfl ?_;refine RG.op (ac (ht rfl)) rfl ?_
  obtain ⟨e1, q_e1, h⟩ := bs h
  refine RG.op (am Tryz.underlying45 b9 rfl (ht rfl) (ht rfl) q_e1) rfl ?_;refine RG.op (ai b9 rfl rfl (ht rfl)) rfl ?_;refine RG.op (aO (r := rpDValue) (ys := [e1]) (xs := [.tmp 18]) Tryz.underlying45 b9 rfl rfl rfl rfl rfl ⟨(ht rfl), trivial⟩) rfl ?_
  obtain ⟨out1, q_out1, h⟩ := bs h
  refine RG.append b9 rfl rfl rfl rfl Tryz.underlying45 rfl rfl (ht rfl) (ht rfl) q_out1 (fun l1 c1 => ?_);refine RG.op (aa (ht rfl)) rfl ?_;refine RG.nil ?_;refine ap ?_;refine AT.next ?_;refine CG.region ?_;refine RG.op (aP (bA hx hN) (ht rfl) hI) rfl ?_;refine RG.op (ac (ht rfl)) rfl ?_;refine RG.nil ?_;exact AT.round (LG.sub (ih (i + 1) out1 l1 c1 ⟨bG hx, h⟩) ⟨rfl, rfl, rfl, rfl, rfl, trivial⟩)
set_option maxRecDepth 100000 in
theorem f95_ok (r : (List DValue)) (columns : (List Int)) {R : (List DValue) × Int} (h : row_Take r columns = some R) : Spec Tryz.prog 95 [tD (rSl rpDValue) r, tD (rSl (rI .i64)) columns] (tT [tD (rSl rpDValue) R.1, tD (rI .i64) R.2]) := by
 refine Spec.of Tryz.func95 rfl rfl rfl fun w0 S0 => ?_;refine CG.seq ?_;refine CG.region ?_;refine RG.op (aa (show aA _ _ _ (tD (rSl rpDValue) ([])) from hNil)) rfl ?_;refine RG.op (aa hI) rfl ?_;refine RG.nil ?_;refine AT.next ?_;refine CG.seq ?_;refine CG.seq ?_;refine CG.region ?_;refine RG.op (ac (ht rfl)) rfl ?_;refine RG.op (aO (r := (rSl rpDValue)) (ys := [r]) (xs := [.tmp 7]) Tryz.underlying54 cr rfl rfl rfl rfl rfl ⟨(ht rfl), trivial⟩) rfl ?_;refine RG.op (ac (ht rfl)) rfl ?_
 obtain ⟨r1, q_r1, h⟩ := bs h
 refine RG.op (ax cb115 (f115_ok _ _ q_r1) ⟨(ht rfl), (ht rfl), trivial⟩) rfl ?_;refine RG.op (aa (ht rfl)) rfl ?_;refine RG.nil ?_;refine AT.next ?_;refine CG.seq ?_;refine CG.region ?_;refine RG.op (ac (ht rfl)) rfl ?_;refine RG.op (aW (ht rfl) hI) rfl ?_;refine RG.nil ?_;refine AT.next ?_;refine CG.cond (ht rfl) (fun hc => ?_) (fun hc => ?_)
 ·have h := ct h hc;refine CG.seq ?_;refine CG.region ?_;refine RG.op (ac (ht rfl)) rfl ?_;refine RG.op (aa (show aA _ _ _ (tD (rSl rpDValue) ([])) from hNil)) rfl ?_;refine RG.op (aa (ht rfl)) rfl ?_;refine RG.nil ?_;refine AT.next ?_;refine CG.ret ?_;refine ae ?_;cases so h;exact gW rfl rfl rfl
 ·have h := cf h hc;refine CG.skip ?_;refine AT.next ?_;refine CG.seq ?_;refine CG.region ?_;refine RG.op (ac (ht rfl)) rfl ?_;refine RG.op (ac (ht rfl)) rfl ?_
  obtain ⟨r2, q_r2, h⟩ := bs h
  refine eV cb116 (f116_own _ _ q_r2) ⟨(ht rfl), (ht rfl), trivial⟩ rfl (fun l c => ?_);refine RG.op (aa (ht rfl)) rfl ?_;refine RG.op (aa hI) rfl ?_;refine RG.nil ?_;refine AT.next ?_;refine CG.ret ?_;refine AT.freeze ?_;refine AT.tipAt 4 rfl ?_;refine AT.tipAt 16 rfl ?_;refine AT.dataAt 4 rfl ?_;refine AT.drop ?_;cases so h;exact gW rfl rfl rfl

end Go.Proofs.YtegigakgcnhiaaaGreatDoor

