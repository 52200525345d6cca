/- Facts of this claim: F. -/
import Derived.Test.YtegigakgcnhiaaaGreatDoorLdD
import Derived.Test.YtegigakgcnhiaaaGreatDoorLdV4
import Derived.Lib.MapU
namespace Go.Proofs.YtegigakgcnhiaaaGreatDoor
open Go

def jV (c : Int) : Option Bool :=
 some ((decide ((97 : Int) ≤ c)) && (decide (c ≤ (122 : Int))))

def bv (v : Str) : List Str → Nat → Option Int
 | [], i =>
  some (-1 : Int)
 | e :: tl, i =>
  if (v == e) then
  (some (i : Int))
  else
  ((bv v tl) (i + 1))

def dc (s : (List Str)) (v : Str) : Option Int :=
 bv v s 0

def cC (s : (List Str)) (v : Str) : Option Bool :=
 (dc s v).bind fun r =>
 some (decide ((0 : Int) ≤ r))

def kw (s : Str) : Option Bool :=
 (cC gv1 s).bind fun r =>
 some r

def cN (s : Str) : Option Str := if s.length < 35184372088832 then some (Lib.toUpperD s) else none

def lex_digit (c : Int) : Option Bool :=
 some ((decide ((48 : Int) ≤ c)) && (decide (c ≤ (57 : Int))))

def fD : List (Int × Int) → Option Bool
  | [] =>
    some true
  | e :: tl =>
    (lex_digit e.2).bind fun r3 =>
    (if (!r3) then ((jV e.2).bind fun r4 =>
    some (!r4)) else some false).bind fun t2 =>
    if (t2 && (e.2 != (95 : Int))) then
    (some false)
    else
    ((fD tl))

def gI (s : Str) : Option Bool :=
  (if (!((s == ([])) || (decide ((16 : Int) < (s.length : Int))))) then ((idxS s (0 : Int)).bind fun b =>
  (jV (IntKind.i32.wrap b)).bind fun r =>
  some (!r)) else some true).bind fun t =>
  (if (!t) then ((cN s).bind fun r1 =>
  (kw r1).bind fun r2 =>
  some r2) else some true).bind fun t1 =>
  if t1 then
  (some false)
  else
  (fD (runes s))

def aU (f : (DColumn → Option Bool)) : List DColumn → Nat → Option Int
 | [], i =>
  some (-1 : Int)
 | e :: tl, i =>
  (f e).bind fun r =>
  if r then
  (some (i : Int))
  else
  ((aU f tl) (i + 1))

def bO (s : (List DColumn)) (f : (DColumn → Option Bool)) : Option Int :=
 aU f s 0

def bB (of : (DColumn → Option Str)) (name : Str) (p : DColumn) : Option Bool :=
 (of p).bind fun r =>
 some (r == name)

def cK (l : (List DColumn)) (of : (DColumn → Option Str)) (name : Str) : Option (Int × Bool) :=
 (bO l (bB of name)).bind fun r =>
 some ((max r (0 : Int)), decide ((0 : Int) ≤ r))

def bR (l : (List DColumn)) (of : (DColumn → Option Str)) : List DColumn → Nat → Option Bool
  | [], i =>
    some true
  | e :: tl, i =>
    (of e).bind fun r =>
    (cK l of r).bind fun r1 =>
    (if (!(r1.1 != (i : Int))) then ((of e).bind fun r2 =>
    (gI r2).bind fun r3 =>
    some (!r3)) else some true).bind fun t =>
    if t then
    (some false)
    else
    ((bR l of tl) (i + 1))

def dV (l : (List DColumn)) (of : (DColumn → Option Str)) : Option Bool :=
 bR l of l 0

def bF (c : DColumn) : Option Str :=
 some c.Name

def cR (kind : Int) : Nat → Nat → Option Str
 | 0, i =>
  some ([])
 | k1 + 1, i =>
  (idx gv0 (i : Int)).bind fun e1 =>
  if (e1.kind == kind) then
  (some e1.word)
  else
  ((cR kind k1) (i + 1))

def iG (kind : Int) : Option Str :=
 cR kind 3 0

def bJ (t : DTable) : List Int → Nat → Bool → Option Int
  | [], i1, ok1 =>
    if (!ok1) then
    (some (211 : Int))
    else
    (some (0 : Int))
  | e1 :: tl1, i1, ok1 =>
    (if ((ok1 && (decide ((0 : Int) ≤ e1))) && (decide (e1 < (t.Columns.length : Int)))) then ((if (!((i1 : Int) == (0 : Int))) then ((idx t.Keys (IntKind.i64.wrap ((i1 : Int) - (1 : Int)))).bind fun e2 =>
    some (decide (e2 < e1))) else some true).bind fun t3 =>
    some t3) else some false).bind fun t2 =>
    (bJ t tl1) (i1 + 1) t2

def ca (t : DTable) : List DColumn → Bool → Option Int
  | [], ok =>
    bJ t t.Keys 0 ok
  | e :: tl, ok =>
    (if ok then ((iG e.Kind).bind fun r2 =>
    some (!(r2 == ([])))) else some false).bind fun t4 =>
    (ca t tl) t4

def d5 (t : DTable) : Option Int :=
  (gI t.Name).bind fun r =>
  (if ((r && (decide ((1 : Int) ≤ (t.Columns.length : Int)))) && (decide ((t.Columns.length : Int) ≤ (4 : Int)))) then ((dV t.Columns bF).bind fun r1 =>
  some r1) else some false).bind fun t1 =>
  ca t t.Columns t1

def du (t : DTable) : Option Bool :=
 (d5 t).bind fun r =>
 some (r != (0 : Int))

def aN (f : (DTable → Option Bool)) : List DTable → Nat → Option Int
 | [], i =>
  some (-1 : Int)
 | e :: tl, i =>
  (f e).bind fun r =>
  if r then
  (some (i : Int))
  else
  ((aN f tl) (i + 1))

def bg (s : (List DTable)) (f : (DTable → Option Bool)) : Option Int :=
 aN f s 0

def bN (s : (List DTable)) (f : (DTable → Option Bool)) : Option Bool :=
 (bg s f).bind fun r =>
 some (decide ((0 : Int) ≤ r))

def bI (of : (DTable → Option Str)) (name : Str) (p : DTable) : Option Bool :=
 (of p).bind fun r =>
 some (r == name)

def cW (l : (List DTable)) (of : (DTable → Option Str)) (name : Str) : Option (Int × Bool) :=
 (bg l (bI of name)).bind fun r =>
 some ((max r (0 : Int)), decide ((0 : Int) ≤ r))

def bW (l : (List DTable)) (of : (DTable → Option Str)) : List DTable → Nat → Option Bool
  | [], i =>
    some true
  | e :: tl, i =>
    (of e).bind fun r =>
    (cW l of r).bind fun r1 =>
    (if (!(r1.1 != (i : Int))) then ((of e).bind fun r2 =>
    (gI r2).bind fun r3 =>
    some (!r3)) else some true).bind fun t =>
    if t then
    (some false)
    else
    ((bW l of tl) (i + 1))

def d4 (l : (List DTable)) (of : (DTable → Option Str)) : Option Bool :=
 bW l of l 0

def bM (t : DTable) : Option Str :=
 some t.Name

def ep (c : DCatalog) : Option Int :=
  (if (!(decide ((4 : Int) < (c.Tables.length : Int)))) then ((bN c.Tables du).bind fun r =>
  some r) else some true).bind fun t =>
  (if (!t) then ((d4 c.Tables bM).bind fun r1 =>
  some (!r1)) else some true).bind fun t1 =>
  if t1 then
  (some (210 : Int))
  else
  (some (0 : Int))

def da (v1 : DValue) : Option DValue :=
 some v1

def fZ (v2 : DValue) : Option DValue :=
 da (DValue.mk (0 : Int) v2.N v2.U v2.S)

def fY (v : DValue) : Option DValue :=
 fZ (DValue.mk v.Kind (0 : Int) v.U v.S)

def fX (v3 : DValue) : Option DValue :=
 da v3

def value_blank (v : DValue) : Option DValue :=
  if (v.Kind == (1 : Int)) then
  (if ((v.N != (0 : Int)) && (v.N != (1 : Int))) then
  (da v)
  else
  (fY v))
  else
  (if (v.Kind == (2 : Int)) then
  (fY v)
  else
  (if (v.Kind == (0 : Int)) then
  (fZ v)
  else
  (if (v.Kind == (3 : Int)) then
  (if (decide ((v.S.length : Int) ≤ (40 : Int))) then
  (fX (DValue.mk (0 : Int) v.N v.U ([])))
  else
  (fX v))
  else
  (if (v.Kind == (4 : Int)) then
  (da (DValue.mk (0 : Int) (0 : Int) (0 : Int) v.S))
  else
  (da v)))))

def gX (v : DValue) : Option Int :=
 (value_blank v).bind fun r =>
 if (!decide (r = (⟨(0 : Int), (0 : Int), (0 : Int), []⟩ : DValue))) then
 (some (120 : Int))
 else
 (some (0 : Int))

def dS (kinds : (List Int)) (nx : Option Bool) : List DValue → Nat → Option Bool
  | [], i1 =>
    nx
  | e1 :: tl1, i1 =>
    (gX e1).bind fun r =>
    (if (!(r != (0 : Int))) then ((if (e1.Kind != (0 : Int)) then ((idx kinds (i1 : Int)).bind fun e2 =>
    some (e1.Kind != e2)) else some false).bind fun t1 =>
    some t1) else some true).bind fun t =>
    if t then
    (some false)
    else
    ((dS kinds nx tl1) (i1 + 1))

def dT (kinds : (List Int)) : List (List DValue) → Option Bool
 | [] =>
  some true
 | e :: tl =>
  if ((e.length : Int) != (kinds.length : Int)) then
  (some false)
  else
  (dS kinds (dT kinds tl) e 0)

def jy (rows : (List (List DValue))) (kinds : (List Int)) : Option Bool :=
 if (decide ((12 : Int) < (rows.length : Int))) then
 (some false)
 else
 (dT kinds rows)

def cq (b : DBase) (nx : Nat → Option Int) (i : Nat) : List DColumn → (List Int) → Option Int
 | [], kinds =>
  (idx b.Tables (i : Int)).bind fun e2 =>
  (jy e2 kinds).bind fun r1 =>
  if (!r1) then
  (some (250 : Int))
  else
  (nx (i + 1))
 | e1 :: tl1, kinds =>
  (app kinds ([e1.Kind])).bind fun kinds1 =>
  (cq b nx i tl1) kinds1

def b7 (b : DBase) : List DTable → Nat → Option Int
 | [], i =>
  some (0 : Int)
 | e :: tl, i =>
  cq b (b7 b tl) i e.Columns ([] : List Int)

def dU (c : DCatalog) (b : DBase) : Option Int :=
  (ep c).bind fun r =>
  if (r != (0 : Int)) then
  (some r)
  else
  (if ((b.Tables.length : Int) != (c.Tables.length : Int)) then
  (some (250 : Int))
  else
  (b7 b c.Tables 0))

def iZ (c1 : Int) (i1 : Int) : Option Int :=
 (nz c1).bind fun _ =>
 (nz c1).bind fun _ =>
 some (IntKind.i64.wrap ((((IntKind.i64.wrap (((i1).tmod c1) + c1))).tmod c1) + (1 : Int)))

def eM (c : (List Int)) (c1 : Int) (i : Int) : Option Int :=
  if (decide ((0 : Int) < (c.length : Int))) then
  ((nz (c.length : Int)).bind fun _ =>
  (idx c ((i).tmod (c.length : Int))).bind fun e =>
  iZ c1 e)
  else
  (iZ c1 i)

def hY (c : DCatalog) (nodes : Int) : Option DLayout := (jB nodes (⟨[]⟩ : DBase)).bind fun z => (jB (c.Tables.length : Int) ([] : List (List DValue))).bind fun zs => some ⟨z.map fun _ => ⟨zs⟩⟩

def hJ (v : DValue) : Option Bool :=
 (gX v).bind fun r =>
 some (r != (0 : Int))

def a6 (f : (DValue → Option Bool)) : List DValue → Nat → Option Int
 | [], i =>
  some (-1 : Int)
 | e :: tl, i =>
  (f e).bind fun r =>
  if r then
  (some (i : Int))
  else
  ((a6 f tl) (i + 1))

def dd (s : (List DValue)) (f : (DValue → Option Bool)) : Option Int :=
 a6 f s 0

def bU (s : (List DValue)) (f : (DValue → Option Bool)) : Option Bool :=
 (dd s f).bind fun r =>
 some (decide ((0 : Int) ≤ r))

def row_right (r : (List DValue)) : Option Bool :=
  (if (decide ((r.length : Int) ≤ (16 : Int))) then ((bU r hJ).bind fun r1 =>
  some (!r1)) else some false).bind fun t =>
  some t

def gc (nx : Int → Option Int) (e : (List (List DValue))) (n : Int) : List (List DValue) → Option Int
 | [] =>
  nx (max n (e.length : Int))
 | e1 :: tl1 =>
  (row_right e1).bind fun r =>
  if (!r) then
  (some (150 : Int))
  else
  ((gc nx e n tl1))

def dy : List (List (List DValue)) → Int → Option Int
 | [], n =>
  if (decide ((8000 : Int) < n)) then
  (some (3 : Int))
  else
  (some (0 : Int))
 | e :: tl, n =>
  gc (dy tl) e n e

def row_lists (l : (List (List (List DValue)))) : Option Int :=
 dy l (0 : Int)

def jg (c : Int) : Option Bool :=
 some (decide (c < (0 : Int)))

def bK (f : (Int → Option Bool)) : List Int → Nat → Option Int
 | [], i =>
  some (-1 : Int)
 | e :: tl, i =>
  (f e).bind fun r =>
  if r then
  (some (i : Int))
  else
  ((bK f tl) (i + 1))

def dC (s : (List Int)) (f : (Int → Option Bool)) : Option Int :=
 bK f s 0

def bL (s : (List Int)) (f : (Int → Option Bool)) : Option Bool :=
 (dC s f).bind fun r =>
 some (decide ((0 : Int) ≤ r))

def row_has_1 (r : (List DValue)) (c : Int) : Option Bool :=
 some ((decide (c < (0 : Int))) || (decide ((r.length : Int) ≤ c)))

def row_has (r : (List DValue)) (columns : (List Int)) : Option Bool :=
  (if (decide ((columns.length : Int) ≤ (16 : Int))) then ((bL columns (row_has_1 r)).bind fun r1 =>
  some (!r1)) else some false).bind fun t =>
  some t

def iy (columns : (List Int)) : List (List DValue) → Option Int
 | [] =>
  some (0 : Int)
 | e :: tl =>
  (row_has e columns).bind fun r2 =>
  if (!r2) then
  (some (2 : Int))
  else
  ((iy columns tl))

def row_asked (l : (List (List DValue))) (columns : (List Int)) : Option Int :=
  (row_lists ([l])).bind fun r =>
  if (r != (0 : Int)) then
  (some r)
  else
  ((if (!(decide ((16 : Int) < (columns.length : Int)))) then ((bL columns jg).bind fun r1 =>
  some r1) else some true).bind fun t =>
  if t then
  (some (2 : Int))
  else
  (iy columns l))

def g9 (r : (List DValue)) : List Int → (List DValue) → Option (List DValue)
 | [], out =>
  some out
 | e :: tl, out =>
  (idx r e).bind fun e1 =>
  (app out ([e1])).bind fun out1 =>
  (g9 r tl) out1

def jI (r : (List DValue)) (columns : (List Int)) : Option (List DValue) :=
 g9 r columns ([] : List DValue)

def row_Take (r : (List DValue)) (columns : (List Int)) : Option ((List DValue) × Int) :=
  (row_asked ([r]) columns).bind fun r1 =>
  if (r1 != (0 : Int)) then
  (some ([], r1))
  else
  ((jI r columns).bind fun r2 =>
  some (r2, (0 : Int)))

def eg (n : Int) : Nat → (List Int) → Int → Option (List Int)
  | 0, _, _ => none
  | n1 + 1, b1, i =>
    if (decide ((0 : Int) ≤ i)) then
    ((ge0 i).bind fun u =>
    (app b1 ([(IntKind.u8.wrap ((n).fdiv (2 ^ (min (Int.toNat i) IntKind.u64.bits))))])).bind fun b2 =>
    (eg n n1) b2 (IntKind.i64.wrap (i - (8 : Int))))
    else
    (some b1)

def kd (b : (List Int)) (n : Int) : Option (List Int) :=
 eg n bp b (56 : Int)

def j6 (nx1 : Int → (List Int) → Option (List Int)) (n2 : Int) : Nat → Int → (List Int) → Option (List Int)
  | 0, _, _ => none
  | n4 + 1, x, out2 =>
    if (decide (x < n2)) then
    ((idx out2 n2).bind fun e4 =>
    (idx out2 x).bind fun e5 =>
    (idx out2 (IntKind.i64.wrap (n2 + x))).bind fun e6 =>
    (some (out2.set (IntKind.i64.wrap (n2 + x)).toNat (fm .xor .u32 e4 e5))).bind fun ar3 =>
    (j6 nx1 n2 n4) (IntKind.i64.wrap (x + (1 : Int))) ar3)
    else
    (nx1 (IntKind.i64.wrap (n2 * (2 : Int))) out2)

def iu : Nat → Int → (List Int) → Option (List Int)
 | 0, _, _ => none
 | n3 + 1, n2, out1 =>
  if (decide (n2 < (256 : Int))) then
  (j6 (iu n3) n2 bp (0 : Int) out1)
  else
  (some out1)

def iv : Nat → Int → (List Int) → Option (List Int)
  | 0, _, _ => none
  | n1 + 1, n, out =>
    if (decide ((0 : Int) < n)) then
    ((idx out (IntKind.i64.wrap ((2 : Int) * n))).bind fun e1 =>
    (idx out n).bind fun e2 =>
    (some (out.set n.toNat ((e1).fdiv (2 ^ (min (Int.toNat (1 : Int)) IntKind.u32.bits))))).bind fun ar1 =>
    if ((fm .and .u32 e1 (1 : Int)) == (1 : Int)) then
    ((idx ar1 n).bind fun e3 =>
    (some (ar1.set n.toNat (fm .xor .u32 e3 (2197175160 : Int)))).bind fun ar2 =>
    (iv n1) (IntKind.i64.wrap ((n).tdiv (2 : Int))) ar2)
    else
    ((iv n1) (IntKind.i64.wrap ((n).tdiv (2 : Int))) ar1))
    else
    (iu bp (2 : Int) out)

def sum_steps : Option (List Int) :=
 (idx (List.replicate 256 (0 : Int)) (128 : Int)).bind fun e =>
 (some ((List.replicate 256 (0 : Int)).set (128 : Int).toNat (2197175160 : Int))).bind fun ar =>
 iv bp (64 : Int) ar

def jf (register : Int) (table : (List Int)) (c : Int) : Option Int :=
 (idx table (fm .xor .u8 (IntKind.u8.wrap register) c)).bind fun e =>
 some (fm .xor .u32 ((register).fdiv (2 ^ (min (Int.toNat (8 : Int)) IntKind.u32.bits))) e)

def eZ (r : (List Int)) : List Int → Int → Option Int
 | [], register =>
  some (fm .xor .u32 (if IntKind.u32.signed then -1 else IntKind.u32.max) register)
 | e :: tl, register =>
  (jf register r e).bind fun r1 =>
  (eZ r tl) r1

def sum_Sum32 (b : (List Int)) : Option Int :=
 (sum_steps).bind fun r =>
 eZ r b (4294967295 : Int)

def fP : List DValue → (List Int) → Option Int
 | [], b =>
  (sum_Sum32 b).bind fun r1 =>
  some r1
 | e :: tl, b =>
  (app b ([(IntKind.u8.wrap e.Kind)])).bind fun b2 =>
  (kd b2 (IntKind.u64.wrap e.N)).bind fun r2 =>
  (kd r2 e.U).bind fun r3 =>
  (app r3 ([(IntKind.u8.wrap (e.S.length : Int))])).bind fun l3 =>
  (app l3 (dG e.S)).bind fun b3 =>
  (fP tl) b3

def jK (r : (List DValue)) : Option Int :=
 fP r ([] : List Int)

def row_Hash (r : (List DValue)) (columns : (List Int)) : Option (Int × Int) :=
  (row_Take r columns).bind fun r1 =>
  if (r1.2 != (0 : Int)) then
  (some ((0 : Int), r1.2))
  else
  ((jK r1.1).bind fun r2 =>
  some (r2, (0 : Int)))

def iX (t : DTable) (r : (List DValue)) (nodes : Int) : Option Int :=
  if ((t.Keys.length : Int) == (0 : Int)) then
  (some (0 : Int))
  else
  ((row_Hash r t.Keys).bind fun r1 =>
  (nz (IntKind.u32.wrap nodes)).bind fun _ =>
  some (IntKind.i64.wrap ((IntKind.i64.wrap ((r1.1).tmod (IntKind.u32.wrap nodes))) + (1 : Int))))

def aY (s : (List DValue)) : Option (List DValue) :=
 (app ([] : List DValue) s).bind fun x =>
 some x

def place_put (x : List DBase) (node : Int) (table : Int) (r : (List DValue)) : Option (List DBase) :=
 (idx x (IntKind.i64.wrap (node - (1 : Int)))).bind fun e =>
 (idx e.Tables table).bind fun e1 =>
 (aY r).bind fun r1 =>
 (app e1 ([r1])).bind fun l1 =>
 some (xset (fun y : DBase => y.Tables) (fun z => (⟨z⟩ : DBase)) x (IntKind.i64.wrap (node - (1 : Int))).toNat table.toNat l1)

def kq (i1 : Nat) (nx1 : Nat → (List DBase) → Option (DLayout × Int)) (i2 : Nat) (e1 : (List DValue)) (x1 : List DBase) (n : Int) : Option (DLayout × Int) :=
 (place_put x1 n (i1 : Int) e1).bind fun x2 =>
 nx1 (i2 + 1) x2

def gn (c : DCatalog) (nodes : Int) (spread : (List Int)) (nx : Nat → (List DBase) → Option (DLayout × Int)) (i1 : Nat) : List (List DValue) → Nat → (List DBase) → Option (DLayout × Int)
  | [], i2, x1 =>
    nx (i1 + 1) x1
  | e1 :: tl1, i2, x1 =>
    (idx c.Tables (i1 : Int)).bind fun e2 =>
    (iX e2 e1 nodes).bind fun r3 =>
    if (r3 == (0 : Int)) then
    (((eM spread nodes) (i2 : Int)).bind fun r4 =>
    kq i1 (gn c nodes spread nx i1 tl1) i2 e1 x1 r4)
    else
    (kq i1 (gn c nodes spread nx i1 tl1) i2 e1 x1 r3)

def gp (c : DCatalog) (nodes : Int) (spread : (List Int)) : List (List (List DValue)) → Nat → (List DBase) → Option (DLayout × Int)
 | [], i1, x =>
  some ((⟨x⟩ : DLayout), (0 : Int))
 | e :: tl, i1, x =>
  gn c nodes spread (gp c nodes spread tl) i1 e 0 x

def place_Lay (c : DCatalog) (b : DBase) (nodes : Int) (spread : (List Int)) : Option (DLayout × Int) :=
  (ep c).bind fun r =>
  if (r != (0 : Int)) then
  (some ((⟨[]⟩ : DLayout), (210 : Int)))
  else
  ((dU c b).bind fun r1 =>
  if (r1 != (0 : Int)) then
  (some ((⟨[]⟩ : DLayout), (250 : Int)))
  else
  (if ((decide (nodes < (1 : Int))) || (decide ((8 : Int) < nodes))) then
  (some ((⟨[]⟩ : DLayout), (2 : Int)))
  else
  ((hY c nodes).bind fun r2 =>
  gp c nodes spread b.Tables 0 r2.Parts)))

def dO {Sg : Type} (yld : (Dcell × (List DValue)) → Sg → Option (Bool × Sg)) (i : Nat) (nx1 : Nat → Sg → Option Sg) (i1 : Nat) : List (List DValue) → Nat → Sg → Option Sg
 | [], i2, s3 =>
  nx1 (i1 + 1) s3
 | e6 :: tl2, i2, s3 =>
  (yld ((⟨((i + 1 : Nat) : Int), (i1 : Int), (i2 : Int)⟩ : Dcell), e6) s3).bind fun r =>
  if (!r.1) then
  (some r.2)
  else
  ((dO yld i nx1 i1 tl2) (i2 + 1) r.2)

def dh {Sg : Type} (yld : (Dcell × (List DValue)) → Sg → Option (Bool × Sg)) (nx : Nat → Sg → Option Sg) (i : Nat) : List (List (List DValue)) → Nat → Sg → Option Sg
 | [], i1, s2 =>
  nx (i + 1) s2
 | e4 :: tl1, i1, s2 =>
  dO yld i (dh yld nx i tl1) i1 e4 0 s2

def di {Sg : Type} (yld : (Dcell × (List DValue)) → Sg → Option (Bool × Sg)) : List DBase → Nat → Sg → Option Sg
 | [], i, s1 =>
  some s1
 | e2 :: tl, i, s1 =>
  dh yld (di yld tl) i e2.Tables 0 s1

def fR {Sg : Type} (l : DLayout) (yld : (Dcell × (List DValue)) → Sg → Option (Bool × Sg)) (s : Sg) : Option Sg :=
 di yld l.Parts 0 s

def fS (l : DLayout) : Option (It (Dcell × (List DValue))) :=
 some (fun _ => fR l)

def place_Rows_b1 (node : Int) (table : Int) (x : Dcell × (List DValue)) (xs : List (List DValue)) : Option (List (List DValue)) :=
  if ((x.1.node == node) && (x.1.table == table)) then
  ((aY x.2).bind fun r =>
  (app xs ([r])).bind fun l2 =>
  some l2)
  else
  (some xs)

def place_Rows (l : DLayout) (node : Int) (table : Int) : Option (List (List DValue)) :=
 (fS l).bind fun it =>
 (it (List (List DValue)) (bodyY (fun x s => place_Rows_b1 node table x s)) ([] : List (List DValue))).bind fun xs1 =>
 some xs1

def eK (x1 : Dcell × (List DValue)) (x2 : Bool) (m : List (Int × Int)) : Option (Option Nat × (Bool × List (Int × Int))) :=
 if (decide ((12 : Int) < ((jb (gH m x1.1.table (IntKind.i64.wrap (((jb m x1.1.table).getD (0 : Int)) + (1 : Int)))) x1.1.table).getD (0 : Int)))) then
 (some (some 0, (false, (gH m x1.1.table (IntKind.i64.wrap (((jb m x1.1.table).getD (0 : Int)) + (1 : Int)))))))
 else
 (some (none, (x2, (gH m x1.1.table (IntKind.i64.wrap (((jb m x1.1.table).getD (0 : Int)) + (1 : Int)))))))

def dN (c : DCatalog) (l : DLayout) : List DBase → Bool → Option Bool
 | [], x =>
  (fS l).bind fun it =>
  ((itU it) (Option Nat × (Bool × List (Int × Int))) (bodyJ (fun x s => eK x s.1 s.2)) (none, (x, ([] : List (Int × Int))))).bind fun r =>
  if r.1.1.isNone then
  (some true)
  else
  (some r.1.2.1)
 | e :: tl, x =>
  (dU c e).bind fun r2 =>
  if (r2 != (0 : Int)) then
  (some false)
  else
  ((dN c l tl) x)

def jn (c : DCatalog) (l : DLayout) : Option Bool :=
 if ((decide ((l.Parts.length : Int) < (1 : Int))) || (decide ((8 : Int) < (l.Parts.length : Int)))) then
 (some false)
 else
 (dN c l l.Parts false)

def hZ (c : DCatalog) (l : DLayout) : Option Int :=
  (ep c).bind fun r =>
  if (r != (0 : Int)) then
  (some (210 : Int))
  else
  ((jn c l).bind fun r1 =>
  if (!r1) then
  (some (270 : Int))
  else
  (some (0 : Int)))

def eL (c : DCatalog) (l : DLayout) (x1 : Dcell × (List DValue)) (x : Bool) : Option (Option Nat × Bool) :=
 (idx c.Tables x1.1.table).bind fun e =>
 (iX e x1.2 (l.Parts.length : Int)).bind fun r2 =>
 if ((decide ((0 : Int) < r2)) && (r2 != x1.1.node)) then
 (some (some 0, false))
 else
 (some (none, x))

def hX (c : DCatalog) (l : DLayout) : Option Bool :=
 (fS l).bind fun it =>
 ((itU it) (Option Nat × Bool) (bodyJ (fun x s => eL c l x s)) (none, false)).bind fun r =>
 if r.1.1.isNone then
 (some true)
 else
 (some r.1.2)

def ia (c : DCatalog) (l : DLayout) : Option Int :=
  (hZ c l).bind fun r =>
  if (r != (0 : Int)) then
  (some r)
  else
  ((hX c l).bind fun r1 =>
  if (!r1) then
  (some (271 : Int))
  else
  (some (0 : Int)))

def eh : List (List DValue) → (List (List DValue)) → Option (List (List DValue))
 | [], out =>
  some out
 | e :: tl, out =>
  (aY e).bind fun r =>
  (app out ([r])).bind fun out1 =>
  (eh tl) out1

def ke (l : (List (List DValue))) : Option (List (List DValue)) :=
 eh l ([] : List (List DValue))

def aG (s1 : (List DValue)) (s2 : (List DValue)) (cmp : (DValue → DValue → Option Int)) : List DValue → Nat → Option Int
  | [], i =>
    if (decide ((s1.length : Int) < (s2.length : Int))) then
    (some (-1 : Int))
    else
    (some (0 : Int))
  | e :: tl, i =>
    if (decide ((s2.length : Int) ≤ (i : Int))) then
    (some (1 : Int))
    else
    ((idx s2 (i : Int)).bind fun e1 =>
    (cmp e e1).bind fun r =>
    if (r != (0 : Int)) then
    (some r)
    else
    ((aG s1 s2 cmp tl) (i + 1)))

def aV (s1 : (List DValue)) (s2 : (List DValue)) (cmp : (DValue → DValue → Option Int)) : Option Int :=
 aG s1 s2 cmp s1 0

def gU : List Int → Option Int
 | [] =>
  some (0 : Int)
 | e :: tl =>
  if (e != (0 : Int)) then
  (some e)
  else
  ((gU tl))

def kD (vals : (List Int)) : Option Int :=
 gU vals

def gT (p : Int) : Option Bool :=
 some (p != p)

def fM (p : Int) (y : Int) : Option Int :=
  (gT p).bind fun r =>
  (gT y).bind fun r1 =>
  if r then
  (if r1 then
  (some (0 : Int))
  else
  (some (-1 : Int)))
  else
  (if r1 then
  (some (1 : Int))
  else
  (if (decide (p < y)) then
  (some (-1 : Int))
  else
  (if (decide (y < p)) then
  (some (1 : Int))
  else
  (some (0 : Int)))))

def fL (p : Int) : Option Bool :=
 some (p != p)

def ey (p : Int) (y : Int) : Option Int :=
  (fL p).bind fun r =>
  (fL y).bind fun r1 =>
  if r then
  (if r1 then
  (some (0 : Int))
  else
  (some (-1 : Int)))
  else
  (if r1 then
  (some (1 : Int))
  else
  (if (decide (p < y)) then
  (some (-1 : Int))
  else
  (if (decide (y < p)) then
  (some (1 : Int))
  else
  (some (0 : Int)))))

def ff (p : Int) : Option Bool :=
 some (p != p)

def dZ (p : Int) (y : Int) : Option Int :=
  (ff p).bind fun r =>
  (ff y).bind fun r1 =>
  if r then
  (if r1 then
  (some (0 : Int))
  else
  (some (-1 : Int)))
  else
  (if r1 then
  (some (1 : Int))
  else
  (if (decide (p < y)) then
  (some (-1 : Int))
  else
  (if (decide (y < p)) then
  (some (1 : Int))
  else
  (some (0 : Int)))))

def fg (p : Str) : Option Bool :=
 some (!(p == p))

def d3 (p : Str) (y : Str) : Option Int :=
  (fg p).bind fun r =>
  (fg y).bind fun r1 =>
  if r then
  (if r1 then
  (some (0 : Int))
  else
  (some (-1 : Int)))
  else
  (if r1 then
  (some (1 : Int))
  else
  (if (Op.bytesLess p y) then
  (some (-1 : Int))
  else
  (if (!(Op.bytesLess p y || p == y)) then
  (some (1 : Int))
  else
  (some (0 : Int)))))

def fN (a1 : DValue) (b : DValue) : Option Int :=
 (fM a1.Kind b.Kind).bind fun r =>
 (ey a1.N b.N).bind fun r1 =>
 (dZ a1.U b.U).bind fun r2 =>
 (d3 a1.S b.S).bind fun r3 =>
 (kD ([r, r1, r2, r3])).bind fun r4 =>
 some r4

def jJ (a1 : (List DValue)) (b : (List DValue)) : Option Int :=
 (aV a1 b fN).bind fun r =>
 some r

def kc (l : (List (List DValue))) : Option (List (List DValue)) :=
 (ke l).bind fun r =>
 (sortF (fun (x : (List DValue) × (List DValue)) => jJ x.1 x.2) r).bind fun srt =>
 some srt

def kf (l : (List (List DValue))) : Option ((List (List DValue)) × Int) :=
  (row_lists ([l])).bind fun r =>
  if (r != (0 : Int)) then
  (some ([], r))
  else
  ((kc l).bind fun r1 =>
  some (r1, (0 : Int)))

def ef (x : Dcell × (List DValue)) (x1 : (List (List (List DValue)))) : Option (Option Nat × (List (List (List DValue)))) :=
 (idx x1 x.1.table).bind fun e1 =>
 (app e1 ([x.2])).bind fun l1 =>
 some (none, (x1.set x.1.table.toNat l1))

def dq : Nat → Nat → (List (List (List DValue))) → Option (DBase × Int)
 | 0, i2, x3 =>
  some (({ (⟨[]⟩ : DBase) with Tables := x3 } : DBase), (0 : Int))
 | k1 + 1, i2, x3 =>
  (idx x3 (i2 : Int)).bind fun e3 =>
  (kf e3).bind fun r4 =>
  (some (x3.set (i2 : Int).toNat r4.1)).bind fun st =>
  (dq k1) (i2 + 1) st

def gq (c : DCatalog) (l : DLayout) : Option (DBase × Int) :=
  (ia c l).bind fun r =>
  if (r != (0 : Int)) then
  (some ((⟨[]⟩ : DBase), r))
  else
  ((hY c (1 : Int)).bind fun r1 =>
  (idx r1.Parts (0 : Int)).bind fun e =>
  (fS l).bind fun it =>
  ((itU it) (Option Nat × (List (List (List DValue)))) (bodyJ (fun x s => ef x s)) (none, e.Tables)).bind fun r2 =>
  if r2.1.1.isNone then
  (dq r2.1.2.length 0 r2.1.2)
  else
  (none))

def law17_one : Option DCatalog :=
 some (⟨[(⟨[117], [(⟨[98], (2 : Int)⟩ : DColumn)], []⟩ : DTable)]⟩ : DCatalog)

def law17_n (k : Int) : Option (List DValue) :=
 some ([(⟨(2 : Int), k, (0 : Int), []⟩ : DValue)])

def law17_wakes : Option Bool :=
  (law17_one).bind fun r =>
  (law17_n (1 : Int)).bind fun r1 =>
  (law17_n (2 : Int)).bind fun r2 =>
  (law17_n (3 : Int)).bind fun r3 =>
  (place_Lay r (⟨[[r1, r2, r3]]⟩ : DBase) (2 : Int) ([])).bind fun r4 =>
  (law17_one).bind fun r5 =>
  (gq r5 r4.1).bind fun r6 =>
  (if ((r4.2 == (0 : Int)) && (r6.2 == (0 : Int))) then ((place_Rows r4.1 (1 : Int) (0 : Int)).bind fun r7 =>
  some ((r7.length : Int) == (2 : Int))) else some false).bind fun t =>
  (if t then ((place_Rows r4.1 (2 : Int) (0 : Int)).bind fun r8 =>
  some ((r8.length : Int) == (1 : Int))) else some false).bind fun t1 =>
  (if (t1 && ((r6.1.Tables.length : Int) == (1 : Int))) then ((idx r6.1.Tables (0 : Int)).bind fun e =>
  some ((e.length : Int) == (3 : Int))) else some false).bind fun t2 =>
  some t2

def cp (nx : Option Bool) : List DColumn → Option Bool
 | [] =>
  nx
 | e1 :: tl1 =>
  if (decide ((60 : Int) < (e1.Name.length : Int))) then
  (some true)
  else
  ((cp nx tl1))

def bY : List DTable → Option Bool
 | [] =>
  some false
 | e :: tl =>
  if (((decide ((60 : Int) < (e.Name.length : Int))) || (decide ((10 : Int) < (e.Columns.length : Int)))) || (decide ((10 : Int) < (e.Keys.length : Int)))) then
  (some true)
  else
  (cp (bY tl) e.Columns)

def fb (c : DCatalog) : Option Bool :=
 if (decide ((10 : Int) < (c.Tables.length : Int))) then
 (some true)
 else
 (bY c.Tables)

def dR : List DValue → Option Bool
 | [] =>
  some false
 | e :: tl =>
  if (decide ((200 : Int) < (e.S.length : Int))) then
  (some true)
  else
  ((dR tl))

def gS (r : (List DValue)) : Option Bool :=
 if (decide ((30 : Int) < (r.length : Int))) then
 (some true)
 else
 (dR r)

def dB (nx : Option Bool) : List (List DValue) → Option Bool
 | [] =>
  nx
 | e1 :: tl1 =>
  (gS e1).bind fun r =>
  if r then
  (some true)
  else
  ((dB nx tl1))

def cI : List (List (List DValue)) → Option Bool
 | [] =>
  some false
 | e :: tl =>
  if (decide ((30 : Int) < (e.length : Int))) then
  (some true)
  else
  (dB (cI tl) e)

def gu (b : DBase) : Option Bool :=
 if (decide ((10 : Int) < (b.Tables.length : Int))) then
 (some true)
 else
 (cI b.Tables)

def hP (c : Int) : Option Bool :=
 some ((decide ((97 : Int) ≤ c)) && (decide (c ≤ (122 : Int))))

def ge (s : Str) : List Str → Option Bool
 | [] =>
  some false
 | e :: tl =>
  if (e == s) then
  (some true)
  else
  ((ge s tl))

def ref07_has (l : (List Str)) (s : Str) : Option Bool :=
 ge s l

def ref07_Words : Option (List Str) :=
 some ([[83, 69, 76, 69, 67, 84], [68, 73, 83, 84, 73, 78, 67, 84], [70, 82, 79, 77], [76, 69, 70, 84], [74, 79, 73, 78], [79, 78], [87, 72, 69, 82, 69], [71, 82, 79, 85, 80], [66, 89], [72, 65, 86, 73, 78, 71], [85, 78, 73, 79, 78], [65, 76, 76], [79, 82, 68, 69, 82], [76, 73, 77, 73, 84], [65, 83, 67], [68, 69, 83, 67], [65, 83], [65, 78, 68], [79, 82], [78, 79, 84], [73, 83], [78, 85, 76, 76], [84, 82, 85, 69], [70, 65, 76, 83, 69], [67, 79, 85, 78, 84], [83, 85, 77], [77, 73, 78], [77, 65, 88]])

def iz (s : Str) : Option Bool :=
 (ref07_Words ).bind fun r =>
 (ref07_has r s).bind fun r1 =>
 some r1

def eI (nx : (List Int) → Int → Option Str) (out : List Int) (i : Int) (c1 : Int) : Option Str :=
 (app out ([c1])).bind fun out1 =>
 nx out1 (IntKind.i64.wrap (i + (1 : Int)))

def df (s : Str) : Nat → (List Int) → Int → Option Str
  | 0, _, _ => none
  | n + 1, out, i =>
    if (decide (i < (s.length : Int))) then
    ((idxS s i).bind fun b =>
    (hP b).bind fun r =>
    if r then
    (eI (df s n) out i (IntKind.u8.wrap ((IntKind.u8.wrap (b - (97 : Int))) + (65 : Int))))
    else
    (eI (df s n) out i b))
    else
    (some (io out))

def jk (s : Str) : Option Str :=
 df s bp ([] : List Int) (0 : Int)

def ref07_digit (c : Int) : Option Bool :=
 some ((decide ((48 : Int) ≤ c)) && (decide (c ≤ (57 : Int))))

def ec (s : Str) : Nat → Int → Option Bool
  | 0, _ => none
  | n + 1, i =>
    if (decide (i < (s.length : Int))) then
    ((idxS s i).bind fun b1 =>
    (hP b1).bind fun r3 =>
    (if (!r3) then ((idxS s i).bind fun b2 =>
    (ref07_digit b2).bind fun r4 =>
    some (!r4)) else some false).bind fun t2 =>
    (if t2 then ((idxS s i).bind fun b3 =>
    some (b3 != (95 : Int))) else some false).bind fun t3 =>
    if t3 then
    (some false)
    else
    ((ec s n) (IntKind.i64.wrap (i + (1 : Int)))))
    else
    (some true)

def gh (s : Str) : Option Bool :=
  (if (!((decide ((s.length : Int) < (1 : Int))) || (decide ((16 : Int) < (s.length : Int))))) then ((idxS s (0 : Int)).bind fun b =>
  (hP b).bind fun r =>
  some (!r)) else some true).bind fun t =>
  (if (!t) then ((jk s).bind fun r1 =>
  (iz r1).bind fun r2 =>
  some r2) else some true).bind fun t1 =>
  if t1 then
  (some false)
  else
  (ec s bp (0 : Int))

def kl (kind : Int) : Option Str :=
  if (kind == (1 : Int)) then
  (some ([98, 111, 111, 108]))
  else
  (if (kind == (2 : Int)) then
  (some ([105, 110, 116]))
  else
  (if (kind == (3 : Int)) then
  (some ([116, 101, 120, 116]))
  else
  (some ([]))))

def cT (t : DTable) (nx : Int → Option Bool) (i : Int) (e : DColumn) : Nat → Int → Option Bool
  | 0, _ => none
  | n1 + 1, k =>
    if (decide (k < i)) then
    ((idx t.Columns k).bind fun e1 =>
    if (e1.Name == e.Name) then
    (some false)
    else
    ((cT t nx i e n1) (IntKind.i64.wrap (k + (1 : Int)))))
    else
    (nx (IntKind.i64.wrap (i + (1 : Int))))

def cS (t : DTable) : Nat → Int → Option Bool
  | 0, _ => none
  | n2 + 1, i1 =>
    if (decide (i1 < (t.Keys.length : Int))) then
    ((idx t.Keys i1).bind fun e2 =>
    (if (!((decide (e2 < (0 : Int))) || (decide ((t.Columns.length : Int) ≤ e2)))) then ((if (decide ((0 : Int) < i1)) then ((idx t.Keys (IntKind.i64.wrap (i1 - (1 : Int)))).bind fun e3 =>
    some (decide (e2 ≤ e3))) else some false).bind fun t3 =>
    some t3) else some true).bind fun t2 =>
    if t2 then
    (some false)
    else
    ((cS t n2) (IntKind.i64.wrap (i1 + (1 : Int)))))
    else
    (some true)

def co (t : DTable) : Nat → Int → Option Bool
  | 0, _ => none
  | n + 1, i =>
    if (decide (i < (t.Columns.length : Int))) then
    ((idx t.Columns i).bind fun e =>
    (gh e.Name).bind fun r1 =>
    (if (!(!r1)) then ((kl e.Kind).bind fun r2 =>
    some (r2 == ([]))) else some true).bind fun t1 =>
    if t1 then
    (some false)
    else
    (cT t (co t n) i e bp (0 : Int)))
    else
    (cS t bp (0 : Int))

def e8 (t : DTable) : Option Bool :=
 (gh t.Name).bind fun r =>
 if (((!r) || (decide ((t.Columns.length : Int) < (1 : Int)))) || (decide ((4 : Int) < (t.Columns.length : Int)))) then
 (some false)
 else
 (co t bp (0 : Int))

def eH (c : DCatalog) (nx : Int → Option Bool) (i : Int) (e : DTable) : Nat → Int → Option Bool
  | 0, _ => none
  | n1 + 1, k =>
    if (decide (k < i)) then
    ((idx c.Tables k).bind fun e1 =>
    if (e1.Name == e.Name) then
    (some false)
    else
    ((eH c nx i e n1) (IntKind.i64.wrap (k + (1 : Int)))))
    else
    (nx (IntKind.i64.wrap (i + (1 : Int))))

def dJ (c : DCatalog) : Nat → Int → Option Bool
  | 0, _ => none
  | n + 1, i =>
    if (decide (i < (c.Tables.length : Int))) then
    ((idx c.Tables i).bind fun e =>
    (e8 e).bind fun r =>
    if (!r) then
    (some false)
    else
    (eH c (dJ c n) i e bp (0 : Int)))
    else
    (some true)

def hM (c : DCatalog) : Option Bool :=
 if (decide ((4 : Int) < (c.Tables.length : Int))) then
 (some false)
 else
 (dJ c bp (0 : Int))

def dX (v : DValue) : Option Bool :=
  if (v.Kind == (0 : Int)) then
  (some (decide (v = (⟨(0 : Int), (0 : Int), (0 : Int), []⟩ : DValue))))
  else
  (if (v.Kind == (1 : Int)) then
  (some (((v.U == (0 : Int)) && (v.S == ([]))) && ((v.N == (0 : Int)) || (v.N == (1 : Int)))))
  else
  (if (v.Kind == (2 : Int)) then
  (some ((v.U == (0 : Int)) && (v.S == ([]))))
  else
  (if (v.Kind == (3 : Int)) then
  (some (((v.N == (0 : Int)) && (v.U == (0 : Int))) && (decide ((v.S.length : Int) ≤ (40 : Int)))))
  else
  (some ((v.Kind == (4 : Int)) && (v.S == ([])))))))

def ei (nx : Option Bool) (e : (List DValue)) : List Int → Nat → Option Bool
 | [], i1 =>
  nx
 | e1 :: tl1, i1 =>
  (idx e (i1 : Int)).bind fun e2 =>
  (dX e2).bind fun r =>
  if ((!r) || ((e2.Kind != (0 : Int)) && (e2.Kind != e1))) then
  (some false)
  else
  ((ei nx e tl1) (i1 + 1))

def ej (kinds : (List Int)) : List (List DValue) → Option Bool
 | [] =>
  some true
 | e :: tl =>
  if ((e.length : Int) != (kinds.length : Int)) then
  (some false)
  else
  (ei (ej kinds tl) e kinds 0)

def kj (l : (List (List DValue))) (kinds : (List Int)) : Option Bool :=
 if (decide ((12 : Int) < (l.length : Int))) then
 (some false)
 else
 (ej kinds l)

def de (c : DCatalog) (b : DBase) (nx : Int → Option Bool) (i : Int) : Nat → (List Int) → Int → Option Bool
  | 0, _, _ => none
  | n1 + 1, kinds, k =>
    (idx c.Tables i).bind fun e =>
    if (decide (k < (e.Columns.length : Int))) then
    ((idx e.Columns k).bind fun e1 =>
    (app kinds ([e1.Kind])).bind fun kinds1 =>
    (de c b nx i n1) kinds1 (IntKind.i64.wrap (k + (1 : Int))))
    else
    ((idx b.Tables i).bind fun e2 =>
    (kj e2 kinds).bind fun r1 =>
    if (!r1) then
    (some false)
    else
    (nx (IntKind.i64.wrap (i + (1 : Int)))))

def cy (c : DCatalog) (b : DBase) : Nat → Int → Option Bool
 | 0, _ => none
 | n + 1, i =>
  if (decide (i < (c.Tables.length : Int))) then
  (de c b (cy c b n) i bp ([] : List Int) (0 : Int))
  else
  (some true)

def eb (c : DCatalog) (b : DBase) : Option Bool :=
 (hM c).bind fun r =>
 if ((!r) || ((b.Tables.length : Int) != (c.Tables.length : Int))) then
 (some false)
 else
 (cy c b bp (0 : Int))

def dD (less : Bool) : Option Int :=
 if less then
 (some (-1 : Int))
 else
 (some (1 : Int))

def fQ (a1 : DValue) (b : DValue) : Option Int :=
  if (a1.Kind != b.Kind) then
  ((dD (decide (a1.Kind < b.Kind))).bind fun r =>
  some r)
  else
  (if (a1.N != b.N) then
  ((dD (decide (a1.N < b.N))).bind fun r1 =>
  some r1)
  else
  (if (a1.U != b.U) then
  ((dD (decide (a1.U < b.U))).bind fun r2 =>
  some r2)
  else
  (if (!(a1.S == b.S)) then
  ((dD (Op.bytesLess a1.S b.S)).bind fun r3 =>
  some r3)
  else
  (some (0 : Int)))))

def dL (a1 : (List DValue)) (b : (List DValue)) : Nat → Int → Option Int
  | 0, _ => none
  | n + 1, i =>
    if ((decide (i < (a1.length : Int))) && (decide (i < (b.length : Int)))) then
    ((idx a1 i).bind fun e =>
    (idx b i).bind fun e1 =>
    (fQ e e1).bind fun r =>
    if (r != (0 : Int)) then
    (some r)
    else
    ((dL a1 b n) (IntKind.i64.wrap (i + (1 : Int)))))
    else
    (if ((a1.length : Int) == (b.length : Int)) then
    (some (0 : Int))
    else
    ((dD (decide ((a1.length : Int) < (b.length : Int)))).bind fun r1 =>
    some r1))

def fC (a1 : (List DValue)) (b : (List DValue)) : Option Int :=
 dL a1 b bp (0 : Int)

def fB (b : (List (List DValue))) : List (List DValue) → Nat → Option Bool
 | [], i =>
  some true
 | e :: tl, i =>
  (idx b (i : Int)).bind fun e1 =>
  (fC e e1).bind fun r =>
  if (r != (0 : Int)) then
  (some false)
  else
  ((fB b tl) (i + 1))

def km (a1 : (List (List DValue))) (b : (List (List DValue))) : Option Bool :=
 if ((a1.length : Int) != (b.length : Int)) then
 (some false)
 else
 (fB b a1 0)

def dz (a1 : DBase) (b : DBase) : Nat → Int → Option Bool
  | 0, _ => none
  | n + 1, i =>
    if (decide (i < (a1.Tables.length : Int))) then
    ((idx a1.Tables i).bind fun e =>
    (idx b.Tables i).bind fun e1 =>
    (km e e1).bind fun r =>
    if (!r) then
    (some false)
    else
    ((dz a1 b n) (IntKind.i64.wrap (i + (1 : Int)))))
    else
    (some true)

def eE (a1 : DBase) (b : DBase) : Option Bool :=
 if ((a1.Tables.length : Int) != (b.Tables.length : Int)) then
 (some false)
 else
 (dz a1 b bp (0 : Int))

def fz (a1 : DLayout) (b : DLayout) : Nat → Int → Option Bool
  | 0, _ => none
  | n + 1, i =>
    if (decide (i < (a1.Parts.length : Int))) then
    ((idx a1.Parts i).bind fun e =>
    (idx b.Parts i).bind fun e1 =>
    (eE e e1).bind fun r =>
    if (!r) then
    (some false)
    else
    ((fz a1 b n) (IntKind.i64.wrap (i + (1 : Int)))))
    else
    (some true)

def kg (a1 : DLayout) (b : DLayout) : Option Bool :=
 if ((a1.Parts.length : Int) != (b.Parts.length : Int)) then
 (some false)
 else
 (fz a1 b bp (0 : Int))

def fA (r : (List DValue)) : List Int → (List DValue) → Option (List DValue)
 | [], out =>
  some out
 | e :: tl, out =>
  (idx r e).bind fun e1 =>
  (app out ([e1])).bind fun out1 =>
  (fA r tl) out1

def ref05_Take (r : (List DValue)) (columns : (List Int)) : Option (List DValue) :=
 fA r columns ([] : List DValue)

def dp : Nat → (List Int) → Int → Option (List Int)
 | 0, out, n1 =>
  some out
 | k1 + 1, out, n1 =>
  (app ([(IntKind.u8.wrap ((n1).tmod (256 : Int)))]) out).bind fun out1 =>
  (dp k1) out1 (IntKind.u64.wrap ((n1).tdiv (256 : Int)))

def gi (n : Int) : Option (List Int) :=
 dp 8 ([] : List Int) n

def iB (register1 : Int) : Option Int :=
 some register1

def ref03_bit (register : Int) (one : Bool) : Option Int :=
 if ((((register).tmod (2 : Int)) == (1 : Int)) != one) then
 (iB (fm .xor .u32 (IntKind.u32.wrap ((register).tdiv (2 : Int))) (2197175160 : Int)))
 else
 (iB (IntKind.u32.wrap ((register).tdiv (2 : Int))))

def dM (nx : Int → Option Int) : Nat → Int → Int → Option Int
 | 0, register1, c =>
  nx register1
 | k1 + 1, register1, c =>
  (ref03_bit register1 (((c).tmod (2 : Int)) == (1 : Int))).bind fun r =>
  (dM nx k1) r (IntKind.u8.wrap ((c).tdiv (2 : Int)))

def dg : List Int → Int → Option Int
 | [], register =>
  some (IntKind.u32.wrap ((4294967295 : Int) - register))
 | e :: tl, register =>
  dM (dg tl) 8 register e

def ref03_Sum32 (b : (List Int)) : Option Int :=
 dg b (4294967295 : Int)

def ek : List DValue → (List Int) → Option Int
 | [], b =>
  (ref03_Sum32 b).bind fun r2 =>
  some r2
 | e :: tl, b =>
  (app b ([(IntKind.u8.wrap e.Kind)])).bind fun b1 =>
  (gi (IntKind.u64.wrap e.N)).bind fun r3 =>
  (app b1 r3).bind fun b2 =>
  (gi e.U).bind fun r4 =>
  (app b2 r4).bind fun b3 =>
  (app b3 ([(IntKind.u8.wrap (e.S.length : Int))])).bind fun b4 =>
  (fits e.S.length).bind fun u =>
  (app b4 (dG e.S)).bind fun b5 =>
  (ek tl) b5

def kn (r : (List DValue)) (columns : (List Int)) : Option Int :=
 (ref05_Take r columns).bind fun r1 =>
 ek r1 ([] : List Int)

def kh (t : DTable) (r : (List DValue)) (nodes : Int) : Option Int :=
  if ((t.Keys.length : Int) == (0 : Int)) then
  (some (0 : Int))
  else
  ((kn r t.Keys).bind fun r1 =>
  (nz nodes).bind fun _ =>
  some (IntKind.i64.wrap ((((IntKind.i64.wrap r1)).tmod nodes) + (1 : Int))))

def fE : List DBase → Option Bool
 | [] =>
  some false
 | e :: tl =>
  (gu e).bind fun r =>
  if r then
  (some true)
  else
  ((fE tl))

def i4 (l : DLayout) : Option Bool :=
 if (decide ((20 : Int) < (l.Parts.length : Int))) then
 (some true)
 else
 (fE l.Parts)

def eG (c : DCatalog) (l : DLayout) (nx : Int → Option Bool) (t : Int) : Nat → Int → Int → Option Bool
  | 0, _, _ => none
  | n2 + 1, n1, i =>
    if (decide (i < (l.Parts.length : Int))) then
    ((idx l.Parts i).bind fun e =>
    (eb c e).bind fun r =>
    if (!r) then
    (some false)
    else
    ((idx e.Tables t).bind fun e1 =>
    (eG c l nx t n2) (IntKind.i64.wrap (n1 + (e1.length : Int))) (IntKind.i64.wrap (i + (1 : Int)))))
    else
    (if (decide ((12 : Int) < n1)) then
    (some false)
    else
    (nx (IntKind.i64.wrap (t + (1 : Int)))))

def eF (c : DCatalog) (l : DLayout) : Nat → Int → Option Bool
  | 0, _ => none
  | n3 + 1, i1 =>
    if (decide (i1 < (l.Parts.length : Int))) then
    ((idx l.Parts i1).bind fun e2 =>
    (eb c e2).bind fun r1 =>
    if (!r1) then
    (some false)
    else
    ((eF c l n3) (IntKind.i64.wrap (i1 + (1 : Int)))))
    else
    (some true)

def cD (c : DCatalog) (l : DLayout) : Nat → Int → Option Bool
 | 0, _ => none
 | n + 1, t =>
  if (decide (t < (c.Tables.length : Int))) then
  (eG c l (cD c l n) t bp (0 : Int) (0 : Int))
  else
  (eF c l bp (0 : Int))

def ji (c : DCatalog) (l : DLayout) : Option Bool :=
 if ((decide ((l.Parts.length : Int) < (1 : Int))) || (decide ((8 : Int) < (l.Parts.length : Int)))) then
 (some false)
 else
 (cD c l bp (0 : Int))

def jj (c : DCatalog) (l : DLayout) : Option Int :=
  (hM c).bind fun r =>
  if (!r) then
  (some (210 : Int))
  else
  ((ji c l).bind fun r1 =>
  if (!r1) then
  (some (270 : Int))
  else
  (some (0 : Int)))

def aQ (s2 : (List (List DValue))) (eq : ((List DValue) → (List DValue) → Option Bool)) : List (List DValue) → Nat → Option Bool
 | [], i =>
  some true
 | e :: tl, i =>
  (idx s2 (i : Int)).bind fun e1 =>
  (eq e e1).bind fun r =>
  if (!r) then
  (some false)
  else
  ((aQ s2 eq tl) (i + 1))

def bn (s1 : (List (List DValue))) (s2 : (List (List DValue))) (eq : ((List DValue) → (List DValue) → Option Bool)) : Option Bool :=
 if ((s1.length : Int) != (s2.length : Int)) then
 (some false)
 else
 (aQ s2 eq s1 0)

def bm (s2 : (List DValue)) : List DValue → Nat → Option Bool
 | [], i =>
  some true
 | e :: tl, i =>
  (idx s2 (i : Int)).bind fun e1 =>
  if (!decide (e = e1)) then
  (some false)
  else
  ((bm s2 tl) (i + 1))

def cw (s1 : (List DValue)) (s2 : (List DValue)) : Option Bool :=
 if ((s1.length : Int) != (s2.length : Int)) then
 (some false)
 else
 (bm s2 s1 0)

def jL (a1 : (List DValue)) (b : (List DValue)) : Option Bool :=
 (cw a1 b).bind fun r =>
 some r

def row_Same (a1 : (List (List DValue))) (b : (List (List DValue))) : Option Bool :=
 (bn a1 b jL).bind fun r =>
 some r

def jo (c : DCatalog) (l : DLayout) : Option (Bool × Int) :=
  (hZ c l).bind fun r =>
  if (r != (0 : Int)) then
  (some (false, r))
  else
  ((hX c l).bind fun r1 =>
  some (r1, (0 : Int)))

def aI (s2 : (List DBase)) (eq : (DBase → DBase → Option Bool)) : List DBase → Nat → Option Bool
 | [], i =>
  some true
 | e :: tl, i =>
  (idx s2 (i : Int)).bind fun e1 =>
  (eq e e1).bind fun r =>
  if (!r) then
  (some false)
  else
  ((aI s2 eq tl) (i + 1))

def bh (s1 : (List DBase)) (s2 : (List DBase)) (eq : (DBase → DBase → Option Bool)) : Option Bool :=
 if ((s1.length : Int) != (s2.length : Int)) then
 (some false)
 else
 (aI s2 eq s1 0)

def aK (s2 : (List (List (List DValue)))) (eq : ((List (List DValue)) → (List (List DValue)) → Option Bool)) : List (List (List DValue)) → Nat → Option Bool
 | [], i =>
  some true
 | e :: tl, i =>
  (idx s2 (i : Int)).bind fun e1 =>
  (eq e e1).bind fun r =>
  if (!r) then
  (some false)
  else
  ((aK s2 eq tl) (i + 1))

def bi (s1 : (List (List (List DValue)))) (s2 : (List (List (List DValue)))) (eq : ((List (List DValue)) → (List (List DValue)) → Option Bool)) : Option Bool :=
 if ((s1.length : Int) != (s2.length : Int)) then
 (some false)
 else
 (aK s2 eq s1 0)

def gm (p : DBase) (y : DBase) : Option Bool :=
 (bi p.Tables y.Tables row_Same).bind fun r =>
 some r

def iY (a1 : DLayout) (b : DLayout) : Option Bool :=
 (bh a1.Parts b.Parts gm).bind fun r =>
 some r

def eJ : List DValue → Option Bool
 | [] =>
  some true
 | e :: tl =>
  (dX e).bind fun r1 =>
  if (!r1) then
  (some false)
  else
  ((eJ tl))

def jm (r : (List DValue)) : Option Bool :=
 if (decide ((16 : Int) < (r.length : Int))) then
 (some false)
 else
 (eJ r)

def dK (l : (List (List DValue))) : List (List DValue) → Option Int
 | [] =>
  if (decide ((8000 : Int) < (l.length : Int))) then
  (some (3 : Int))
  else
  (some (0 : Int))
 | e :: tl =>
  (jm e).bind fun r =>
  if (!r) then
  (some (150 : Int))
  else
  ((dK l tl))

def ref05_Error (l : (List (List DValue))) : Option Int :=
 dK l l

def gv (nx : Option Bool) : List (List (List DValue)) → Option Bool
 | [] =>
  nx
 | e1 :: tl1 =>
  (ref05_Error e1).bind fun r =>
  if (r != (0 : Int)) then
  (some false)
  else
  ((gv nx tl1))

def fc : List DBase → Option Bool
 | [] =>
  some true
 | e :: tl =>
  gv (fc tl) e.Tables

def law17_all (l : DLayout) : Option Bool :=
 fc l.Parts

def dH (c : DCatalog) (l : DLayout) (n : Int) (nx1 : Int → Option Bool) (t : Int) : List (List DValue) → Option Bool
 | [] =>
  nx1 (IntKind.i64.wrap (t + (1 : Int)))
 | e2 :: tl =>
  (idx c.Tables t).bind fun e3 =>
  (kh e3 e2 (l.Parts.length : Int)).bind fun r =>
  if ((decide ((0 : Int) < r)) && (r != (IntKind.i64.wrap (n + (1 : Int))))) then
  (some false)
  else
  ((dH c l n nx1 t tl))

def dI (c : DCatalog) (l : DLayout) (nx : Int → Option Bool) (n : Int) : Nat → Int → Option Bool
  | 0, _ => none
  | n2 + 1, t =>
    if (decide (t < (c.Tables.length : Int))) then
    ((idx l.Parts n).bind fun e =>
    (idx e.Tables t).bind fun e1 =>
    dH c l n (dI c l nx n n2) t e1)
    else
    (nx (IntKind.i64.wrap (n + (1 : Int))))

def cE (c : DCatalog) (l : DLayout) : Nat → Int → Option Bool
 | 0, _ => none
 | n1 + 1, n =>
  if (decide (n < (l.Parts.length : Int))) then
  (dI c l (cE c l n1) n bp (0 : Int))
  else
  (some true)

def ref17_Obeys (c : DCatalog) (l : DLayout) : Option Bool :=
 cE c l bp (0 : Int)

def ee (nx : (List (List DValue)) → Option (List (List DValue))) (next1 : List (List DValue)) : Option (List (List DValue)) :=
 nx next1

def ed (nx1 : (List (List DValue)) → Bool → Option (List (List DValue))) (e1 : (List DValue)) (next3 : List (List DValue)) (done1 : Bool) : Option (List (List DValue)) :=
 (app next3 ([e1])).bind fun next4 =>
 nx1 next4 done1

def bS (nx : (List (List DValue)) → Option (List (List DValue))) (e : (List DValue)) : List (List DValue) → (List (List DValue)) → Bool → Option (List (List DValue))
  | [], next, done =>
    if (!done) then
    ((app next ([e])).bind fun next2 =>
    ee nx next2)
    else
    (ee nx next)
  | e1 :: tl1, next, done =>
    (if (!done) then ((fC e e1).bind fun r =>
    some (decide (r < (0 : Int)))) else some false).bind fun t =>
    if t then
    ((app next ([e])).bind fun next5 =>
    ed (bS nx e tl1) e1 next5 true)
    else
    (ed (bS nx e tl1) e1 next done)

def cu : List (List DValue) → (List (List DValue)) → Option (List (List DValue))
 | [], out =>
  some out
 | e :: tl, out =>
  bS (cu tl) e out ([] : List (List DValue)) false

def iA (l : (List (List DValue))) : Option (List (List DValue)) :=
 cu l ([])

def ea (l : DLayout) (nx : Int → DBase → Option DBase) (t : Int) (out : DBase) : Nat → (List (List DValue)) → Int → Option DBase
  | 0, _, _ => none
  | n2 + 1, rows, n1 =>
    if (decide (n1 < (l.Parts.length : Int))) then
    ((idx l.Parts n1).bind fun e =>
    (idx e.Tables t).bind fun e1 =>
    (app rows e1).bind fun rows1 =>
    (ea l nx t out n2) rows1 (IntKind.i64.wrap (n1 + (1 : Int))))
    else
    ((iA rows).bind fun r =>
    (app out.Tables ([r])).bind fun l4 =>
    nx (IntKind.i64.wrap (t + (1 : Int))) ({ out with Tables := l4 } : DBase))

def cO (c : DCatalog) (l : DLayout) : Nat → Int → DBase → Option DBase
 | 0, _, _ => none
 | n + 1, t, out =>
  if (decide (t < (c.Tables.length : Int))) then
  (ea l (cO c l n) t out bp ([] : List (List DValue)) (0 : Int))
  else
  (some out)

def ki (c : DCatalog) (l : DLayout) : Option DBase :=
 cO c l bp (0 : Int) ({ (⟨[]⟩ : DBase) with Tables := ([] : List (List (List DValue))) } : DBase)

def dY (c : DCatalog) (l : DLayout) (o : DLayout) : Option Bool :=
  (law17_wakes).bind fun r =>
  if (!r) then
  (some false)
  else
  ((fb c).bind fun r1 =>
  (if (!r1) then ((i4 l).bind fun r2 =>
  some r2) else some true).bind fun t =>
  (if (!t) then ((i4 o).bind fun r3 =>
  some r3) else some true).bind fun t1 =>
  if t1 then
  (some true)
  else
  ((ia c l).bind fun r4 =>
  (jo c l).bind fun r5 =>
  (gq c l).bind fun r6 =>
  (iY l o).bind fun r7 =>
  (kg l o).bind fun r8 =>
  (if (r7 != r8) then ((law17_all l).bind fun r9 =>
  some r9) else some false).bind fun t2 =>
  (if t2 then ((law17_all o).bind fun r10 =>
  some r10) else some false).bind fun t3 =>
  (if (!t3) then ((iY l l).bind fun r11 =>
  some (!r11)) else some true).bind fun t4 =>
  if t4 then
  (some false)
  else
  ((jj c l).bind fun r12 =>
  if (r12 != (0 : Int)) then
  (some (((((r4 == r12) && (!r5.1)) && (r5.2 == r12)) && ((r6.1.Tables.length : Int) == (0 : Int))) && (r6.2 == r12)))
  else
  ((ref17_Obeys c l).bind fun r13 =>
  if (!r13) then
  (some (((((r4 == (271 : Int)) && (!r5.1)) && (r5.2 == (0 : Int))) && ((r6.1.Tables.length : Int) == (0 : Int))) && (r6.2 == (271 : Int))))
  else
  ((if ((((r4 == (0 : Int)) && r5.1) && (r5.2 == (0 : Int))) && (r6.2 == (0 : Int))) then ((ki c l).bind fun r14 =>
  (eE r6.1 r14).bind fun r15 =>
  some r15) else some false).bind fun t5 =>
  some t5)))))

end Go.Proofs.YtegigakgcnhiaaaGreatDoor

