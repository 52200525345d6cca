/- Facts of this claim: F. -/
import Derived.Test.YtdhledkpgaeoaaaDoorKgD
import Derived.Test.YtdhledkpgaeoaaaDoorKgV3
namespace Go.Proofs.YtdhledkpgaeoaaaDoor
open Go

def expr_parts (tag : Int) : Option Int :=
  if ((tag == (1 : Int)) || (tag == (2 : Int))) then
  (some (0 : Int))
  else
  (if ((decide ((4 : Int) ≤ tag)) && (decide (tag ≤ (7 : Int)))) then
  (some (1 : Int))
  else
  (if ((decide ((12 : Int) ≤ tag)) && (decide (tag ≤ (23 : Int)))) then
  (some (2 : Int))
  else
  (some (-1 : Int))))

def value_blank_k1 (v1 : DValue) : Option DValue :=
  some v1

def value_blank_k2 (v2 : DValue) : Option DValue :=
  value_blank_k1 (DValue.mk (0 : Int) v2.N v2.U v2.S)

def value_blank_k3 (v : DValue) : Option DValue :=
  value_blank_k2 (DValue.mk v.Kind (0 : Int) v.U v.S)

def value_blank_k4 (v3 : DValue) : Option DValue :=
  value_blank_k1 v3

def value_blank (v : DValue) : Option DValue :=
  if (v.Kind == (1 : Int)) then
  (if ((v.N != (0 : Int)) && (v.N != (1 : Int))) then
  (value_blank_k1 v)
  else
  (value_blank_k3 v))
  else
  (if (v.Kind == (2 : Int)) then
  (value_blank_k3 v)
  else
  (if (v.Kind == (0 : Int)) then
  (value_blank_k2 v)
  else
  (if (v.Kind == (3 : Int)) then
  (if (decide ((v.S.length : Int) ≤ (40 : Int))) then
  (value_blank_k4 (DValue.mk (0 : Int) v.N v.U ([])))
  else
  (value_blank_k4 v))
  else
  (if (v.Kind == (4 : Int)) then
  (value_blank_k1 (DValue.mk (0 : Int) (0 : Int) (0 : Int) v.S))
  else
  (value_blank_k1 v)))))

def value_Check (v : DValue) : Option Int :=
  (value_blank v).bind fun r =>
  if (!decide (r = (⟨(0 : Int), (0 : Int), (0 : Int), []⟩ : DValue))) then
  (some (120 : Int))
  else
  (some (0 : Int))

def value_Plain (v : DValue) : Option Bool :=
  (value_Check v).bind fun r =>
  some ((r == (0 : Int)) && (v.Kind != (4 : Int)))

def expr_counts (n : DENode) : Option Bool :=
  if (n.Tag == (1 : Int)) then
  ((value_Plain n.Value).bind fun r =>
  some (r && (n.Col == (0 : Int))))
  else
  (if (n.Tag == (2 : Int)) then
  (some (((decide (n.Value = (⟨(0 : Int), (0 : Int), (0 : Int), []⟩ : DValue))) && (decide ((0 : Int) ≤ n.Col))) && (decide (n.Col < (16 : Int)))))
  else
  (some ((decide (n.Value = (⟨(0 : Int), (0 : Int), (0 : Int), []⟩ : DValue))) && (n.Col == (0 : Int)))))

def expr_firsts_l2 (nx : Nat → (List Int) → (List Int) → Option ((List Int) × Bool)) (i : Nat) (e1 : DENode) (all : List Int) (open1 : List Int) (r : Int) : List Int → Nat → Int → (List Int) → Option ((List Int) × Bool)
  | [], i1, first, at1 =>
    if (!decide (at1 = ([e1.L, e1.R]))) then
    (some ([], false))
    else
    ((app all ([first])).bind fun all1 =>
    (sliceF open1 0 (IntKind.i64.wrap ((open1.length : Int) - r))).bind fun y1 =>
    (app y1 ([(i : Int)])).bind fun open2 =>
    nx (i + 1) all1 open2)
  | e2 :: tl1, i1, first, at1 =>
    (idx all e2).bind fun e3 =>
    (idx at1 (i1 : Int)).bind fun e4 =>
    (some (at1.set (i1 : Int).toNat e2)).bind fun ar =>
    (expr_firsts_l2 nx i e1 all open1 r tl1) (i1 + 1) (min first e3) ar

def expr_firsts_l1 : List DENode → Nat → (List Int) → (List Int) → Option ((List Int) × Bool)
  | [], i, all, open1 =>
    some (all, (((open1.length : Int) == (1 : Int)) && (decide ((all.length : Int) ≤ (1000 : Int)))))
  | e1 :: tl, i, all, open1 =>
    (expr_parts e1.Tag).bind fun r =>
    (if (!((decide (r < (0 : Int))) || (decide ((open1.length : Int) < r)))) then ((expr_counts e1).bind fun r1 =>
    some (!r1)) else some true).bind fun t =>
    if t then
    (some ([], false))
    else
    ((sliceF open1 (IntKind.i64.wrap ((open1.length : Int) - r)) (open1.length : Int)).bind fun y =>
    expr_firsts_l2 (expr_firsts_l1 tl) i e1 all open1 r y 0 (i : Int) ([(-1 : Int), (-1 : Int)]))

def expr_firsts (e : DExpr) : Option ((List Int) × Bool) :=
  expr_firsts_l1 e.Nodes 0 ([] : List Int) ([] : List Int)

def expr_Check (e : DExpr) : Option Int :=
  (expr_firsts e).bind fun r =>
  if (!r.2) then
  (some (200 : Int))
  else
  (some (0 : Int))

def slices_Compact_int_int_l2 (i : Nat) (y : List Int) : Nat → Nat → (List Int) → Int → Option (List Int)
  | 0, i1, s1, k =>
    (sliceF s1 k (s1.length : Int)).bind fun y1 =>
    (some (s1.take k.toNat ++ List.replicate y1.length (0 : Int))).bind fun cl =>
    (sliceF cl 0 k).bind fun y2 =>
    some y2
  | k2 + 1, i1, s1, k =>
    (idxV s1 (i : Int) y.length (i1 : Int)).bind fun e3 =>
    (idxV s1 (i : Int) y.length (IntKind.i64.wrap ((i1 : Int) - (1 : Int)))).bind fun e4 =>
    if (e3 != e4) then
    ((idxV s1 (i : Int) y.length (i1 : Int)).bind fun e5 =>
    (idx s1 k).bind fun e6 =>
    (some (s1.set k.toNat e5)).bind fun st =>
    (slices_Compact_int_int_l2 i y k2) (i1 + 1) st (IntKind.i64.wrap (k + (1 : Int))))
    else
    ((slices_Compact_int_int_l2 i y k2) (i1 + 1) s1 k)

def slices_Compact_int_int_l1 (s : (List Int)) : List Int → Nat → Option (List Int)
  | [], i =>
    some s
  | e :: tl, i =>
    (idx s (IntKind.i64.wrap ((i : Int) - (1 : Int)))).bind fun e1 =>
    if (e == e1) then
    ((sliceF s (i : Int) (s.length : Int)).bind fun y =>
    slices_Compact_int_int_l2 i y (y.length - 1) 1 s (i : Int))
    else
    ((slices_Compact_int_int_l1 s tl) (i + 1))

def slices_Compact_int_int (s : (List Int)) : Option (List Int) :=
  if (decide ((s.length : Int) < (2 : Int))) then
  (some s)
  else
  (slices_Compact_int_int_l1 s (s.drop (1)) 1)

def expr_Cols_l1 : List DENode → (List Int) → Option (List Int)
  | [], out =>
    (sortIF out).bind fun srt =>
    (slices_Compact_int_int srt).bind fun r1 =>
    some r1
  | e1 :: tl, out =>
    if (e1.Tag == (2 : Int)) then
    ((app out ([e1.Col])).bind fun out1 =>
    (expr_Cols_l1 tl) out1)
    else
    ((expr_Cols_l1 tl) out)

def expr_Cols (e : DExpr) : Option (List Int) :=
  (expr_Check e).bind fun r =>
  if (r != (0 : Int)) then
  (some ([] : List Int))
  else
  (expr_Cols_l1 e.Nodes ([] : List Int))

def expr_turned_1 (do1 : (DValue → DValue → Option (DValue × Int))) (a1 : DValue) (b : DValue) : Option (DValue × Int) :=
  (do1 b a1).bind fun r =>
  some (r.1, r.2)

def expr_turned (do1 : (DValue → DValue → Option (DValue × Int))) : Option (DValue → DValue → Option (DValue × Int)) :=
  some (expr_turned_1 do1)

def value_Bool_k1 (v : DValue) : Option DValue :=
  some v

def value_Bool (b : Bool) : Option DValue :=
  if b then
  (value_Bool_k1 (DValue.mk (⟨(1 : Int), (0 : Int), (0 : Int), []⟩ : DValue).Kind (1 : Int) (⟨(1 : Int), (0 : Int), (0 : Int), []⟩ : DValue).U (⟨(1 : Int), (0 : Int), (0 : Int), []⟩ : DValue).S))
  else
  (value_Bool_k1 (⟨(1 : Int), (0 : Int), (0 : Int), []⟩ : DValue))

def value_right_l1 : List DValue → Option Int
  | [] =>
    some (0 : Int)
  | e :: tl =>
    (value_Check e).bind fun r =>
    if (r != (0 : Int)) then
    (some r)
    else
    ((value_right_l1 tl))

def value_right (l : (List DValue)) : Option Int :=
  value_right_l1 l

def value_Null : Option DValue :=
  some (⟨(0 : Int), (0 : Int), (0 : Int), []⟩ : DValue)

def cmp_Or_int_l1 : List Int → Option Int
  | [] =>
    some (0 : Int)
  | e :: tl =>
    if (e != (0 : Int)) then
    (some e)
    else
    ((cmp_Or_int_l1 tl))

def cmp_Or_int (vals : (List Int)) : Option Int :=
  cmp_Or_int_l1 vals

def cmp_isNaN_int (p : Int) : Option Bool :=
  some (p != p)

def cmp_Compare_int (p : Int) (y : Int) : Option Int :=
  (cmp_isNaN_int p).bind fun r =>
  (cmp_isNaN_int y).bind fun r1 =>
  if r then
  (if r1 then
  (some (0 : Int))
  else
  (some (-1 : Int)))
  else
  (if r1 then
  (some (1 : Int))
  else
  (if (decide (p < y)) then
  (some (-1 : Int))
  else
  (if (decide (y < p)) then
  (some (1 : Int))
  else
  (some (0 : Int)))))

def cmp_isNaN_int64 (p : Int) : Option Bool :=
  some (p != p)

def cmp_Compare_int64 (p : Int) (y : Int) : Option Int :=
  (cmp_isNaN_int64 p).bind fun r =>
  (cmp_isNaN_int64 y).bind fun r1 =>
  if r then
  (if r1 then
  (some (0 : Int))
  else
  (some (-1 : Int)))
  else
  (if r1 then
  (some (1 : Int))
  else
  (if (decide (p < y)) then
  (some (-1 : Int))
  else
  (if (decide (y < p)) then
  (some (1 : Int))
  else
  (some (0 : Int)))))

def internal_bytealg_CompareString (a1 : Str) (b : Str) : Option Int :=
  some (cmpB a1 b)

def strings_Compare (a1 : Str) (b : Str) : Option Int :=
  (internal_bytealg_CompareString a1 b).bind fun r =>
  some r

def value_Compare (a1 : DValue) (b : DValue) : Option Int :=
  (value_Plain a1).bind fun r =>
  (if (!(!r)) then ((value_Plain b).bind fun r1 =>
  some (!r1)) else some true).bind fun t =>
  if t then
  (some (0 : Int))
  else
  ((cmp_Compare_int a1.Kind b.Kind).bind fun r2 =>
  (cmp_Compare_int64 a1.N b.N).bind fun r3 =>
  (strings_Compare a1.S b.S).bind fun r4 =>
  (cmp_Or_int ([r2, r3, r4])).bind fun r5 =>
  some r5)

def value_held (a1 : DValue) (b : DValue) (is1 : (Int → Option Bool)) : Option (DValue × Int) :=
  (value_right ([a1, b])).bind fun r =>
  if (r != (0 : Int)) then
  (some ((⟨(0 : Int), (0 : Int), (0 : Int), []⟩ : DValue), r))
  else
  (if (((a1.Kind == (4 : Int)) || (b.Kind == (4 : Int))) || ((!((a1.Kind == (0 : Int)) || (b.Kind == (0 : Int)))) && (a1.Kind != b.Kind))) then
  (some ((⟨(0 : Int), (0 : Int), (0 : Int), []⟩ : DValue), (2 : Int)))
  else
  (if ((a1.Kind == (0 : Int)) || (b.Kind == (0 : Int))) then
  ((value_Null).bind fun r1 =>
  some (r1, (0 : Int)))
  else
  ((value_Compare a1 b).bind fun r2 =>
  (is1 r2).bind fun r3 =>
  (value_Bool r3).bind fun r4 =>
  some (r4, (0 : Int)))))

def value_Less_1 (c : Int) : Option Bool :=
  some (decide (c < (0 : Int)))

def value_Less (a1 : DValue) (b : DValue) : Option (DValue × Int) :=
  (value_held a1 b value_Less_1).bind fun r =>
  some (r.1, r.2)

def expr_first_1 (do1 : (DValue → Option (DValue × Int))) (a1 : DValue) (x : DValue) : Option (DValue × Int) :=
  (do1 a1).bind fun r =>
  some (r.1, r.2)

def expr_first (do1 : (DValue → Option (DValue × Int))) : Option (DValue → DValue → Option (DValue × Int)) :=
  some (expr_first_1 do1)

def value_Int (n : Int) : Option DValue :=
  some (⟨(2 : Int), n, (0 : Int), []⟩ : DValue)

def arith_are_l1 (kind : Int) : List DValue → Int → Option Int
  | [], e =>
    some e
  | e1 :: tl, e =>
    (value_Check e1).bind fun r =>
    if (r != (0 : Int)) then
    (some (120 : Int))
    else
    (if ((e1.Kind != (0 : Int)) && (e1.Kind != kind)) then
    ((arith_are_l1 kind tl) (2 : Int))
    else
    ((arith_are_l1 kind tl) e))

def arith_are (kind : Int) (l : (List DValue)) : Option Int :=
  arith_are_l1 kind l (0 : Int)

def arith_do (a1 : DValue) (b : DValue) (to : (Int → Int → Option (Int × Bool))) : Option (DValue × Int) :=
  (arith_are (2 : Int) ([a1, b])).bind fun r =>
  if (r != (0 : Int)) then
  (some ((⟨(0 : Int), (0 : Int), (0 : Int), []⟩ : DValue), r))
  else
  (if ((a1.Kind == (0 : Int)) || (b.Kind == (0 : Int))) then
  ((value_Null).bind fun r1 =>
  some (r1, (0 : Int)))
  else
  ((to a1.N b.N).bind fun r2 =>
  if (!r2.2) then
  (some ((⟨(0 : Int), (0 : Int), (0 : Int), []⟩ : DValue), (140 : Int)))
  else
  ((value_Int r2.1).bind fun r3 =>
  some (r3, (0 : Int)))))

def arith_Sub_1 (a1 : Int) (b : Int) : Option (Int × Bool) :=
  some ((IntKind.i64.wrap (a1 - b)), decide ((0 : Int) ≤ (bitsOp .and .i64 (bitsOp .xor .i64 a1 b) (bitsOp .xor .i64 a1 (IntKind.i64.wrap (a1 - b))))))

def arith_Sub (a1 : DValue) (b : DValue) : Option (DValue × Int) :=
  (arith_do a1 b arith_Sub_1).bind fun r =>
  some (r.1, r.2)

def arith_Neg (a1 : DValue) : Option (DValue × Int) :=
  (value_Int (0 : Int)).bind fun r =>
  (arith_Sub r a1).bind fun r1 =>
  some (r1.1, r1.2)

def value_truth (v : DValue) : Option Int :=
  if (v.Kind == (0 : Int)) then
  (some (1 : Int))
  else
  (some (IntKind.i64.wrap ((2 : Int) * v.N)))

def value_logic_l1 (to : ((List Int) → Option Int)) : List DValue → (List Int) → DValue → Option (DValue × Int)
  | [], n, x =>
    (to n).bind fun r1 =>
    (idx gv0 r1).bind fun e1 =>
    some (e1, (0 : Int))
  | e :: tl, n, x =>
    if (decide ((1 : Int) < e.Kind)) then
    (some ((⟨(0 : Int), (0 : Int), (0 : Int), []⟩ : DValue), (2 : Int)))
    else
    ((value_truth e).bind fun r2 =>
    (app n ([r2])).bind fun n1 =>
    (value_logic_l1 to tl) n1 x)

def value_logic (to : ((List Int) → Option Int)) (l : (List DValue)) : Option (DValue × Int) :=
  (value_right l).bind fun r =>
  if (r != (0 : Int)) then
  (some ((⟨(0 : Int), (0 : Int), (0 : Int), []⟩ : DValue), r))
  else
  (value_logic_l1 to l ([] : List Int) (⟨(0 : Int), (0 : Int), (0 : Int), []⟩ : DValue))

def value_Not_1 (l : (List Int)) : Option Int :=
  (idx l (0 : Int)).bind fun e =>
  some (IntKind.i64.wrap ((2 : Int) - e))

def value_Not (a1 : DValue) : Option (DValue × Int) :=
  (value_logic value_Not_1 ([a1])).bind fun r =>
  some (r.1, r.2)

def expr_null_1 (is1 : Bool) (a1 : DValue) (x : DValue) : Option (DValue × Int) :=
  (value_Bool ((a1.Kind == (0 : Int)) == is1)).bind fun r =>
  some (r, (0 : Int))

def expr_null (is1 : Bool) : Option (DValue → DValue → Option (DValue × Int)) :=
  some (expr_null_1 is1)

def arith_Add_1 (a1 : Int) (b : Int) : Option (Int × Bool) :=
  some ((IntKind.i64.wrap (a1 + b)), decide ((0 : Int) ≤ (bitsOp .and .i64 (bitsOp .xor .i64 a1 (IntKind.i64.wrap (a1 + b))) (bitsOp .xor .i64 b (IntKind.i64.wrap (a1 + b))))))

def arith_Add (a1 : DValue) (b : DValue) : Option (DValue × Int) :=
  (arith_do a1 b arith_Add_1).bind fun r =>
  some (r.1, r.2)

def math_bits_Mul64 (p : Int) (y : Int) : Option (Int × Int) :=
  some ((IntKind.u64.wrap ((IntKind.u64.wrap ((IntKind.u64.wrap (((p).fdiv (2 ^ (min (Int.toNat (32 : Int)) IntKind.u64.bits))) * ((y).fdiv (2 ^ (min (Int.toNat (32 : Int)) IntKind.u64.bits))))) + (((IntKind.u64.wrap ((IntKind.u64.wrap (((p).fdiv (2 ^ (min (Int.toNat (32 : Int)) IntKind.u64.bits))) * (bitsOp .and .u64 y (4294967295 : Int)))) + (((IntKind.u64.wrap ((bitsOp .and .u64 p (4294967295 : Int)) * (bitsOp .and .u64 y (4294967295 : Int))))).fdiv (2 ^ (min (Int.toNat (32 : Int)) IntKind.u64.bits)))))).fdiv (2 ^ (min (Int.toNat (32 : Int)) IntKind.u64.bits))))) + (((IntKind.u64.wrap ((bitsOp .and .u64 (IntKind.u64.wrap ((IntKind.u64.wrap (((p).fdiv (2 ^ (min (Int.toNat (32 : Int)) IntKind.u64.bits))) * (bitsOp .and .u64 y (4294967295 : Int)))) + (((IntKind.u64.wrap ((bitsOp .and .u64 p (4294967295 : Int)) * (bitsOp .and .u64 y (4294967295 : Int))))).fdiv (2 ^ (min (Int.toNat (32 : Int)) IntKind.u64.bits))))) (4294967295 : Int)) + (IntKind.u64.wrap ((bitsOp .and .u64 p (4294967295 : Int)) * ((y).fdiv (2 ^ (min (Int.toNat (32 : Int)) IntKind.u64.bits)))))))).fdiv (2 ^ (min (Int.toNat (32 : Int)) IntKind.u64.bits))))), (IntKind.u64.wrap (p * y)))

def arith_size (n : Int) : Option Int :=
  if (decide (n < (0 : Int))) then
  (some (IntKind.u64.wrap (0 - (IntKind.u64.wrap n))))
  else
  (some (IntKind.u64.wrap n))

def arith_signed (u : Int) (below : Bool) : Option (Int × Bool) :=
  if below then
  (some ((IntKind.i64.wrap (IntKind.u64.wrap (0 - u))), decide (u ≤ (9223372036854775808 : Int))))
  else
  (some ((IntKind.i64.wrap u), decide (u ≤ (9223372036854775807 : Int))))

def arith_Mul_1 (a1 : Int) (b : Int) : Option (Int × Bool) :=
  (arith_size a1).bind fun r =>
  (arith_size b).bind fun r1 =>
  (math_bits_Mul64 r r1).bind fun r2 =>
  (arith_signed r2.2 ((decide (a1 < (0 : Int))) != (decide (b < (0 : Int))))).bind fun r3 =>
  some (r3.1, (r3.2 && (r2.1 == (0 : Int))))

def arith_Mul (a1 : DValue) (b : DValue) : Option (DValue × Int) :=
  (arith_do a1 b arith_Mul_1).bind fun r =>
  some (r.1, r.2)

def arith_Div_1 (a1 : Int) (b : Int) : Option (Int × Bool) :=
  if (b == (0 : Int)) then
  (some ((0 : Int), false))
  else
  ((arith_size a1).bind fun r =>
  (arith_size b).bind fun r1 =>
  (nz r1).bind fun _ =>
  (arith_signed (IntKind.u64.wrap ((r).tdiv r1)) ((decide (a1 < (0 : Int))) != (decide (b < (0 : Int))))).bind fun r2 =>
  some (r2.1, r2.2))

def arith_Div (a1 : DValue) (b : DValue) : Option (DValue × Int) :=
  (arith_do a1 b arith_Div_1).bind fun r =>
  some (r.1, r.2)

def value_Equal_1 (c : Int) : Option Bool :=
  some (c == (0 : Int))

def value_Equal (a1 : DValue) (b : DValue) : Option (DValue × Int) :=
  (value_held a1 b value_Equal_1).bind fun r =>
  some (r.1, r.2)

def expr_not_1 (do1 : (DValue → DValue → Option (DValue × Int))) (a1 : DValue) (b : DValue) : Option (DValue × Int) :=
  (do1 a1 b).bind fun r =>
  if (r.2 != (0 : Int)) then
  (some (r.1, r.2))
  else
  ((value_Not r.1).bind fun r1 =>
  some (r1.1, r1.2))

def expr_not (do1 : (DValue → DValue → Option (DValue × Int))) : Option (DValue → DValue → Option (DValue × Int)) :=
  some (expr_not_1 do1)

def value_And_1 (l : (List Int)) : Option Int :=
  (idx l (0 : Int)).bind fun e =>
  (idx l (1 : Int)).bind fun e1 =>
  some (min e e1)

def value_And (a1 : DValue) (b : DValue) : Option (DValue × Int) :=
  (value_logic value_And_1 ([a1, b])).bind fun r =>
  some (r.1, r.2)

def value_Or_1 (l : (List Int)) : Option Int :=
  (idx l (0 : Int)).bind fun e =>
  (idx l (1 : Int)).bind fun e1 =>
  some (max e e1)

def value_Or (a1 : DValue) (b : DValue) : Option (DValue × Int) :=
  (value_logic value_Or_1 ([a1, b])).bind fun r =>
  some (r.1, r.2)

def expr_does : Option (List (Int × (DValue → DValue → Option (DValue × Int)))) :=
  (expr_turned value_Less).bind fun r =>
  (expr_first arith_Neg).bind fun r1 =>
  (expr_first value_Not).bind fun r2 =>
  (expr_null true).bind fun r3 =>
  (expr_null false).bind fun r4 =>
  (expr_not value_Equal).bind fun r5 =>
  (expr_not r).bind fun r6 =>
  (expr_not value_Less).bind fun r7 =>
  some (mset (mset (mset (mset (mset (mset (mset (mset (mset (mset (mset (mset (mset (mset (mset (mset ([] : List (Int × (DValue → DValue → Option (DValue × Int)))) (4 : Int) r1) (5 : Int) r2) (6 : Int) r3) (7 : Int) r4) (12 : Int) arith_Add) (13 : Int) arith_Sub) (14 : Int) arith_Mul) (15 : Int) arith_Div) (16 : Int) value_Equal) (17 : Int) r5) (18 : Int) value_Less) (20 : Int) r) (19 : Int) r6) (21 : Int) r7) (22 : Int) value_And) (23 : Int) value_Or)

def slices_Clone_api_Value_api_Value (s : (List DValue)) : Option (List DValue) :=
  (app ([] : List DValue) s).bind fun x =>
  some x

def expr_over_1_api_Value (stack : (List DValue)) (k : Int) : Option ((List DValue) × (List DValue)) :=
  (sliceF stack (IntKind.i64.wrap ((stack.length : Int) - k)) (stack.length : Int)).bind fun y =>
  (slices_Clone_api_Value_api_Value y).bind fun r =>
  (sliceF stack 0 (IntKind.i64.wrap ((stack.length : Int) - k))).bind fun y1 =>
  some (r, y1)

def expr_over_api_Value_k1 (bad : Int) (stack : List DValue) : Option (DValue × Int) :=
  if (bad != (0 : Int)) then
  (some ((⟨(0 : Int), (0 : Int), (0 : Int), []⟩ : DValue), bad))
  else
  ((idx stack (0 : Int)).bind fun e1 =>
  some (e1, (0 : Int)))

def expr_over_api_Value_l1 (do1 : (DENode → (List DValue) → Option (DValue × Int))) : List DENode → Int → (List DValue) → Option (DValue × Int)
  | [], bad1, stack1 =>
    expr_over_api_Value_k1 bad1 stack1
  | e2 :: tl, bad1, stack1 =>
    (expr_parts e2.Tag).bind fun r =>
    (expr_over_1_api_Value stack1 r).bind fun r1 =>
    (do1 e2 r1.1).bind fun r2 =>
    if (r2.2 != (0 : Int)) then
    (expr_over_api_Value_k1 r2.2 r1.2)
    else
    ((app r1.2 ([r2.1])).bind fun l2 =>
    (expr_over_api_Value_l1 do1 tl) bad1 l2)

def expr_over_api_Value (e : DExpr) (do1 : (DENode → (List DValue) → Option (DValue × Int))) : Option (DValue × Int) :=
  expr_over_api_Value_l1 do1 e.Nodes (0 : Int) ([] : List DValue)

def expr_Eval_1_k1 (r1 : DValue × Int) (no : Int) : Option (DValue × Int) :=
  some (r1.1, no)

def expr_Eval_1 (r : (List DValue)) (do1 : (List (Int × (DValue → DValue → Option (DValue × Int))))) (n : DENode) (l : (List DValue)) : Option (DValue × Int) :=
  if (n.Tag == (1 : Int)) then
  (some (n.Value, (0 : Int)))
  else
  (if (n.Tag == (2 : Int)) then
  ((idx r n.Col).bind fun e =>
  some (e, (0 : Int)))
  else
  ((idx l (0 : Int)).bind fun e1 =>
  (idx l (IntKind.i64.wrap ((l.length : Int) - (1 : Int)))).bind fun e2 =>
  (((mget do1 n.Tag).getD (fun _ _ => none)) e1 e2).bind fun r1 =>
  if ((r1.2 != (0 : Int)) && (r1.2 != (140 : Int))) then
  (expr_Eval_1_k1 r1 (201 : Int))
  else
  (expr_Eval_1_k1 r1 r1.2)))

def expr_Eval_l1 (e : DExpr) (r : (List DValue)) : List Int → DValue → Option (DValue × Int)
  | [], x =>
    (expr_does).bind fun r3 =>
    (expr_over_api_Value e (expr_Eval_1 r r3)).bind fun r4 =>
    some (r4.1, r4.2)
  | e1 :: tl, x =>
    (if (!(decide ((r.length : Int) ≤ e1))) then ((idx r e1).bind fun e2 =>
    (value_Plain e2).bind fun r5 =>
    some (!r5)) else some true).bind fun t =>
    if t then
    (some ((⟨(0 : Int), (0 : Int), (0 : Int), []⟩ : DValue), (2 : Int)))
    else
    ((expr_Eval_l1 e r tl) x)

def expr_Eval (e : DExpr) (r : (List DValue)) : Option (DValue × Int) :=
  (expr_Check e).bind fun r1 =>
  if (r1 != (0 : Int)) then
  (some ((⟨(0 : Int), (0 : Int), (0 : Int), []⟩ : DValue), r1))
  else
  ((expr_Cols e).bind fun r2 =>
  expr_Eval_l1 e r r2 (⟨(0 : Int), (0 : Int), (0 : Int), []⟩ : DValue))

def expr_laid_k2 (nx : (List DENode) → Option (List DENode)) (out1 : List DENode) (n1 : DENode) : Option (List DENode) :=
  (app out1 ([n1])).bind fun out2 =>
  nx out2

def expr_laid_k1 (out : (List DENode)) (nx : (List DENode) → Option (List DENode)) (out1 : List DENode) (n : DENode) : Option (List DENode) :=
  if (decide ((0 : Int) ≤ n.R)) then
  (expr_laid_k2 nx out1 (DENode.mk n.Tag n.L (IntKind.i64.wrap (n.R + (out.length : Int))) n.Col n.Value))
  else
  (expr_laid_k2 nx out1 n)

def expr_laid_l1 (out : (List DENode)) : List DENode → (List DENode) → Option (List DENode)
  | [], out1 =>
    some out1
  | e1 :: tl, out1 =>
    if (decide ((0 : Int) ≤ e1.L)) then
    (expr_laid_k1 out (expr_laid_l1 out tl) out1 (DENode.mk e1.Tag (IntKind.i64.wrap (e1.L + (out.length : Int))) e1.R e1.Col e1.Value))
    else
    (expr_laid_k1 out (expr_laid_l1 out tl) out1 e1)

def expr_laid (out : (List DENode)) (e : DExpr) : Option (List DENode) :=
  expr_laid_l1 out e.Nodes out

def expr_joined_l1 (root : DENode) : List DExpr → Nat → (List DENode) → (List Int) → Option DExpr
  | [], i, out, at1 =>
    (idx at1 (0 : Int)).bind fun e1 =>
    (idx at1 (1 : Int)).bind fun e2 =>
    (app out ([(DENode.mk ({ root with L := e1 } : DENode).Tag ({ root with L := e1 } : DENode).L e2 ({ root with L := e1 } : DENode).Col ({ root with L := e1 } : DENode).Value)])).bind fun l2 =>
    some (⟨l2⟩ : DExpr)
  | e :: tl, i, out, at1 =>
    (expr_laid out e).bind fun r =>
    (idx at1 (i : Int)).bind fun e3 =>
    (some (at1.set (i : Int).toNat (IntKind.i64.wrap ((r.length : Int) - (1 : Int))))).bind fun ar =>
    (expr_joined_l1 root tl) (i + 1) r ar

def expr_joined (root : DENode) (l : (List DExpr)) : Option DExpr :=
  expr_joined_l1 root l 0 ([] : List DENode) ([(-1 : Int), (-1 : Int)])

def expr_made_l1 (root : DENode) (l : (List DExpr)) : List DExpr → DExpr → Option (DExpr × Int)
  | [], x =>
    (expr_joined root l).bind fun r =>
    (expr_Check r).bind fun r1 =>
    if (r1 != (0 : Int)) then
    (some ((⟨[]⟩ : DExpr), r1))
    else
    (some (r, (0 : Int)))
  | e :: tl, x =>
    (expr_Check e).bind fun r2 =>
    if (r2 != (0 : Int)) then
    (some ((⟨[]⟩ : DExpr), r2))
    else
    ((expr_made_l1 root l tl) x)

def expr_made (root : DENode) (l : (List DExpr)) : Option (DExpr × Int) :=
  expr_made_l1 root l l (⟨[]⟩ : DExpr)

def expr_Two (tag : Int) (l : DExpr) (r : DExpr) : Option (DExpr × Int) :=
  (expr_made (⟨tag, (0 : Int), (0 : Int), (0 : Int), (⟨(0 : Int), (0 : Int), (0 : Int), []⟩ : DValue)⟩ : DENode) ([l, r])).bind fun r1 =>
  some (r1.1, r1.2)

def law10_col (n : Int) : Option DExpr :=
  some (⟨[(⟨(2 : Int), (-1 : Int), (-1 : Int), n, (⟨(0 : Int), (0 : Int), (0 : Int), []⟩ : DValue)⟩ : DENode)]⟩ : DExpr)

def expr_Pair (e : DExpr) (left : Int) : Option (Int × Int × Bool) :=
  (expr_Check e).bind fun r =>
  (if (!((r != (0 : Int)) || ((e.Nodes.length : Int) != (3 : Int)))) then ((idx e.Nodes (2 : Int)).bind fun e1 =>
  some (e1.Tag != (16 : Int))) else some true).bind fun t =>
  if t then
  (some ((0 : Int), (0 : Int), false))
  else
  ((idx e.Nodes (0 : Int)).bind fun e2 =>
  (idx e.Nodes (1 : Int)).bind fun e3 =>
  if ((e2.Tag != (2 : Int)) || (e3.Tag != (2 : Int))) then
  (some ((0 : Int), (0 : Int), false))
  else
  (if ((decide (left ≤ (min e2.Col e3.Col))) || (decide ((max e2.Col e3.Col) < left))) then
  (some ((0 : Int), (0 : Int), false))
  else
  (some ((min e2.Col e3.Col), (IntKind.i64.wrap ((max e2.Col e3.Col) - left)), true))))

def slices_IndexFunc_api_ENode_api_ENode_l1 (f : (DENode → Option Bool)) : List DENode → Nat → Option Int
  | [], i =>
    some (-1 : Int)
  | e :: tl, i =>
    (f e).bind fun r =>
    if r then
    (some (i : Int))
    else
    ((slices_IndexFunc_api_ENode_api_ENode_l1 f tl) (i + 1))

def slices_IndexFunc_api_ENode_api_ENode (s : (List DENode)) (f : (DENode → Option Bool)) : Option Int :=
  slices_IndexFunc_api_ENode_api_ENode_l1 f s 0

def slices_ContainsFunc_api_ENode_api_ENode (s : (List DENode)) (f : (DENode → Option Bool)) : Option Bool :=
  (slices_IndexFunc_api_ENode_api_ENode s f).bind fun r =>
  some (decide ((0 : Int) ≤ r))

def expr_arithmetic (tag : Int) : Option Bool :=
  some ((tag == (4 : Int)) || ((decide ((12 : Int) ≤ tag)) && (decide (tag ≤ (15 : Int)))))

def expr_Safe_1 (n : DENode) : Option Bool :=
  (expr_arithmetic n.Tag).bind fun r =>
  some r

def expr_Safe (e : DExpr) : Option Bool :=
  (expr_Check e).bind fun r =>
  (if (r == (0 : Int)) then ((slices_ContainsFunc_api_ENode_api_ENode e.Nodes expr_Safe_1).bind fun r1 =>
  some (!r1)) else some false).bind fun t =>
  some t

def law10_wakes : Option Bool :=
  (law10_col (0 : Int)).bind fun r =>
  (law10_col (1 : Int)).bind fun r1 =>
  (expr_Two (13 : Int) r r1).bind fun r2 =>
  (expr_Eval r2.1 ([(⟨(2 : Int), (5 : Int), (0 : Int), []⟩ : DValue), (⟨(2 : Int), (3 : Int), (0 : Int), []⟩ : DValue)])).bind fun r3 =>
  (law10_col (1 : Int)).bind fun r4 =>
  (law10_col (0 : Int)).bind fun r5 =>
  (expr_Two (16 : Int) r4 r5).bind fun r6 =>
  (expr_Pair r6.1 (1 : Int)).bind fun r7 =>
  (if (((((((r2.2 == (0 : Int)) && (r3.2 == (0 : Int))) && (r6.2 == (0 : Int))) && (decide (r3.1 = (⟨(2 : Int), (2 : Int), (0 : Int), []⟩ : DValue)))) && r7.2.2) && (r7.1 == (0 : Int))) && (r7.2.1 == (0 : Int))) then ((expr_Safe r2.1).bind fun r8 =>
  some (!r8)) else some false).bind fun t =>
  (if t then ((expr_Safe r6.1).bind fun r9 =>
  some r9) else some false).bind fun t1 =>
  some t1

def law10_cut_api_ENode (l : (List DENode)) (most : Int) : Option (List DENode) :=
  (sliceF l 0 (min (l.length : Int) most)).bind fun y =>
  (app ([] : List DENode) y).bind fun x =>
  some x

def law10_short_l1 : List DENode → Nat → DExpr → Option DExpr
  | [], i, out =>
    some out
  | e1 :: tl, i, out =>
    (idx out.Nodes (i : Int)).bind fun e2 =>
    (sliceF e2.Value.S 0 (min (e2.Value.S.length : Int) (41 : Int))).bind fun y =>
    (some (out.Nodes.set (i : Int).toNat ({ e2 with Value := ({ e2.Value with S := y } : DValue) } : DENode))).bind fun st =>
    (law10_short_l1 tl) (i + 1) ({ out with Nodes := st } : DExpr)

def law10_short (e : DExpr) (most : Int) : Option DExpr :=
  (law10_cut_api_ENode e.Nodes most).bind fun r =>
  law10_short_l1 r 0 ({ (⟨r⟩ : DExpr) with Nodes := r } : DExpr)

def law10_cut_api_Value (l : (List DValue)) (most : Int) : Option (List DValue) :=
  (sliceF l 0 (min (l.length : Int) most)).bind fun y =>
  (app ([] : List DValue) y).bind fun x =>
  some x

def law10_row_l1 : Nat → Nat → (List DValue) → Option (List DValue)
  | 0, i, out =>
    some out
  | k1 + 1, i, out =>
    (idx out (i : Int)).bind fun e1 =>
    (sliceF e1.S 0 (min (e1.S.length : Int) (41 : Int))).bind fun y =>
    (some (out.set (i : Int).toNat ({ e1 with S := y } : DValue))).bind fun st =>
    (law10_row_l1 k1) (i + 1) st

def law10_row (r : (List DValue)) : Option (List DValue) :=
  (law10_cut_api_Value r (17 : Int)).bind fun r1 =>
  law10_row_l1 r1.length 0 r1

def law10_ExprOwn_l3 (r1 : DExpr) (r3 : (List DValue)) (q : List DValue) : List Int → Option Bool
  | [] =>
    (expr_Eval r1 r3).bind fun r6 =>
    (expr_Eval r1 q).bind fun r7 =>
    some ((decide (r6.1 = r7.1)) && (r6.2 == r7.2))
  | e2 :: tl1 =>
    if ((decide ((r3.length : Int) ≤ e2)) || (decide ((q.length : Int) ≤ e2))) then
    (some true)
    else
    ((law10_ExprOwn_l3 r1 r3 q tl1))

def law10_ExprOwn_l2 (r1 : DExpr) (r3 : (List DValue)) (has : List (Int × Bool)) : Nat → Nat → (List DValue) → Option Bool
  | 0, i1, q =>
    law10_ExprOwn_l3 r1 r3 q (has.map Prod.fst)
  | k1 + 1, i1, q =>
    if (((mget has (i1 : Int)).getD false) && (decide ((i1 : Int) < (r3.length : Int)))) then
    ((idx r3 (i1 : Int)).bind fun e3 =>
    (idx q (i1 : Int)).bind fun e4 =>
    (some (q.set (i1 : Int).toNat e3)).bind fun st =>
    (law10_ExprOwn_l2 r1 r3 has k1) (i1 + 1) st)
    else
    ((law10_ExprOwn_l2 r1 r3 has k1) (i1 + 1) q)

def law10_ExprOwn_l1 (r1 : DExpr) (r3 : (List DValue)) (r4 : (List DValue)) : List Int → (List (Int × Bool)) → Option Bool
  | [], has =>
    law10_ExprOwn_l2 r1 r3 has r4.length 0 r4
  | e :: tl, has =>
    (law10_ExprOwn_l1 r1 r3 r4 tl) (mset has e true)

def law10_ExprOwn (p : DExpr) (a1 : (List DValue)) (b : (List DValue)) : Option Bool :=
  (law10_wakes).bind fun r =>
  if (!r) then
  (some false)
  else
  ((law10_short p (200 : Int)).bind fun r1 =>
  (expr_Check r1).bind fun r2 =>
  if (r2 != (0 : Int)) then
  (some true)
  else
  ((law10_row a1).bind fun r3 =>
  (law10_row b).bind fun r4 =>
  (expr_Cols r1).bind fun r5 =>
  law10_ExprOwn_l1 r1 r3 r4 r5 ([] : List (Int × Bool))))


end Go.Proofs.YtdhledkpgaeoaaaDoor

