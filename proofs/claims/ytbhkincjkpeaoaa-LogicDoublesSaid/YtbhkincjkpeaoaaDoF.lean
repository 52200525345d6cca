/- Facts of this claim: F. -/
import Derived.Test.YtbhkincjkpeaoaaDoD
import Derived.Test.YtbhkincjkpeaoaaDoV3
namespace Go.Proofs.Ytbhkincjkpeaoaa
open Go

def logic_plain (k : Int) : Option Bool :=
  some (((k == (1 : Int)) || (k == (2 : Int))) || (k == (3 : Int)))

def logic_checker_scan_1 (k : Int) : Option Bool :=
  (logic_plain k).bind fun r =>
  some (!r)

def slices_IndexFunc_int_int_l1 (f : (Int → Option Bool)) : List Int → Nat → Option Int
  | [], i =>
    some (-1 : Int)
  | e :: tl, i =>
    (f e).bind fun r =>
    if r then
    (some (i : Int))
    else
    ((slices_IndexFunc_int_int_l1 f tl) (i + 1))

def slices_IndexFunc_int_int (s : (List Int)) (f : (Int → Option Bool)) : Option Int :=
  slices_IndexFunc_int_int_l1 f s 0

def slices_ContainsFunc_int_int (s : (List Int)) (f : (Int → Option Bool)) : Option Bool :=
  (slices_IndexFunc_int_int s f).bind fun r =>
  some (decide ((0 : Int) ≤ r))

def logic_checker_scan (c : Dchecker) (n : DLNode) : Option ((List Int) × Bool) :=
  (if ((((decide ((0 : Int) ≤ n.Table)) && (decide (n.Table < (4 : Int)))) && (decide ((1 : Int) ≤ (n.Kinds.length : Int)))) && (decide ((n.Kinds.length : Int) ≤ (4 : Int)))) then ((slices_ContainsFunc_int_int n.Kinds logic_checker_scan_1).bind fun r =>
  some (!r)) else some false).bind fun t =>
  some (n.Kinds, t)

def slices_Grow_int_int_k2 (s : List Int) : Option (List Int) :=
  some s

def slices_Grow_int_int_k1 (n : Int) : Option (List Int) :=
  if (decide ((0 : Int) < (IntKind.i64.wrap (n - (IntKind.i64.wrap ((0 : Int) - (0 : Int))))))) then
  ((gt0 (IntKind.i64.wrap (n - (IntKind.i64.wrap ((0 : Int) - (0 : Int)))))).bind fun _ =>
  (zerosF (IntKind.i64.wrap (n - (IntKind.i64.wrap ((0 : Int) - (0 : Int))))) (0 : Int)).bind fun mk =>
  (sliceF mk 0 (0 : Int)).bind fun y =>
  slices_Grow_int_int_k2 y)
  else
  (slices_Grow_int_int_k2 ([] : List Int))

def slices_Grow_int_int (n : Int) : Option (List Int) :=
  if (decide (n < (0 : Int))) then
  (none)
  else
  (slices_Grow_int_int_k1 n)

def slices_Concat_int_int_l2 : List (List Int) → (List Int) → Option (List Int)
  | [], newslice =>
    some newslice
  | e1 :: tl1, newslice =>
    (app newslice e1).bind fun newslice1 =>
    (slices_Concat_int_int_l2 tl1) newslice1

def slices_Concat_int_int_l1 (slices : (List (List Int))) : List (List Int) → Int → Option (List Int)
  | [], size =>
    (slices_Grow_int_int size).bind fun r =>
    slices_Concat_int_int_l2 slices r
  | e :: tl, size =>
    if (decide ((IntKind.i64.wrap (size + (e.length : Int))) < (0 : Int))) then
    (none)
    else
    ((slices_Concat_int_int_l1 slices tl) (IntKind.i64.wrap (size + (e.length : Int))))

def slices_Concat_int_int (slices : (List (List Int))) : Option (List Int) :=
  slices_Concat_int_int_l1 slices slices (0 : Int)

def expr_parts (tag : Int) : Option Int :=
  if ((tag == (1 : Int)) || (tag == (2 : Int))) then
  (some (0 : Int))
  else
  (if ((decide ((4 : Int) ≤ tag)) && (decide (tag ≤ (7 : Int)))) then
  (some (1 : Int))
  else
  (if ((decide ((12 : Int) ≤ tag)) && (decide (tag ≤ (23 : Int)))) then
  (some (2 : Int))
  else
  (some (-1 : Int))))

def value_blank_k1 (v1 : DValue) : Option DValue :=
  some v1

def value_blank_k2 (v2 : DValue) : Option DValue :=
  value_blank_k1 (DValue.mk (0 : Int) v2.N v2.U v2.S)

def value_blank_k3 (v : DValue) : Option DValue :=
  value_blank_k2 (DValue.mk v.Kind (0 : Int) v.U v.S)

def value_blank_k4 (v3 : DValue) : Option DValue :=
  value_blank_k1 v3

def value_blank (v : DValue) : Option DValue :=
  if (v.Kind == (1 : Int)) then
  (if ((v.N != (0 : Int)) && (v.N != (1 : Int))) then
  (value_blank_k1 v)
  else
  (value_blank_k3 v))
  else
  (if (v.Kind == (2 : Int)) then
  (value_blank_k3 v)
  else
  (if (v.Kind == (0 : Int)) then
  (value_blank_k2 v)
  else
  (if (v.Kind == (3 : Int)) then
  (if (decide ((v.S.length : Int) ≤ (40 : Int))) then
  (value_blank_k4 (DValue.mk (0 : Int) v.N v.U ([])))
  else
  (value_blank_k4 v))
  else
  (if (v.Kind == (4 : Int)) then
  (value_blank_k1 (DValue.mk (0 : Int) (0 : Int) (0 : Int) v.S))
  else
  (value_blank_k1 v)))))

def value_Check (v : DValue) : Option Int :=
  (value_blank v).bind fun r =>
  if (!decide (r = (⟨(0 : Int), (0 : Int), (0 : Int), []⟩ : DValue))) then
  (some (120 : Int))
  else
  (some (0 : Int))

def value_Plain (v : DValue) : Option Bool :=
  (value_Check v).bind fun r =>
  some ((r == (0 : Int)) && (v.Kind != (4 : Int)))

def expr_counts (n : DENode) : Option Bool :=
  if (n.Tag == (1 : Int)) then
  ((value_Plain n.Value).bind fun r =>
  some (r && (n.Col == (0 : Int))))
  else
  (if (n.Tag == (2 : Int)) then
  (some (((decide (n.Value = (⟨(0 : Int), (0 : Int), (0 : Int), []⟩ : DValue))) && (decide ((0 : Int) ≤ n.Col))) && (decide (n.Col < (16 : Int)))))
  else
  (some ((decide (n.Value = (⟨(0 : Int), (0 : Int), (0 : Int), []⟩ : DValue))) && (n.Col == (0 : Int)))))

def expr_firsts_l2 (nx : Nat → (List Int) → (List Int) → Option ((List Int) × Bool)) (i : Nat) (e1 : DENode) (all : List Int) (open1 : List Int) (r : Int) : List Int → Nat → Int → (List Int) → Option ((List Int) × Bool)
  | [], i1, first, at1 =>
    if (!decide (at1 = ([e1.L, e1.R]))) then
    (some ([], false))
    else
    ((app all ([first])).bind fun all1 =>
    (sliceF open1 0 (IntKind.i64.wrap ((open1.length : Int) - r))).bind fun y1 =>
    (app y1 ([(i : Int)])).bind fun open2 =>
    nx (i + 1) all1 open2)
  | e2 :: tl1, i1, first, at1 =>
    (idx all e2).bind fun e3 =>
    (idx at1 (i1 : Int)).bind fun e4 =>
    (some (at1.set (i1 : Int).toNat e2)).bind fun ar =>
    (expr_firsts_l2 nx i e1 all open1 r tl1) (i1 + 1) (min first e3) ar

def expr_firsts_l1 : List DENode → Nat → (List Int) → (List Int) → Option ((List Int) × Bool)
  | [], i, all, open1 =>
    some (all, (((open1.length : Int) == (1 : Int)) && (decide ((all.length : Int) ≤ (1000 : Int)))))
  | e1 :: tl, i, all, open1 =>
    (expr_parts e1.Tag).bind fun r =>
    (if (!((decide (r < (0 : Int))) || (decide ((open1.length : Int) < r)))) then ((expr_counts e1).bind fun r1 =>
    some (!r1)) else some true).bind fun t =>
    if t then
    (some ([], false))
    else
    ((sliceF open1 (IntKind.i64.wrap ((open1.length : Int) - r)) (open1.length : Int)).bind fun y =>
    expr_firsts_l2 (expr_firsts_l1 tl) i e1 all open1 r y 0 (i : Int) ([(-1 : Int), (-1 : Int)]))

def expr_firsts (e : DExpr) : Option ((List Int) × Bool) :=
  expr_firsts_l1 e.Nodes 0 ([] : List Int) ([] : List Int)

def expr_Check (e : DExpr) : Option Int :=
  (expr_firsts e).bind fun r =>
  if (!r.2) then
  (some (200 : Int))
  else
  (some (0 : Int))

def slices_Compact_int_int_l2 (i : Nat) (y : List Int) : Nat → Nat → (List Int) → Int → Option (List Int)
  | 0, i1, s1, k =>
    (sliceF s1 k (s1.length : Int)).bind fun y1 =>
    (some (s1.take k.toNat ++ List.replicate y1.length (0 : Int))).bind fun cl =>
    (sliceF cl 0 k).bind fun y2 =>
    some y2
  | k2 + 1, i1, s1, k =>
    (idxV s1 (i : Int) y.length (i1 : Int)).bind fun e3 =>
    (idxV s1 (i : Int) y.length (IntKind.i64.wrap ((i1 : Int) - (1 : Int)))).bind fun e4 =>
    if (e3 != e4) then
    ((idxV s1 (i : Int) y.length (i1 : Int)).bind fun e5 =>
    (idx s1 k).bind fun e6 =>
    (some (s1.set k.toNat e5)).bind fun st =>
    (slices_Compact_int_int_l2 i y k2) (i1 + 1) st (IntKind.i64.wrap (k + (1 : Int))))
    else
    ((slices_Compact_int_int_l2 i y k2) (i1 + 1) s1 k)

def slices_Compact_int_int_l1 (s : (List Int)) : List Int → Nat → Option (List Int)
  | [], i =>
    some s
  | e :: tl, i =>
    (idx s (IntKind.i64.wrap ((i : Int) - (1 : Int)))).bind fun e1 =>
    if (e == e1) then
    ((sliceF s (i : Int) (s.length : Int)).bind fun y =>
    slices_Compact_int_int_l2 i y (y.length - 1) 1 s (i : Int))
    else
    ((slices_Compact_int_int_l1 s tl) (i + 1))

def slices_Compact_int_int (s : (List Int)) : Option (List Int) :=
  if (decide ((s.length : Int) < (2 : Int))) then
  (some s)
  else
  (slices_Compact_int_int_l1 s (s.drop (1)) 1)

def expr_Cols_l1 : List DENode → (List Int) → Option (List Int)
  | [], out =>
    (sortIF out).bind fun srt =>
    (slices_Compact_int_int srt).bind fun r1 =>
    some r1
  | e1 :: tl, out =>
    if (e1.Tag == (2 : Int)) then
    ((app out ([e1.Col])).bind fun out1 =>
    (expr_Cols_l1 tl) out1)
    else
    ((expr_Cols_l1 tl) out)

def expr_Cols (e : DExpr) : Option (List Int) :=
  (expr_Check e).bind fun r =>
  if (r != (0 : Int)) then
  (some ([] : List Int))
  else
  (expr_Cols_l1 e.Nodes ([] : List Int))

def slices_Clone_int_int (s : (List Int)) : Option (List Int) :=
  (app ([] : List Int) s).bind fun x =>
  some x

def expr_over_1_int (stack : (List Int)) (k : Int) : Option ((List Int) × (List Int)) :=
  (sliceF stack (IntKind.i64.wrap ((stack.length : Int) - k)) (stack.length : Int)).bind fun y =>
  (slices_Clone_int_int y).bind fun r =>
  (sliceF stack 0 (IntKind.i64.wrap ((stack.length : Int) - k))).bind fun y1 =>
  some (r, y1)

def expr_over_int_k1 (bad : Int) (stack : List Int) : Option (Int × Int) :=
  if (bad != (0 : Int)) then
  (some ((0 : Int), bad))
  else
  ((idx stack (0 : Int)).bind fun e1 =>
  some (e1, (0 : Int)))

def expr_over_int_l1 (do1 : (DENode → (List Int) → Option (Int × Int))) : List DENode → Int → (List Int) → Option (Int × Int)
  | [], bad1, stack1 =>
    expr_over_int_k1 bad1 stack1
  | e2 :: tl, bad1, stack1 =>
    (expr_parts e2.Tag).bind fun r =>
    (expr_over_1_int stack1 r).bind fun r1 =>
    (do1 e2 r1.1).bind fun r2 =>
    if (r2.2 != (0 : Int)) then
    (expr_over_int_k1 r2.2 r1.2)
    else
    ((app r1.2 ([r2.1])).bind fun l2 =>
    (expr_over_int_l1 do1 tl) bad1 l2)

def expr_over_int (e : DExpr) (do1 : (DENode → (List Int) → Option (Int × Int))) : Option (Int × Int) :=
  expr_over_int_l1 do1 e.Nodes (0 : Int) ([] : List Int)

def expr_arithmetic (tag : Int) : Option Bool :=
  some ((tag == (4 : Int)) || ((decide ((12 : Int) ≤ tag)) && (decide (tag ≤ (15 : Int)))))

def expr_Kind_1_l1 (kinds : (List Int)) (n : DENode) : List Int → Int → Option (Int × Int)
  | [], own =>
    if (n.Tag == (1 : Int)) then
    (some (n.Value.Kind, (0 : Int)))
    else
    (if (n.Tag == (2 : Int)) then
    ((idx kinds n.Col).bind fun e1 =>
    some (e1, (0 : Int)))
    else
    ((expr_arithmetic n.Tag).bind fun r =>
    if r then
    (if ((own == (-1 : Int)) || ((own != (0 : Int)) && (own != (2 : Int)))) then
    (some ((0 : Int), (201 : Int)))
    else
    (some ((2 : Int), (0 : Int))))
    else
    (if (((n.Tag == (5 : Int)) || (n.Tag == (22 : Int))) || (n.Tag == (23 : Int))) then
    (if ((own == (-1 : Int)) || ((own != (0 : Int)) && (own != (1 : Int)))) then
    (some ((0 : Int), (201 : Int)))
    else
    (some ((1 : Int), (0 : Int))))
    else
    (if ((own == (-1 : Int)) || ((own != (0 : Int)) && (own != own))) then
    (some ((0 : Int), (201 : Int)))
    else
    (some ((1 : Int), (0 : Int)))))))
  | e :: tl, own =>
    if ((e == (0 : Int)) || (e == own)) then
    ((expr_Kind_1_l1 kinds n tl) own)
    else
    (if (own == (0 : Int)) then
    ((expr_Kind_1_l1 kinds n tl) e)
    else
    ((expr_Kind_1_l1 kinds n tl) (-1 : Int)))

def expr_Kind_1 (kinds : (List Int)) (n : DENode) (l : (List Int)) : Option (Int × Int) :=
  expr_Kind_1_l1 kinds n l (0 : Int)

def expr_Kind_l2 (e : DExpr) (kinds : (List Int)) : List Int → Option (Int × Int)
  | [] =>
    (expr_over_int e (expr_Kind_1 kinds)).bind fun r2 =>
    some (r2.1, r2.2)
  | e2 :: tl1 =>
    if (decide ((kinds.length : Int) ≤ e2)) then
    (some ((0 : Int), (2 : Int)))
    else
    ((expr_Kind_l2 e kinds tl1))

def expr_Kind_l1 (e : DExpr) (kinds : (List Int)) : List Int → Option (Int × Int)
  | [] =>
    (expr_Cols e).bind fun r1 =>
    expr_Kind_l2 e kinds r1
  | e1 :: tl =>
    if ((decide (e1 < (0 : Int))) || (decide ((3 : Int) < e1))) then
    (some ((0 : Int), (2 : Int)))
    else
    ((expr_Kind_l1 e kinds tl))

def expr_Kind (e : DExpr) (kinds : (List Int)) : Option (Int × Int) :=
  (expr_Check e).bind fun r =>
  if (r != (0 : Int)) then
  (some ((0 : Int), r))
  else
  (expr_Kind_l1 e kinds kinds)

def logic_truth (e : DExpr) (kinds : (List Int)) : Option Bool :=
  (expr_Kind e kinds).bind fun r =>
  some ((r.2 == (0 : Int)) && ((r.1 == (1 : Int)) || (r.1 == (0 : Int))))

def logic_checker_join (c : Dchecker) (n : DLNode) : Option ((List Int) × Bool) :=
  (idx c.kinds n.A).bind fun e =>
  (idx c.kinds n.B).bind fun e1 =>
  (slices_Concat_int_int ([e, e1])).bind fun r =>
  (logic_truth n.Cond r).bind fun r1 =>
  some (r, r1)

def logic_checker_filter (c : Dchecker) (n : DLNode) : Option ((List Int) × Bool) :=
  (idx c.kinds n.A).bind fun e =>
  (logic_truth n.Cond e).bind fun r =>
  some (e, r)

def logic_places_1 (kinds : (List Int)) (c : Int) : Option Bool :=
  some ((decide (c < (0 : Int))) || (decide ((kinds.length : Int) ≤ c)))

def logic_places (l : (List Int)) (kinds : (List Int)) : Option Bool :=
  (slices_ContainsFunc_int_int l (logic_places_1 kinds)).bind fun r =>
  some (!r)

def logic_agg_k1 (r : Int × Int) (x : Bool) : Option (Int × Bool) :=
  if x then
  (some (r.1, (r.2 == (0 : Int))))
  else
  (some ((0 : Int), false))

def logic_agg (a1 : DAgg) (kinds : (List Int)) : Option (Int × Bool) :=
  if (a1.Tag == (1 : Int)) then
  (some ((2 : Int), ((a1.Arg.Nodes.length : Int) == (0 : Int))))
  else
  ((expr_Kind a1.Arg kinds).bind fun r =>
  if (a1.Tag == (2 : Int)) then
  (some ((2 : Int), (r.2 == (0 : Int))))
  else
  (if (a1.Tag == (3 : Int)) then
  (some ((2 : Int), ((r.2 == (0 : Int)) && ((r.1 == (2 : Int)) || (r.1 == (0 : Int))))))
  else
  (if (a1.Tag == (4 : Int)) then
  (logic_agg_k1 r (a1.Tag == (4 : Int)))
  else
  (logic_agg_k1 r (a1.Tag == (5 : Int))))))

def logic_checker_group_l2 (e : (List Int)) : List DAgg → (List Int) → Bool → Option ((List Int) × Bool)
  | [], out1, ok =>
    some (out1, ok)
  | e2 :: tl1, out1, ok =>
    (logic_agg e2 e).bind fun r1 =>
    (app out1 ([r1.1])).bind fun out2 =>
    (logic_checker_group_l2 e tl1) out2 (ok && r1.2)

def logic_checker_group_l1 (n : DLNode) (e : (List Int)) (t : Bool) : List Int → (List Int) → Option ((List Int) × Bool)
  | [], out =>
    logic_checker_group_l2 e n.Aggs out t
  | e1 :: tl, out =>
    (idx e e1).bind fun e3 =>
    (app out ([e3])).bind fun out3 =>
    (logic_checker_group_l1 n e t tl) out3

def logic_checker_group (c : Dchecker) (n : DLNode) : Option ((List Int) × Bool) :=
  (idx c.kinds n.A).bind fun e =>
  (if (((decide ((n.Keys.length : Int) ≤ (3 : Int))) && (decide ((n.Aggs.length : Int) ≤ (12 : Int)))) && (decide ((0 : Int) < (IntKind.i64.wrap ((n.Keys.length : Int) + (n.Aggs.length : Int)))))) then ((logic_places n.Keys e).bind fun r =>
  some r) else some false).bind fun t =>
  if (!t) then
  (some ([], false))
  else
  (logic_checker_group_l1 n e t n.Keys ([] : List Int))

def logic_checker_project_l1 (c : Dchecker) (n : DLNode) : List DExpr → (List Int) → Bool → Option ((List Int) × Bool)
  | [], out, ok =>
    some (out, ok)
  | e :: tl, out, ok =>
    (idx c.kinds n.A).bind fun e1 =>
    (expr_Kind e e1).bind fun r =>
    (app out ([r.1])).bind fun out1 =>
    (logic_checker_project_l1 c n tl) out1 (ok && (r.2 == (0 : Int)))

def logic_checker_project (c : Dchecker) (n : DLNode) : Option ((List Int) × Bool) :=
  logic_checker_project_l1 c n n.Items ([] : List Int) ((decide ((1 : Int) ≤ (n.Items.length : Int))) && (decide ((n.Items.length : Int) ≤ (16 : Int))))

def logic_checker_distinct (c : Dchecker) (n : DLNode) : Option ((List Int) × Bool) :=
  (idx c.kinds n.A).bind fun e =>
  some (e, true)

def logic_checker_union_k1 (nx : Nat → (List Int) → Bool → Option ((List Int) × Bool)) (i : Nat) (e2 : Int) (ok : Bool) (out1 : List Int) : Option ((List Int) × Bool) :=
  (if ok then ((idx out1 (i : Int)).bind fun e3 =>
  some ((e3 == e2) || (e2 == (0 : Int)))) else some false).bind fun t =>
  nx (i + 1) out1 t

def logic_checker_union_l1 : List Int → Nat → (List Int) → Bool → Option ((List Int) × Bool)
  | [], i, out, ok =>
    some (out, ok)
  | e2 :: tl, i, out, ok =>
    (idx out (i : Int)).bind fun e4 =>
    if (e4 == (0 : Int)) then
    ((some (out.set (i : Int).toNat e2)).bind fun st =>
    logic_checker_union_k1 (logic_checker_union_l1 tl) i e2 ok st)
    else
    (logic_checker_union_k1 (logic_checker_union_l1 tl) i e2 ok out)

def logic_checker_union (c : Dchecker) (n : DLNode) : Option ((List Int) × Bool) :=
  (idx c.kinds n.A).bind fun e =>
  (idx c.kinds n.B).bind fun e1 =>
  if ((e.length : Int) != (e1.length : Int)) then
  (some ([], false))
  else
  ((slices_Clone_int_int e).bind fun r =>
  logic_checker_union_l1 e1 0 r true)

def logic_checker_order_1 (in1 : (List Int)) (o : DOrd) : Option Bool :=
  some ((decide (o.Col < (0 : Int))) || (decide ((in1.length : Int) ≤ o.Col)))

def slices_IndexFunc_api_Ord_api_Ord_l1 (f : (DOrd → Option Bool)) : List DOrd → Nat → Option Int
  | [], i =>
    some (-1 : Int)
  | e :: tl, i =>
    (f e).bind fun r =>
    if r then
    (some (i : Int))
    else
    ((slices_IndexFunc_api_Ord_api_Ord_l1 f tl) (i + 1))

def slices_IndexFunc_api_Ord_api_Ord (s : (List DOrd)) (f : (DOrd → Option Bool)) : Option Int :=
  slices_IndexFunc_api_Ord_api_Ord_l1 f s 0

def slices_ContainsFunc_api_Ord_api_Ord (s : (List DOrd)) (f : (DOrd → Option Bool)) : Option Bool :=
  (slices_IndexFunc_api_Ord_api_Ord s f).bind fun r =>
  some (decide ((0 : Int) ≤ r))

def logic_checker_order (c : Dchecker) (n : DLNode) : Option ((List Int) × Bool) :=
  (idx c.kinds n.A).bind fun e =>
  (if (decide ((n.Order.length : Int) ≤ (3 : Int))) then ((slices_ContainsFunc_api_Ord_api_Ord n.Order (logic_checker_order_1 e)).bind fun r =>
  some (!r)) else some false).bind fun t =>
  some (e, (((t && (decide ((-1 : Int) ≤ n.Limit))) && (decide (n.Limit ≤ (2147483647 : Int)))) && ((c.kinds.length : Int) == (IntKind.i64.wrap ((c.Logic.Nodes.length : Int) - (1 : Int))))))

def logic_zero (n : DLNode) : Option Bool :=
  some (((((((((n.Table == (0 : Int)) && ((n.Kinds.length : Int) == (0 : Int))) && (!n.Left)) && ((n.Cond.Nodes.length : Int) == (0 : Int))) && ((n.Keys.length : Int) == (0 : Int))) && ((n.Aggs.length : Int) == (0 : Int))) && ((n.Items.length : Int) == (0 : Int))) && ((n.Order.length : Int) == (0 : Int))) && (n.Limit == (0 : Int)))

def logic_bare (n : DLNode) : Option DLNode :=
  if (n.Op == (1 : Int)) then
  (some (DLNode.mk n.Op n.A n.B (0 : Int) ([]) n.Left n.Cond n.Keys n.Aggs n.Items n.Order n.Limit))
  else
  (if (n.Op == (2 : Int)) then
  (some (DLNode.mk n.Op n.A n.B n.Table n.Kinds false (⟨[]⟩ : DExpr) n.Keys n.Aggs n.Items n.Order n.Limit))
  else
  (if (n.Op == (3 : Int)) then
  (some (DLNode.mk n.Op n.A n.B n.Table n.Kinds n.Left (⟨[]⟩ : DExpr) n.Keys n.Aggs n.Items n.Order n.Limit))
  else
  (if (n.Op == (4 : Int)) then
  (some (DLNode.mk n.Op n.A n.B n.Table n.Kinds n.Left n.Cond ([]) ([]) n.Items n.Order n.Limit))
  else
  (if (n.Op == (5 : Int)) then
  (some (DLNode.mk n.Op n.A n.B n.Table n.Kinds n.Left n.Cond n.Keys n.Aggs ([]) n.Order n.Limit))
  else
  (if (n.Op == (8 : Int)) then
  (some (DLNode.mk n.Op n.A n.B n.Table n.Kinds n.Left n.Cond n.Keys n.Aggs n.Items ([]) (0 : Int)))
  else
  (some n))))))

def logic_parts_k1 (x : Bool) : Option Int :=
  if x then
  (some (2 : Int))
  else
  (some (1 : Int))

def logic_parts (op : Int) : Option Int :=
  if (op == (1 : Int)) then
  (some (0 : Int))
  else
  (if (op == (2 : Int)) then
  (logic_parts_k1 (op == (2 : Int)))
  else
  (logic_parts_k1 (op == (7 : Int))))

def logic_checker_below (c : Dchecker) (i : Int) : Option (Int × Bool) :=
  (idx c.Logic.Nodes i).bind fun e =>
  (logic_parts e.Op).bind fun r =>
  if (r == (0 : Int)) then
  (some (i, ((e.A == (-1 : Int)) && (e.B == (-1 : Int)))))
  else
  (if (r == (1 : Int)) then
  (if (((e.A != (IntKind.i64.wrap (i - (1 : Int)))) || (e.B != (-1 : Int))) || (i == (0 : Int))) then
  (some ((0 : Int), false))
  else
  ((idx c.first e.A).bind fun e1 =>
  some (e1, true)))
  else
  ((if (!((e.B != (IntKind.i64.wrap (i - (1 : Int)))) || (i == (0 : Int)))) then ((idx c.first e.B).bind fun e2 =>
  some (e.A != (IntKind.i64.wrap (e2 - (1 : Int))))) else some true).bind fun t =>
  if (t || (decide (e.A < (0 : Int)))) then
  (some ((0 : Int), false))
  else
  ((idx c.first e.A).bind fun e3 =>
  some (e3, true))))

def logic_checker_all_1_k2 {Sg : Type} (yld : (Int × Bool) → Sg → Option (Bool × Sg)) (nx : Nat → Sg → Dchecker → Option (Sg × Dchecker)) (i : Nat) (s1 : Sg) (ok1 : Bool) (kinds : (List Int)) (ob2 : Dchecker) : Option (Sg × Dchecker) :=
  (app ob2.kinds ([kinds])).bind fun l6 =>
  (yld ((i : Int), (ok1 && (decide ((kinds.length : Int) ≤ (16 : Int))))) s1).bind fun r2 =>
  if ((!r2.1) || (!(ok1 && (decide ((kinds.length : Int) ≤ (16 : Int)))))) then
  (some (r2.2, ({ ob2 with kinds := l6 } : Dchecker)))
  else
  (nx (i + 1) r2.2 ({ ob2 with kinds := l6 } : Dchecker))

def logic_checker_all_1_k1 {Sg : Type} (yld : (Int × Bool) → Sg → Option (Bool × Sg)) (nx : Nat → Sg → Dchecker → Option (Sg × Dchecker)) (i : Nat) (e2 : DLNode) (s1 : Sg) (ok : Bool) (ob1 : Dchecker) : Option (Sg × Dchecker) :=
  if ok then
  ((((mget (mset (mset (mset (mset (mset (mset (mset (mset ([] : List (Int × (Dchecker → DLNode → Option (((List Int) × Bool) × Dchecker)))) (1 : Int) (fun (mc : Dchecker) (mx : DLNode) => (logic_checker_scan mc mx).map fun mr => (mr, mc))) (2 : Int) (fun (mc : Dchecker) (mx : DLNode) => (logic_checker_join mc mx).map fun mr => (mr, mc))) (3 : Int) (fun (mc : Dchecker) (mx : DLNode) => (logic_checker_filter mc mx).map fun mr => (mr, mc))) (4 : Int) (fun (mc : Dchecker) (mx : DLNode) => (logic_checker_group mc mx).map fun mr => (mr, mc))) (5 : Int) (fun (mc : Dchecker) (mx : DLNode) => (logic_checker_project mc mx).map fun mr => (mr, mc))) (6 : Int) (fun (mc : Dchecker) (mx : DLNode) => (logic_checker_distinct mc mx).map fun mr => (mr, mc))) (7 : Int) (fun (mc : Dchecker) (mx : DLNode) => (logic_checker_union mc mx).map fun mr => (mr, mc))) (8 : Int) (fun (mc : Dchecker) (mx : DLNode) => (logic_checker_order mc mx).map fun mr => (mr, mc))) e2.Op).getD (fun _ _ => none)) ob1 (e2)).bind fun r3 =>
  logic_checker_all_1_k2 yld nx i s1 r3.1.2 r3.1.1 r3.2)
  else
  (logic_checker_all_1_k2 yld nx i s1 ok ([]) ob1)

def logic_checker_all_1_l1 {Sg : Type} (yld : (Int × Bool) → Sg → Option (Bool × Sg)) : List DLNode → Nat → Sg → Dchecker → Option (Sg × Dchecker)
  | [], i, s1, ob =>
    some (s1, ob)
  | e2 :: tl, i, s1, ob =>
    (if ((mget (mset (mset (mset (mset (mset (mset (mset (mset ([] : List (Int × (Dchecker → DLNode → Option (((List Int) × Bool) × Dchecker)))) (1 : Int) (fun (mc : Dchecker) (mx : DLNode) => (logic_checker_scan mc mx).map fun mr => (mr, mc))) (2 : Int) (fun (mc : Dchecker) (mx : DLNode) => (logic_checker_join mc mx).map fun mr => (mr, mc))) (3 : Int) (fun (mc : Dchecker) (mx : DLNode) => (logic_checker_filter mc mx).map fun mr => (mr, mc))) (4 : Int) (fun (mc : Dchecker) (mx : DLNode) => (logic_checker_group mc mx).map fun mr => (mr, mc))) (5 : Int) (fun (mc : Dchecker) (mx : DLNode) => (logic_checker_project mc mx).map fun mr => (mr, mc))) (6 : Int) (fun (mc : Dchecker) (mx : DLNode) => (logic_checker_distinct mc mx).map fun mr => (mr, mc))) (7 : Int) (fun (mc : Dchecker) (mx : DLNode) => (logic_checker_union mc mx).map fun mr => (mr, mc))) (8 : Int) (fun (mc : Dchecker) (mx : DLNode) => (logic_checker_order mc mx).map fun mr => (mr, mc))) e2.Op).isSome) then ((logic_bare e2).bind fun r =>
    (logic_zero r).bind fun r1 =>
    some r1) else some false).bind fun t =>
    if t then
    ((logic_checker_below ob (i : Int)).bind fun r4 =>
    (app ob.first ([r4.1])).bind fun l7 =>
    logic_checker_all_1_k1 yld (logic_checker_all_1_l1 yld tl) i e2 s1 r4.2 ({ ob with first := l7 } : Dchecker))
    else
    (logic_checker_all_1_k1 yld (logic_checker_all_1_l1 yld tl) i e2 s1 t ob)

def logic_checker_all_1 {Sg : Type} (c : Dchecker) (yld : (Int × Bool) → Sg → Option (Bool × Sg)) (s : Sg) : Option (Sg × Dchecker) :=
  logic_checker_all_1_l1 yld c.Logic.Nodes 0 s c

def logic_checker_all (c : Dchecker) : Option (ItX (Int × Bool) Dchecker) :=
  some (fun _ => logic_checker_all_1 c)

def logic_look_b1 (x : Int × Bool) (x1 : Bool) (x2 : Int) (p : Bool) : Option (Option Nat × (Bool × Int × Bool)) :=
  if (!x.2) then
  (some (some 0, (false, x.1, true)))
  else
  (some (none, (x1, x2, p)))

def logic_look (l : DLogic) : Option (Dchecker × Int × Bool) :=
  if ((decide ((l.Nodes.length : Int) < (1 : Int))) || (decide ((60 : Int) < (l.Nodes.length : Int)))) then
  (some ((⟨l, [], []⟩ : Dchecker), (0 : Int), false))
  else
  ((logic_checker_all (⟨l, [], []⟩ : Dchecker)).bind fun it =>
  (it (Option Nat × (Bool × Int × Bool)) (bodyJ (fun x s => logic_look_b1 x s.1 s.2.1 s.2.2)) (none, (false, (0 : Int), false))).bind fun r =>
  if r.1.1.isNone then
  ((idx r.2.first (IntKind.i64.wrap ((l.Nodes.length : Int) - (1 : Int)))).bind fun e =>
  some (r.2, (IntKind.i64.wrap ((l.Nodes.length : Int) - (1 : Int))), (e == (0 : Int))))
  else
  ((isT r.1.2.2.2).bind fun _ =>
  some (r.2, r.1.2.2.1, r.1.2.1)))

def logic_Kinds (l : DLogic) : Option ((List Int) × Int) :=
  (logic_look l).bind fun r =>
  if (!r.2.2) then
  (some ([], (230 : Int)))
  else
  ((idx r.1.kinds r.2.1).bind fun e =>
  (slices_Clone_int_int e).bind fun r1 =>
  some (r1, (0 : Int)))

def logic_Check (l : DLogic) : Option (Int × Int) :=
  (logic_look l).bind fun r =>
  if (!r.2.2) then
  (some (r.2.1, (230 : Int)))
  else
  (some ((0 : Int), (0 : Int)))

def slices_Clone_api_Ord_api_Ord (s : (List DOrd)) : Option (List DOrd) :=
  (app ([] : List DOrd) s).bind fun x =>
  some x

def slices_Clone_api_ENode_api_ENode (s : (List DENode)) : Option (List DENode) :=
  (app ([] : List DENode) s).bind fun x =>
  some x

def slices_Clone_api_Agg_api_Agg (s : (List DAgg)) : Option (List DAgg) :=
  (app ([] : List DAgg) s).bind fun x =>
  some x

def slices_Clone_api_Expr_api_Expr (s : (List DExpr)) : Option (List DExpr) :=
  (app ([] : List DExpr) s).bind fun x =>
  some x

def logic_copied_l2 : List DExpr → Nat → DLNode → Option DLNode
  | [], i1, n4 =>
    some n4
  | e1 :: tl1, i1, n4 =>
    (idx n4.Items (i1 : Int)).bind fun e2 =>
    (slices_Clone_api_ENode_api_ENode e2.Nodes).bind fun r6 =>
    (some (n4.Items.set (i1 : Int).toNat ({ e2 with Nodes := r6 } : DExpr))).bind fun st =>
    (logic_copied_l2 tl1) (i1 + 1) ({ n4 with Items := st } : DLNode)

def logic_copied_l1 : List DAgg → Nat → DLNode → Option DLNode
  | [], i, n3 =>
    logic_copied_l2 n3.Items 0 n3
  | e :: tl, i, n3 =>
    (idx n3.Aggs (i : Int)).bind fun e3 =>
    (slices_Clone_api_ENode_api_ENode e3.Arg.Nodes).bind fun r7 =>
    (some (n3.Aggs.set (i : Int).toNat ({ e3 with Arg := ({ e3.Arg with Nodes := r7 } : DExpr) } : DAgg))).bind fun st1 =>
    (logic_copied_l1 tl) (i + 1) ({ n3 with Aggs := st1 } : DLNode)

def logic_copied_k2 (n2 : DLNode) : Option DLNode :=
  (slices_Clone_int_int n2.Kinds).bind fun r =>
  (slices_Clone_int_int n2.Keys).bind fun r1 =>
  (slices_Clone_api_Ord_api_Ord n2.Order).bind fun r2 =>
  (slices_Clone_api_ENode_api_ENode (((DLNode.mk n2.Op n2.A n2.B n2.Table r n2.Left n2.Cond r1 n2.Aggs n2.Items r2 n2.Limit).Cond).Nodes)).bind fun r3 =>
  (slices_Clone_api_Agg_api_Agg (({ (DLNode.mk n2.Op n2.A n2.B n2.Table r n2.Left n2.Cond r1 n2.Aggs n2.Items r2 n2.Limit) with Cond := ({ (DLNode.mk n2.Op n2.A n2.B n2.Table r n2.Left n2.Cond r1 n2.Aggs n2.Items r2 n2.Limit).Cond with Nodes := r3 } : DExpr) } : DLNode).Aggs)).bind fun r4 =>
  (slices_Clone_api_Expr_api_Expr (({ (DLNode.mk n2.Op n2.A n2.B n2.Table r n2.Left n2.Cond r1 n2.Aggs n2.Items r2 n2.Limit) with Cond := ({ (DLNode.mk n2.Op n2.A n2.B n2.Table r n2.Left n2.Cond r1 n2.Aggs n2.Items r2 n2.Limit).Cond with Nodes := r3 } : DExpr) } : DLNode).Items)).bind fun r5 =>
  logic_copied_l1 r4 0 ({ ({ ({ (DLNode.mk n2.Op n2.A n2.B n2.Table r n2.Left n2.Cond r1 n2.Aggs n2.Items r2 n2.Limit) with Cond := ({ (DLNode.mk n2.Op n2.A n2.B n2.Table r n2.Left n2.Cond r1 n2.Aggs n2.Items r2 n2.Limit).Cond with Nodes := r3 } : DExpr) } : DLNode) with Aggs := r4 } : DLNode) with Items := r5 } : DLNode)

def logic_copied_k1 (by1 : Int) (n1 : DLNode) : Option DLNode :=
  if (decide ((0 : Int) ≤ n1.B)) then
  (logic_copied_k2 (DLNode.mk n1.Op n1.A (IntKind.i64.wrap (n1.B + by1)) n1.Table n1.Kinds n1.Left n1.Cond n1.Keys n1.Aggs n1.Items n1.Order n1.Limit))
  else
  (logic_copied_k2 n1)

def logic_copied (n : DLNode) (by1 : Int) : Option DLNode :=
  if (decide ((0 : Int) ≤ n.A)) then
  (logic_copied_k1 by1 (DLNode.mk n.Op (IntKind.i64.wrap (n.A + by1)) n.B n.Table n.Kinds n.Left n.Cond n.Keys n.Aggs n.Items n.Order n.Limit))
  else
  (logic_copied_k1 by1 n)

def logic_laid_l2 (nx : Nat → DLNode → DLogic → DLogic → Option (DLogic × Int)) (i : Nat) (n1 : DLNode) (x : DLogic) (out : DLogic) : List DLNode → DLogic → Option (DLogic × Int)
  | [], out1 =>
    if ((i : Int) == (0 : Int)) then
    (nx (i + 1) (DLNode.mk n1.Op (IntKind.i64.wrap ((out1.Nodes.length : Int) - (1 : Int))) n1.B n1.Table n1.Kinds n1.Left n1.Cond n1.Keys n1.Aggs n1.Items n1.Order n1.Limit) x out1)
    else
    (nx (i + 1) (DLNode.mk n1.Op n1.A (IntKind.i64.wrap ((out1.Nodes.length : Int) - (1 : Int))) n1.Table n1.Kinds n1.Left n1.Cond n1.Keys n1.Aggs n1.Items n1.Order n1.Limit) x out1)
  | e1 :: tl1, out1 =>
    (logic_copied e1 (out.Nodes.length : Int)).bind fun r3 =>
    (app out1.Nodes ([r3])).bind fun l5 =>
    (logic_laid_l2 nx i n1 x out tl1) ({ out1 with Nodes := l5 } : DLogic)

def logic_laid_l1 : List DLogic → Nat → DLNode → DLogic → DLogic → Option (DLogic × Int)
  | [], i, n1, x, out =>
    (logic_copied n1 (0 : Int)).bind fun r =>
    (app out.Nodes ([r])).bind fun l2 =>
    (logic_Check ({ out with Nodes := l2 } : DLogic)).bind fun r1 =>
    if (r1.2 != (0 : Int)) then
    (some ((⟨[]⟩ : DLogic), r1.2))
    else
    (some (({ out with Nodes := l2 } : DLogic), (0 : Int)))
  | e :: tl, i, n1, x, out =>
    (logic_Check e).bind fun r2 =>
    if (r2.2 != (0 : Int)) then
    (some ((⟨[]⟩ : DLogic), r2.2))
    else
    (logic_laid_l2 (logic_laid_l1 tl) i n1 x out e.Nodes out)

def logic_laid (n : DLNode) (l : (List DLogic)) : Option (DLogic × Int) :=
  logic_laid_l1 l 0 (DLNode.mk n.Op (-1 : Int) (-1 : Int) n.Table n.Kinds n.Left n.Cond n.Keys n.Aggs n.Items n.Order n.Limit) (⟨[]⟩ : DLogic) ({ (⟨[]⟩ : DLogic) with Nodes := ([] : List DLNode) } : DLogic)

def logic_Two (n : DLNode) (a1 : DLogic) (b : DLogic) : Option (DLogic × Int) :=
  (logic_laid n ([a1, b])).bind fun r =>
  some (r.1, r.2)

def law13_yes : Option DExpr :=
  some (⟨[(⟨(1 : Int), (-1 : Int), (-1 : Int), (0 : Int), (⟨(1 : Int), (1 : Int), (0 : Int), []⟩ : DValue)⟩ : DENode)]⟩ : DExpr)

def logic_Leaf (n : DLNode) : Option (DLogic × Int) :=
  (logic_laid n ([])).bind fun r =>
  some (r.1, r.2)

def law13_t : Option DLNode :=
  some (⟨(1 : Int), (0 : Int), (0 : Int), (0 : Int), [(2 : Int), (3 : Int)], false, (⟨[]⟩ : DExpr), [], [], [], [], (0 : Int)⟩ : DLNode)

def law13_wakes : Option Bool :=
  (law13_t).bind fun r =>
  (logic_Leaf r).bind fun r1 =>
  (law13_yes).bind fun r2 =>
  (logic_Two (⟨(2 : Int), (0 : Int), (0 : Int), (0 : Int), [], false, r2, [], [], [], [], (0 : Int)⟩ : DLNode) r1.1 r1.1).bind fun r3 =>
  (logic_Kinds r3.1).bind fun r4 =>
  (if ((((r1.2 == (0 : Int)) && (r3.2 == (0 : Int))) && (r4.2 == (0 : Int))) && ((r4.1.length : Int) == (4 : Int))) then ((idx r4.1 (3 : Int)).bind fun e =>
  some (e == (3 : Int))) else some false).bind fun t =>
  some (t && ((r3.1.Nodes.length : Int) == (3 : Int)))

def law13_overExpr_l1 : List DENode → Option Bool
  | [] =>
    some false
  | e1 :: tl =>
    if (decide ((200 : Int) < (e1.Value.S.length : Int))) then
    (some true)
    else
    ((law13_overExpr_l1 tl))

def law13_overExpr (e : DExpr) : Option Bool :=
  if (decide ((200 : Int) < (e.Nodes.length : Int))) then
  (some true)
  else
  (law13_overExpr_l1 e.Nodes)

def law13_overNode_l2 (n : DLNode) : List DAgg → Option Bool
  | [] =>
    (law13_overExpr n.Cond).bind fun r =>
    some r
  | e1 :: tl1 =>
    (law13_overExpr e1.Arg).bind fun r1 =>
    if r1 then
    (some true)
    else
    ((law13_overNode_l2 n tl1))

def law13_overNode_l1 (n : DLNode) : List DExpr → Option Bool
  | [] =>
    law13_overNode_l2 n n.Aggs
  | e :: tl =>
    (law13_overExpr e).bind fun r2 =>
    if r2 then
    (some true)
    else
    ((law13_overNode_l1 n tl))

def law13_overNode (n : DLNode) : Option Bool :=
  if ((((((decide ((40 : Int) < (n.Kinds.length : Int))) || (decide ((40 : Int) < (n.Keys.length : Int)))) || (decide ((40 : Int) < (n.Aggs.length : Int)))) || (decide ((40 : Int) < (n.Items.length : Int)))) || (decide ((40 : Int) < (n.Order.length : Int)))) || (decide ((200 : Int) < (n.Cond.Nodes.length : Int)))) then
  (some true)
  else
  (law13_overNode_l1 n n.Items)

def law13_over_l1 : List DLNode → Option Bool
  | [] =>
    some false
  | e :: tl =>
    (law13_overNode e).bind fun r =>
    if r then
    (some true)
    else
    ((law13_over_l1 tl))

def law13_over (l : DLogic) : Option Bool :=
  if (decide ((70 : Int) < (l.Nodes.length : Int))) then
  (some true)
  else
  (law13_over_l1 l.Nodes)

def slices_IndexFunc_api_ENode_api_ENode_l1 (f : (DENode → Option Bool)) : List DENode → Nat → Option Int
  | [], i =>
    some (-1 : Int)
  | e :: tl, i =>
    (f e).bind fun r =>
    if r then
    (some (i : Int))
    else
    ((slices_IndexFunc_api_ENode_api_ENode_l1 f tl) (i + 1))

def slices_IndexFunc_api_ENode_api_ENode (s : (List DENode)) (f : (DENode → Option Bool)) : Option Int :=
  slices_IndexFunc_api_ENode_api_ENode_l1 f s 0

def slices_ContainsFunc_api_ENode_api_ENode (s : (List DENode)) (f : (DENode → Option Bool)) : Option Bool :=
  (slices_IndexFunc_api_ENode_api_ENode s f).bind fun r =>
  some (decide ((0 : Int) ≤ r))

def expr_Safe_1 (n : DENode) : Option Bool :=
  (expr_arithmetic n.Tag).bind fun r =>
  some r

def expr_Safe (e : DExpr) : Option Bool :=
  (expr_Check e).bind fun r =>
  (if (r == (0 : Int)) then ((slices_ContainsFunc_api_ENode_api_ENode e.Nodes expr_Safe_1).bind fun r1 =>
  some (!r1)) else some false).bind fun t =>
  some t

def logic_Safe_1 (e : DExpr) : Option Bool :=
  (if (decide ((0 : Int) < (e.Nodes.length : Int))) then ((expr_Safe e).bind fun r =>
  some (!r)) else some false).bind fun t =>
  some t

def logic_Safe_2 (unsafe1 : (DExpr → Option Bool)) (a1 : DAgg) : Option Bool :=
  (if (!(a1.Tag == (3 : Int))) then ((unsafe1 a1.Arg).bind fun r =>
  some r) else some true).bind fun t =>
  some t

def slices_IndexFunc_api_Expr_api_Expr_l1 (f : (DExpr → Option Bool)) : List DExpr → Nat → Option Int
  | [], i =>
    some (-1 : Int)
  | e :: tl, i =>
    (f e).bind fun r =>
    if r then
    (some (i : Int))
    else
    ((slices_IndexFunc_api_Expr_api_Expr_l1 f tl) (i + 1))

def slices_IndexFunc_api_Expr_api_Expr (s : (List DExpr)) (f : (DExpr → Option Bool)) : Option Int :=
  slices_IndexFunc_api_Expr_api_Expr_l1 f s 0

def slices_ContainsFunc_api_Expr_api_Expr (s : (List DExpr)) (f : (DExpr → Option Bool)) : Option Bool :=
  (slices_IndexFunc_api_Expr_api_Expr s f).bind fun r =>
  some (decide ((0 : Int) ≤ r))

def slices_IndexFunc_api_Agg_api_Agg_l1 (f : (DAgg → Option Bool)) : List DAgg → Nat → Option Int
  | [], i =>
    some (-1 : Int)
  | e :: tl, i =>
    (f e).bind fun r =>
    if r then
    (some (i : Int))
    else
    ((slices_IndexFunc_api_Agg_api_Agg_l1 f tl) (i + 1))

def slices_IndexFunc_api_Agg_api_Agg (s : (List DAgg)) (f : (DAgg → Option Bool)) : Option Int :=
  slices_IndexFunc_api_Agg_api_Agg_l1 f s 0

def slices_ContainsFunc_api_Agg_api_Agg (s : (List DAgg)) (f : (DAgg → Option Bool)) : Option Bool :=
  (slices_IndexFunc_api_Agg_api_Agg s f).bind fun r =>
  some (decide ((0 : Int) ≤ r))

def logic_Safe_l1 : List DLNode → Option Bool
  | [] =>
    some true
  | e :: tl =>
    (logic_Safe_1 e.Cond).bind fun r1 =>
    (if (!r1) then ((slices_ContainsFunc_api_Expr_api_Expr e.Items logic_Safe_1).bind fun r2 =>
    some r2) else some true).bind fun t =>
    (if (!t) then ((slices_ContainsFunc_api_Agg_api_Agg e.Aggs (logic_Safe_2 logic_Safe_1)).bind fun r3 =>
    some r3) else some true).bind fun t1 =>
    if t1 then
    (some false)
    else
    ((logic_Safe_l1 tl))

def logic_Safe (l : DLogic) : Option Bool :=
  (logic_Check l).bind fun r =>
  if (r.2 != (0 : Int)) then
  (some false)
  else
  (logic_Safe_l1 l.Nodes)

def logic_Tables_l1 : List DLNode → (List Int) → Option (List Int)
  | [], out =>
    (sortIF out).bind fun srt =>
    (slices_Compact_int_int srt).bind fun r1 =>
    some r1
  | e :: tl, out =>
    if (e.Op == (1 : Int)) then
    ((app out ([e.Table])).bind fun out1 =>
    (logic_Tables_l1 tl) out1)
    else
    ((logic_Tables_l1 tl) out)

def logic_Tables (l : DLogic) : Option (List Int) :=
  (logic_Check l).bind fun r =>
  if (r.2 != (0 : Int)) then
  (some ([] : List Int))
  else
  (logic_Tables_l1 l.Nodes ([] : List Int))

def law13_LogicDoubles_l1 (r4 : (List Int) × Int) : List Int → Nat → Option Bool
  | [], i =>
    some true
  | e1 :: tl, i =>
    (idx r4.1 (i : Int)).bind fun e2 =>
    if (e1 != e2) then
    (some false)
    else
    ((law13_LogicDoubles_l1 r4 tl) (i + 1))

def law13_LogicDoubles (l : DLogic) : Option Bool :=
  (law13_wakes).bind fun r =>
  if (!r) then
  (some false)
  else
  ((law13_over l).bind fun r1 =>
  if r1 then
  (some true)
  else
  ((logic_Kinds l).bind fun r2 =>
  (logic_Two (⟨(7 : Int), (0 : Int), (0 : Int), (0 : Int), [], false, (⟨[]⟩ : DExpr), [], [], [], [], (0 : Int)⟩ : DLNode) l l).bind fun r3 =>
  (if (!(r2.2 != (0 : Int))) then ((idx l.Nodes (IntKind.i64.wrap ((l.Nodes.length : Int) - (1 : Int)))).bind fun e =>
  some (e.Op == (8 : Int))) else some true).bind fun t =>
  if (t || (decide ((60 : Int) < (IntKind.i64.wrap ((IntKind.i64.wrap ((2 : Int) * (l.Nodes.length : Int))) + (1 : Int)))))) then
  (some (r3.2 == (230 : Int)))
  else
  ((logic_Kinds r3.1).bind fun r4 =>
  (if (!(((r3.2 != (0 : Int)) || (r4.2 != (0 : Int))) || ((r4.1.length : Int) != (r2.1.length : Int)))) then ((logic_Safe r3.1).bind fun r5 =>
  (logic_Safe l).bind fun r6 =>
  some (r5 != r6)) else some true).bind fun t1 =>
  (if (!t1) then ((logic_Tables r3.1).bind fun r7 =>
  (logic_Tables l).bind fun r8 =>
  some ((r7.length : Int) != (r8.length : Int))) else some true).bind fun t2 =>
  if t2 then
  (some false)
  else
  (law13_LogicDoubles_l1 r4 r2.1 0))))


end Go.Proofs.Ytbhkincjkpeaoaa

