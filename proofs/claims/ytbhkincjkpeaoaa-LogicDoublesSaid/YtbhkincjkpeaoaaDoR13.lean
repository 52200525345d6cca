/- Facts of this claim: R13. -/
import Derived.Test.YtbhkincjkpeaoaaDoF
namespace Go.Proofs.Ytbhkincjkpeaoaa
open Go

def ref13_Parts_k2 (x1 : Bool) : Option Int :=
  if x1 then
  (some (1 : Int))
  else
  (some (-1 : Int))

def ref13_Parts_k1 (op : Int) (x : Bool) : Option Int :=
  if x then
  (some (2 : Int))
  else
  (if (op == (3 : Int)) then
  (ref13_Parts_k2 (op == (3 : Int)))
  else
  (if (op == (4 : Int)) then
  (ref13_Parts_k2 (op == (4 : Int)))
  else
  (if (op == (5 : Int)) then
  (ref13_Parts_k2 (op == (5 : Int)))
  else
  (if (op == (6 : Int)) then
  (ref13_Parts_k2 (op == (6 : Int)))
  else
  (ref13_Parts_k2 (op == (8 : Int)))))))

def ref13_Parts (op : Int) : Option Int :=
  if (op == (1 : Int)) then
  (some (0 : Int))
  else
  (if (op == (2 : Int)) then
  (ref13_Parts_k1 op (op == (2 : Int)))
  else
  (ref13_Parts_k1 op (op == (7 : Int))))

def ref13_Size_f : Nat → DLogic → Int → Option Int
  | 0, _, _ => none
  | fu + 1, l, at1 =>
    if ((decide (at1 < (0 : Int))) || (decide ((l.Nodes.length : Int) ≤ at1))) then
    (some (0 : Int))
    else
    ((idx l.Nodes at1).bind fun e =>
    (ref13_Parts e.Op).bind fun r =>
    if (r == (0 : Int)) then
    (if ((e.A == (-1 : Int)) && (e.B == (-1 : Int))) then
    (some (1 : Int))
    else
    (some (0 : Int)))
    else
    (if (r == (1 : Int)) then
    (if ((e.A == (IntKind.i64.wrap (at1 - (1 : Int)))) && (e.B == (-1 : Int))) then
    (((ref13_Size_f fu) l e.A).bind fun r1 =>
    if (decide ((0 : Int) < r1)) then
    (some (IntKind.i64.wrap (r1 + (1 : Int))))
    else
    (some (0 : Int)))
    else
    (some (0 : Int)))
    else
    (if (r == (2 : Int)) then
    (if (e.B == (IntKind.i64.wrap (at1 - (1 : Int)))) then
    (((ref13_Size_f fu) l e.B).bind fun r2 =>
    if ((decide ((0 : Int) < r2)) && (e.A == (IntKind.i64.wrap (e.B - r2)))) then
    (((ref13_Size_f fu) l e.A).bind fun r3 =>
    if (decide ((0 : Int) < r3)) then
    (some (IntKind.i64.wrap ((IntKind.i64.wrap (r3 + r2)) + (1 : Int))))
    else
    (some (0 : Int)))
    else
    (some (0 : Int)))
    else
    (some (0 : Int)))
    else
    (some (0 : Int)))))

def ref13_Size (l : DLogic) (at1 : Int) : Option Int :=
  ref13_Size_f FUEL l at1

def ref13_Own (n : DLNode) : Option Bool :=
  if ((n.Op != (1 : Int)) && ((n.Table != (0 : Int)) || (decide ((0 : Int) < (n.Kinds.length : Int))))) then
  (some false)
  else
  (if (((n.Op != (2 : Int)) && n.Left) || (((n.Op != (2 : Int)) && (n.Op != (3 : Int))) && (decide ((0 : Int) < (n.Cond.Nodes.length : Int))))) then
  (some false)
  else
  (if (((n.Op != (4 : Int)) && ((decide ((0 : Int) < (n.Keys.length : Int))) || (decide ((0 : Int) < (n.Aggs.length : Int))))) || ((n.Op != (5 : Int)) && (decide ((0 : Int) < (n.Items.length : Int))))) then
  (some false)
  else
  (some ((n.Op == (8 : Int)) || (((n.Order.length : Int) == (0 : Int)) && (n.Limit == (0 : Int)))))))

def ref08_Parts (tag : Int) : Option Int :=
  if ((decide (tag < (1 : Int))) || (decide ((23 : Int) < tag))) then
  (some (-1 : Int))
  else
  (if (decide (tag ≤ (3 : Int))) then
  (some (0 : Int))
  else
  (if (decide (tag ≤ (11 : Int))) then
  (some (1 : Int))
  else
  (some (2 : Int))))

def ref10_Parts (tag : Int) : Option Int :=
  if ((tag == (3 : Int)) || ((decide ((8 : Int) ≤ tag)) && (decide (tag ≤ (11 : Int))))) then
  (some (-1 : Int))
  else
  ((ref08_Parts tag).bind fun r =>
  some r)

def ref02_Right (v : DValue) : Option Bool :=
  if (v.Kind == (0 : Int)) then
  (some (decide (v = (⟨(0 : Int), (0 : Int), (0 : Int), []⟩ : DValue))))
  else
  (if (v.Kind == (1 : Int)) then
  (some (((v.U == (0 : Int)) && (v.S == ([]))) && ((v.N == (0 : Int)) || (v.N == (1 : Int)))))
  else
  (if (v.Kind == (2 : Int)) then
  (some ((v.U == (0 : Int)) && (v.S == ([]))))
  else
  (if (v.Kind == (3 : Int)) then
  (some (((v.N == (0 : Int)) && (v.U == (0 : Int))) && (decide ((v.S.length : Int) ≤ (40 : Int)))))
  else
  (some ((v.Kind == (4 : Int)) && (v.S == ([])))))))

def ref02_Plain (v : DValue) : Option Bool :=
  (ref02_Right v).bind fun r =>
  some (r && (v.Kind != (4 : Int)))

def ref10_counts (n : DENode) : Option Bool :=
  if (n.Tag == (1 : Int)) then
  ((ref02_Plain n.Value).bind fun r =>
  some (r && (n.Col == (0 : Int))))
  else
  (if (n.Tag == (2 : Int)) then
  (some (((decide (n.Value = (⟨(0 : Int), (0 : Int), (0 : Int), []⟩ : DValue))) && (decide ((0 : Int) ≤ n.Col))) && (decide (n.Col < (16 : Int)))))
  else
  (some ((decide (n.Value = (⟨(0 : Int), (0 : Int), (0 : Int), []⟩ : DValue))) && (n.Col == (0 : Int)))))

def ref10_size_f : Nat → DExpr → Int → Option Int
  | 0, _, _ => none
  | fu + 1, e, place =>
    if ((decide (place < (0 : Int))) || (decide ((e.Nodes.length : Int) ≤ place))) then
    (some (0 : Int))
    else
    ((idx e.Nodes place).bind fun e1 =>
    (ref10_Parts e1.Tag).bind fun r =>
    (if (!(decide (r < (0 : Int)))) then ((ref10_counts e1).bind fun r1 =>
    some (!r1)) else some true).bind fun t =>
    if t then
    (some (0 : Int))
    else
    (if (r == (0 : Int)) then
    (if ((e1.L != (-1 : Int)) || (e1.R != (-1 : Int))) then
    (some (0 : Int))
    else
    (some (1 : Int)))
    else
    (((ref10_size_f fu) e (IntKind.i64.wrap (place - (1 : Int)))).bind fun r2 =>
    if (r2 == (0 : Int)) then
    (some (0 : Int))
    else
    (if (r == (1 : Int)) then
    (if ((e1.L != (IntKind.i64.wrap (place - (1 : Int)))) || (e1.R != (-1 : Int))) then
    (some (0 : Int))
    else
    (some (IntKind.i64.wrap (r2 + (1 : Int)))))
    else
    (((ref10_size_f fu) e (IntKind.i64.wrap ((IntKind.i64.wrap (place - (1 : Int))) - r2))).bind fun r3 =>
    if (((r3 == (0 : Int)) || (e1.R != (IntKind.i64.wrap (place - (1 : Int))))) || (e1.L != (IntKind.i64.wrap ((IntKind.i64.wrap (place - (1 : Int))) - r2)))) then
    (some (0 : Int))
    else
    (some (IntKind.i64.wrap ((IntKind.i64.wrap (r3 + r2)) + (1 : Int)))))))))

def ref10_size (e : DExpr) (place : Int) : Option Int :=
  ref10_size_f FUEL e place

def ref10_Right (e : DExpr) : Option Bool :=
  (if ((decide ((1 : Int) ≤ (e.Nodes.length : Int))) && (decide ((e.Nodes.length : Int) ≤ (1000 : Int)))) then ((ref10_size e (IntKind.i64.wrap ((e.Nodes.length : Int) - (1 : Int)))).bind fun r =>
  some (r == (e.Nodes.length : Int))) else some false).bind fun t =>
  some t

def ref10_fits (k : Int) (want : Int) : Option Bool :=
  some ((k == want) || (k == (0 : Int)))

def ref10_kind (tag : Int) (l : Int) (r : Int) : Option (Int × Bool) :=
  if ((tag == (4 : Int)) || ((decide ((12 : Int) ≤ tag)) && (decide (tag ≤ (15 : Int))))) then
  ((ref10_fits l (2 : Int)).bind fun r1 =>
  (if r1 then ((ref10_fits r (2 : Int)).bind fun r2 =>
  some r2) else some false).bind fun t =>
  some ((2 : Int), t))
  else
  (if ((tag == (5 : Int)) || (decide ((22 : Int) ≤ tag))) then
  ((ref10_fits l (1 : Int)).bind fun r3 =>
  (if r3 then ((ref10_fits r (1 : Int)).bind fun r4 =>
  some r4) else some false).bind fun t1 =>
  some ((1 : Int), t1))
  else
  (if ((tag == (6 : Int)) || (tag == (7 : Int))) then
  (some ((1 : Int), true))
  else
  (some ((1 : Int), (((l == r) || (l == (0 : Int))) || (r == (0 : Int)))))))

def ref10_Kind_k1 (nx2 : (List Int) → Option (Int × Int)) (e3 : DENode) (own : List Int) (e6 : Int) (r1 : Int) : Option (Int × Int) :=
  (ref10_kind e3.Tag e6 r1).bind fun r2 =>
  if (!r2.2) then
  (some ((0 : Int), (201 : Int)))
  else
  ((app own ([r2.1])).bind fun own3 =>
  nx2 own3)

def ref10_Kind_l3 (kinds : (List Int)) : List DENode → (List Int) → Option (Int × Int)
  | [], own =>
    (idx own (IntKind.i64.wrap ((own.length : Int) - (1 : Int)))).bind fun e4 =>
    some (e4, (0 : Int))
  | e3 :: tl2, own =>
    if (e3.Tag == (1 : Int)) then
    ((app own ([e3.Value.Kind])).bind fun own1 =>
    (ref10_Kind_l3 kinds tl2) own1)
    else
    (if (e3.Tag == (2 : Int)) then
    ((idx kinds e3.Col).bind fun e5 =>
    (app own ([e5])).bind fun own2 =>
    (ref10_Kind_l3 kinds tl2) own2)
    else
    ((idx own e3.L).bind fun e6 =>
    if (decide ((0 : Int) ≤ e3.R)) then
    ((idx own e3.R).bind fun e7 =>
    ref10_Kind_k1 (ref10_Kind_l3 kinds tl2) e3 own e6 e7)
    else
    (ref10_Kind_k1 (ref10_Kind_l3 kinds tl2) e3 own e6 (0 : Int))))

def ref10_Kind_l2 (e : DExpr) (kinds : (List Int)) : List DENode → Option (Int × Int)
  | [] =>
    ref10_Kind_l3 kinds e.Nodes ([] : List Int)
  | e2 :: tl1 =>
    if ((e2.Tag == (2 : Int)) && (decide ((kinds.length : Int) ≤ e2.Col))) then
    (some ((0 : Int), (2 : Int)))
    else
    ((ref10_Kind_l2 e kinds tl1))

def ref10_Kind_l1 (e : DExpr) (kinds : (List Int)) : List Int → Option (Int × Int)
  | [] =>
    ref10_Kind_l2 e kinds e.Nodes
  | e1 :: tl =>
    if ((decide (e1 < (0 : Int))) || (decide ((3 : Int) < e1))) then
    (some ((0 : Int), (2 : Int)))
    else
    ((ref10_Kind_l1 e kinds tl))

def ref10_Kind (e : DExpr) (kinds : (List Int)) : Option (Int × Int) :=
  (ref10_Right e).bind fun r =>
  if (!r) then
  (some ((0 : Int), (200 : Int)))
  else
  (ref10_Kind_l1 e kinds kinds)

def ref13_truth (e : DExpr) (kinds : (List Int)) : Option Bool :=
  (ref10_Kind e kinds).bind fun r =>
  some ((r.2 == (0 : Int)) && ((r.1 == (0 : Int)) || (r.1 == (1 : Int))))

def ref13_aggregate (a1 : DAgg) (kinds : (List Int)) : Option (Int × Bool) :=
  if (a1.Tag == (1 : Int)) then
  (some ((2 : Int), ((a1.Arg.Nodes.length : Int) == (0 : Int))))
  else
  ((ref10_Kind a1.Arg kinds).bind fun r =>
  if (((decide (a1.Tag < (1 : Int))) || (decide ((5 : Int) < a1.Tag))) || (r.2 != (0 : Int))) then
  (some ((0 : Int), false))
  else
  (if (((a1.Tag == (3 : Int)) && (r.1 != (2 : Int))) && (r.1 != (0 : Int))) then
  (some ((0 : Int), false))
  else
  (if (decide ((4 : Int) ≤ a1.Tag)) then
  (some (r.1, true))
  else
  (some ((2 : Int), true)))))

def ref13_kinds_l1 (n : DLNode) : Nat → Bool → Int → Option ((List Int) × Bool)
  | 0, _, _ => none
  | n1 + 1, ok, i =>
    if (decide (i < (n.Kinds.length : Int))) then
    ((if ok then ((idx n.Kinds i).bind fun e =>
    some (decide ((1 : Int) ≤ e))) else some false).bind fun t =>
    (if t then ((idx n.Kinds i).bind fun e1 =>
    some (decide (e1 ≤ (3 : Int)))) else some false).bind fun t1 =>
    (ref13_kinds_l1 n n1) t1 (IntKind.i64.wrap (i + (1 : Int))))
    else
    (some (n.Kinds, ((((ok && (decide ((0 : Int) ≤ n.Table))) && (decide (n.Table ≤ (3 : Int)))) && (decide ((1 : Int) ≤ (n.Kinds.length : Int)))) && (decide ((n.Kinds.length : Int) ≤ (4 : Int))))))

def ref13_kinds_l3 (n : DLNode) (a1 : (List Int)) : Nat → (List Int) → Bool → Int → Option ((List Int) × Bool)
  | 0, _, _, _ => none
  | n3 + 1, out3, ok1, i2 =>
    if (decide (i2 < (n.Aggs.length : Int))) then
    ((idx n.Aggs i2).bind fun e4 =>
    (ref13_aggregate e4 a1).bind fun r2 =>
    (app out3 ([r2.1])).bind fun out4 =>
    (ref13_kinds_l3 n a1 n3) out4 (ok1 && r2.2) (IntKind.i64.wrap (i2 + (1 : Int))))
    else
    (some (out3, (((ok1 && (decide ((n.Keys.length : Int) ≤ (3 : Int)))) && (decide ((n.Aggs.length : Int) ≤ (12 : Int)))) && (decide ((0 : Int) < (out3.length : Int))))))

def ref13_kinds_l2 (n : DLNode) (a1 : (List Int)) : Nat → (List Int) → Int → Option ((List Int) × Bool)
  | 0, _, _ => none
  | n2 + 1, out1, i1 =>
    if (decide (i1 < (n.Keys.length : Int))) then
    ((idx n.Keys i1).bind fun e2 =>
    if ((decide (e2 < (0 : Int))) || (decide ((a1.length : Int) ≤ e2))) then
    (some ([], false))
    else
    ((idx a1 e2).bind fun e3 =>
    (app out1 ([e3])).bind fun out2 =>
    (ref13_kinds_l2 n a1 n2) out2 (IntKind.i64.wrap (i1 + (1 : Int)))))
    else
    (ref13_kinds_l3 n a1 FUEL out1 true (0 : Int))

def ref13_kinds_l4 (n : DLNode) (a1 : (List Int)) : Nat → (List Int) → Bool → Int → Option ((List Int) × Bool)
  | 0, _, _, _ => none
  | n4 + 1, out5, ok2, i3 =>
    if (decide (i3 < (n.Items.length : Int))) then
    ((idx n.Items i3).bind fun e5 =>
    (ref10_Kind e5 a1).bind fun r3 =>
    (app out5 ([r3.1])).bind fun out6 =>
    (ref13_kinds_l4 n a1 n4) out6 (ok2 && (r3.2 == (0 : Int))) (IntKind.i64.wrap (i3 + (1 : Int))))
    else
    (some (out5, ((ok2 && (decide ((1 : Int) ≤ (out5.length : Int)))) && (decide ((out5.length : Int) ≤ (16 : Int))))))

def ref13_kinds_k1 (b : (List Int)) (nx4 : Nat → (List Int) → Bool → Option ((List Int) × Bool)) (i4 : Nat) (out7 : List Int) (ok3 : Bool) (k : Int) : Option ((List Int) × Bool) :=
  (app out7 ([k])).bind fun out8 =>
  (if ok3 then ((idx b (i4 : Int)).bind fun e7 =>
  (if (!(e7 == k)) then ((idx b (i4 : Int)).bind fun e8 =>
  some (e8 == (0 : Int))) else some true).bind fun t3 =>
  some t3) else some false).bind fun t2 =>
  nx4 (i4 + 1) out8 t2

def ref13_kinds_l5 (b : (List Int)) : List Int → Nat → (List Int) → Bool → Option ((List Int) × Bool)
  | [], i4, out7, ok3 =>
    some (out7, ok3)
  | e6 :: tl, i4, out7, ok3 =>
    if (e6 == (0 : Int)) then
    ((idx b (i4 : Int)).bind fun e9 =>
    ref13_kinds_k1 b (ref13_kinds_l5 b tl) i4 out7 ok3 e9)
    else
    (ref13_kinds_k1 b (ref13_kinds_l5 b tl) i4 out7 ok3 e6)

def ref13_kinds_l6 (n : DLNode) (a1 : (List Int)) : Nat → Bool → Int → Option ((List Int) × Bool)
  | 0, _, _ => none
  | n5 + 1, ok4, i5 =>
    if (decide (i5 < (n.Order.length : Int))) then
    ((if ok4 then ((idx n.Order i5).bind fun e10 =>
    some (decide ((0 : Int) ≤ e10.Col))) else some false).bind fun t4 =>
    (if t4 then ((idx n.Order i5).bind fun e11 =>
    some (decide (e11.Col < (a1.length : Int)))) else some false).bind fun t5 =>
    (ref13_kinds_l6 n a1 n5) t5 (IntKind.i64.wrap (i5 + (1 : Int))))
    else
    (some (a1, (((ok4 && (decide ((n.Order.length : Int) ≤ (3 : Int)))) && (decide ((-1 : Int) ≤ n.Limit))) && (decide (n.Limit ≤ (2147483647 : Int))))))

def ref13_kinds (n : DLNode) (a1 : (List Int)) (b : (List Int)) : Option ((List Int) × Bool) :=
  if (n.Op == (1 : Int)) then
  (ref13_kinds_l1 n FUEL true (0 : Int))
  else
  (if (n.Op == (2 : Int)) then
  ((app ([] : List Int) a1).bind fun l =>
  (app l b).bind fun out =>
  (ref13_truth n.Cond out).bind fun r =>
  some (out, r))
  else
  (if (n.Op == (3 : Int)) then
  ((ref13_truth n.Cond a1).bind fun r1 =>
  some (a1, r1))
  else
  (if (n.Op == (4 : Int)) then
  (ref13_kinds_l2 n a1 FUEL ([] : List Int) (0 : Int))
  else
  (if (n.Op == (5 : Int)) then
  (ref13_kinds_l4 n a1 FUEL ([] : List Int) true (0 : Int))
  else
  (if (n.Op == (6 : Int)) then
  (some (a1, true))
  else
  (if (n.Op == (7 : Int)) then
  (if ((a1.length : Int) != (b.length : Int)) then
  (some ([], false))
  else
  (ref13_kinds_l5 b a1 0 ([] : List Int) true))
  else
  (ref13_kinds_l6 n a1 FUEL true (0 : Int))))))))

def ref13_Kinds_k2 (l : DLogic) (at1 : Int) (e1 : DLNode) (a1 : (List Int)) (b1 : (List Int)) : Option ((List Int) × Bool) :=
  (ref13_kinds e1 a1 b1).bind fun r2 =>
  if (((e1.Op == (8 : Int)) && (at1 != (IntKind.i64.wrap ((l.Nodes.length : Int) - (1 : Int))))) || (decide ((16 : Int) < (r2.1.length : Int)))) then
  (some ([], false))
  else
  (some (r2.1, r2.2))

def ref13_Kinds_k1 (self__ : DLogic → Int → Option ((List Int) × Bool)) (l : DLogic) (at1 : Int) (e1 : DLNode) (a1 : (List Int)) : Option ((List Int) × Bool) :=
  if (decide ((0 : Int) ≤ e1.B)) then
  ((self__ l e1.B).bind fun r3 =>
  if (!r3.2) then
  (some ([], false))
  else
  (ref13_Kinds_k2 l at1 e1 a1 r3.1))
  else
  (ref13_Kinds_k2 l at1 e1 a1 ([]))

def ref13_Kinds_f : Nat → DLogic → Int → Option ((List Int) × Bool)
  | 0, _, _ => none
  | fu + 1, l, at1 =>
    (ref13_Size l at1).bind fun r =>
    (if (!(r == (0 : Int))) then ((idx l.Nodes at1).bind fun e =>
    (ref13_Own e).bind fun r1 =>
    some (!r1)) else some true).bind fun t =>
    if t then
    (some ([], false))
    else
    ((idx l.Nodes at1).bind fun e1 =>
    if (decide ((0 : Int) ≤ e1.A)) then
    (((ref13_Kinds_f fu) l e1.A).bind fun r4 =>
    if (!r4.2) then
    (some ([], false))
    else
    (ref13_Kinds_k1 (ref13_Kinds_f fu) l at1 e1 r4.1))
    else
    (ref13_Kinds_k1 (ref13_Kinds_f fu) l at1 e1 ([])))

def ref13_Kinds (l : DLogic) (at1 : Int) : Option ((List Int) × Bool) :=
  ref13_Kinds_f FUEL l at1

def ref13_Wrong_l1 (l : DLogic) : List DLNode → Nat → Option Int
  | [], i =>
    (ref13_Size l (IntKind.i64.wrap ((l.Nodes.length : Int) - (1 : Int)))).bind fun r =>
    if (r != (l.Nodes.length : Int)) then
    (some (IntKind.i64.wrap ((l.Nodes.length : Int) - (1 : Int))))
    else
    (some (-1 : Int))
  | e :: tl, i =>
    (ref13_Kinds l (i : Int)).bind fun r1 =>
    if (!r1.2) then
    (some (i : Int))
    else
    ((ref13_Wrong_l1 l tl) (i + 1))

def ref13_Wrong (l : DLogic) : Option Int :=
  if ((decide ((l.Nodes.length : Int) < (1 : Int))) || (decide ((60 : Int) < (l.Nodes.length : Int)))) then
  (some (0 : Int))
  else
  (ref13_Wrong_l1 l l.Nodes 0)

def ref13_Right (l : DLogic) : Option Bool :=
  (ref13_Wrong l).bind fun r =>
  some (decide (r < (0 : Int)))

end Go.Proofs.Ytbhkincjkpeaoaa

