/- What each function comes to, as a function of data. -/
import Derived.Test.YtchjhcgkfglgiaaD
import Derived.Test.YtchjhcgkfglgiaaW15
namespace Go.Proofs.Ytchjhcgkfglgiaa
open Go

def value_blank_k1 (v1 : DValue) : Option DValue :=
  some v1

def value_blank_k2 (v2 : DValue) : Option DValue :=
  value_blank_k1 (DValue.mk (0 : Int) v2.N v2.U v2.S)

def value_blank_k3 (v : DValue) : Option DValue :=
  value_blank_k2 (DValue.mk v.Kind (0 : Int) v.U v.S)

def value_blank_k4 (v3 : DValue) : Option DValue :=
  value_blank_k1 v3

def value_blank (v : DValue) : Option DValue :=
  if (v.Kind == (1 : Int)) then
  (if ((v.N != (0 : Int)) && (v.N != (1 : Int))) then
  (value_blank_k1 v)
  else
  (value_blank_k3 v))
  else
  (if (v.Kind == (2 : Int)) then
  (value_blank_k3 v)
  else
  (if (v.Kind == (0 : Int)) then
  (value_blank_k2 v)
  else
  (if (v.Kind == (3 : Int)) then
  (if (decide ((v.S.length : Int) ≤ (40 : Int))) then
  (value_blank_k4 (DValue.mk (0 : Int) v.N v.U ([])))
  else
  (value_blank_k4 v))
  else
  (if (v.Kind == (4 : Int)) then
  (value_blank_k1 (DValue.mk (0 : Int) (0 : Int) (0 : Int) v.S))
  else
  (value_blank_k1 v)))))

def value_Check (v : DValue) : Option Int :=
  (value_blank v).bind fun r =>
  if (!decide (r = (⟨(0 : Int), (0 : Int), (0 : Int), []⟩ : DValue))) then
  (some (120 : Int))
  else
  (some (0 : Int))

def row_right_1 (v : DValue) : Option Bool :=
  (value_Check v).bind fun r =>
  some (r != (0 : Int))

def slices_IndexFunc_api_Row_api_Value_l1 (s : (List DValue)) (f : (DValue → Option Bool)) : Nat → Int → Option Int
  | 0, _ => none
  | n + 1, x =>
    if (decide (x < (s.length : Int))) then
    ((idx s x).bind fun e =>
    (f e).bind fun r =>
    if r then
    (some x)
    else
    ((slices_IndexFunc_api_Row_api_Value_l1 s f n) (IntKind.i64.wrap (x + (1 : Int)))))
    else
    (some (-1 : Int))

def slices_IndexFunc_api_Row_api_Value (s : (List DValue)) (f : (DValue → Option Bool)) : Option Int :=
  slices_IndexFunc_api_Row_api_Value_l1 s f FUEL (0 : Int)

def slices_ContainsFunc_api_Row_api_Value (s : (List DValue)) (f : (DValue → Option Bool)) : Option Bool :=
  (slices_IndexFunc_api_Row_api_Value s f).bind fun r =>
  some (decide ((0 : Int) ≤ r))

def row_right (r : (List DValue)) : Option Bool :=
  (if (decide ((r.length : Int) ≤ (16 : Int))) then ((slices_ContainsFunc_api_Row_api_Value r row_right_1).bind fun r1 =>
  some (!r1)) else some false).bind fun t =>
  some t

def slices_CompareFunc_api_Row_api_Row_api_Value_api_Value_l1 (s1 : (List DValue)) (s2 : (List DValue)) (cmp : (DValue → DValue → Option Int)) : Nat → Int → Option Int
  | 0, _ => none
  | n + 1, x =>
    if (decide (x < (s1.length : Int))) then
    ((idx s1 x).bind fun e =>
    if (decide ((s2.length : Int) ≤ x)) then
    (some (1 : Int))
    else
    ((idx s2 x).bind fun e1 =>
    (cmp e e1).bind fun r =>
    if (r != (0 : Int)) then
    (some r)
    else
    ((slices_CompareFunc_api_Row_api_Row_api_Value_api_Value_l1 s1 s2 cmp n) (IntKind.i64.wrap (x + (1 : Int))))))
    else
    (if (decide ((s1.length : Int) < (s2.length : Int))) then
    (some (-1 : Int))
    else
    (some (0 : Int)))

def slices_CompareFunc_api_Row_api_Row_api_Value_api_Value (s1 : (List DValue)) (s2 : (List DValue)) (cmp : (DValue → DValue → Option Int)) : Option Int :=
  slices_CompareFunc_api_Row_api_Row_api_Value_api_Value_l1 s1 s2 cmp FUEL (0 : Int)

def cmp_Or_int_l1 (vals : (List Int)) : Nat → Int → Option Int
  | 0, _ => none
  | n + 1, x =>
    if (decide (x < (vals.length : Int))) then
    ((idx vals x).bind fun e =>
    if (e != (0 : Int)) then
    (some e)
    else
    ((cmp_Or_int_l1 vals n) (IntKind.i64.wrap (x + (1 : Int)))))
    else
    (some (0 : Int))

def cmp_Or_int (vals : (List Int)) : Option Int :=
  cmp_Or_int_l1 vals FUEL (0 : Int)

def cmp_isNaN_int (p : Int) : Option Bool :=
  some (p != p)

def cmp_Compare_int (p : Int) (y : Int) : Option Int :=
  (cmp_isNaN_int p).bind fun r =>
  (cmp_isNaN_int y).bind fun r1 =>
  if r then
  (if r1 then
  (some (0 : Int))
  else
  (some (-1 : Int)))
  else
  (if r1 then
  (some (1 : Int))
  else
  (if (decide (p < y)) then
  (some (-1 : Int))
  else
  (if (decide (y < p)) then
  (some (1 : Int))
  else
  (some (0 : Int)))))

def cmp_isNaN_int64 (p : Int) : Option Bool :=
  some (p != p)

def cmp_Compare_int64 (p : Int) (y : Int) : Option Int :=
  (cmp_isNaN_int64 p).bind fun r =>
  (cmp_isNaN_int64 y).bind fun r1 =>
  if r then
  (if r1 then
  (some (0 : Int))
  else
  (some (-1 : Int)))
  else
  (if r1 then
  (some (1 : Int))
  else
  (if (decide (p < y)) then
  (some (-1 : Int))
  else
  (if (decide (y < p)) then
  (some (1 : Int))
  else
  (some (0 : Int)))))

def cmp_isNaN_uint64 (p : Int) : Option Bool :=
  some (p != p)

def cmp_Compare_uint64 (p : Int) (y : Int) : Option Int :=
  (cmp_isNaN_uint64 p).bind fun r =>
  (cmp_isNaN_uint64 y).bind fun r1 =>
  if r then
  (if r1 then
  (some (0 : Int))
  else
  (some (-1 : Int)))
  else
  (if r1 then
  (some (1 : Int))
  else
  (if (decide (p < y)) then
  (some (-1 : Int))
  else
  (if (decide (y < p)) then
  (some (1 : Int))
  else
  (some (0 : Int)))))

def cmp_isNaN_string (p : Str) : Option Bool :=
  some (!(p == p))

def cmp_Compare_string (p : Str) (y : Str) : Option Int :=
  (cmp_isNaN_string p).bind fun r =>
  (cmp_isNaN_string y).bind fun r1 =>
  if r then
  (if r1 then
  (some (0 : Int))
  else
  (some (-1 : Int)))
  else
  (if r1 then
  (some (1 : Int))
  else
  (if (Op.bytesLess p y) then
  (some (-1 : Int))
  else
  (if (!(Op.bytesLess p y || p == y)) then
  (some (1 : Int))
  else
  (some (0 : Int)))))

def row_values (a1 : DValue) (b : DValue) : Option Int :=
  (cmp_Compare_int a1.Kind b.Kind).bind fun r =>
  (cmp_Compare_int64 a1.N b.N).bind fun r1 =>
  (cmp_Compare_uint64 a1.U b.U).bind fun r2 =>
  (cmp_Compare_string a1.S b.S).bind fun r3 =>
  (cmp_Or_int ([r, r1, r2, r3])).bind fun r4 =>
  some r4

def row_order (a1 : (List DValue)) (b : (List DValue)) : Option Int :=
  (slices_CompareFunc_api_Row_api_Row_api_Value_api_Value a1 b row_values).bind fun r =>
  some r

def row_Compare (a1 : (List DValue)) (b : (List DValue)) : Option Int :=
  (row_right a1).bind fun r =>
  (if (!(!r)) then ((row_right b).bind fun r1 =>
  some (!r1)) else some true).bind fun t =>
  if t then
  (some (0 : Int))
  else
  ((row_order a1 b).bind fun r2 =>
  some r2)

def row_lists_l2 (nx : Int → Int → Option Int) (n : Int) (x : Int) (e : (List (List DValue))) : Nat → Int → Option Int
  | 0, _ => none
  | n2 + 1, x1 =>
    if (decide (x1 < (e.length : Int))) then
    ((idx e x1).bind fun e1 =>
    (row_right e1).bind fun r =>
    if (!r) then
    (some (150 : Int))
    else
    ((row_lists_l2 nx n x e n2) (IntKind.i64.wrap (x1 + (1 : Int)))))
    else
    (nx (max n (e.length : Int)) (IntKind.i64.wrap (x + (1 : Int))))

def row_lists_l1 (l : (List (List (List DValue)))) : Nat → Int → Int → Option Int
  | 0, _, _ => none
  | n1 + 1, n, x =>
    if (decide (x < (l.length : Int))) then
    ((idx l x).bind fun e =>
    row_lists_l2 (row_lists_l1 l n1) n x e FUEL (0 : Int))
    else
    (if (decide ((8000 : Int) < n)) then
    (some (3 : Int))
    else
    (some (0 : Int)))

def row_lists (l : (List (List (List DValue)))) : Option Int :=
  row_lists_l1 l FUEL (0 : Int) (0 : Int)

def row_asked_1 (c : Int) : Option Bool :=
  some (decide (c < (0 : Int)))

def slices_IndexFunc_int_int_l1 (s : (List Int)) (f : (Int → Option Bool)) : Nat → Int → Option Int
  | 0, _ => none
  | n + 1, x =>
    if (decide (x < (s.length : Int))) then
    ((idx s x).bind fun e =>
    (f e).bind fun r =>
    if r then
    (some x)
    else
    ((slices_IndexFunc_int_int_l1 s f n) (IntKind.i64.wrap (x + (1 : Int)))))
    else
    (some (-1 : Int))

def slices_IndexFunc_int_int (s : (List Int)) (f : (Int → Option Bool)) : Option Int :=
  slices_IndexFunc_int_int_l1 s f FUEL (0 : Int)

def slices_ContainsFunc_int_int (s : (List Int)) (f : (Int → Option Bool)) : Option Bool :=
  (slices_IndexFunc_int_int s f).bind fun r =>
  some (decide ((0 : Int) ≤ r))

def row_has_1 (r : (List DValue)) (c : Int) : Option Bool :=
  some ((decide (c < (0 : Int))) || (decide ((r.length : Int) ≤ c)))

def row_has (r : (List DValue)) (columns : (List Int)) : Option Bool :=
  (if (decide ((columns.length : Int) ≤ (16 : Int))) then ((slices_ContainsFunc_int_int columns (row_has_1 r)).bind fun r1 =>
  some (!r1)) else some false).bind fun t =>
  some t

def row_asked_l1 (l : (List (List DValue))) (columns : (List Int)) : Nat → Int → Option Int
  | 0, _ => none
  | n + 1, x =>
    if (decide (x < (l.length : Int))) then
    ((idx l x).bind fun e =>
    (row_has e columns).bind fun r2 =>
    if (!r2) then
    (some (2 : Int))
    else
    ((row_asked_l1 l columns n) (IntKind.i64.wrap (x + (1 : Int)))))
    else
    (some (0 : Int))

def row_asked (l : (List (List DValue))) (columns : (List Int)) : Option Int :=
  (row_lists ([l])).bind fun r =>
  if (r != (0 : Int)) then
  (some r)
  else
  ((if (!(decide ((16 : Int) < (columns.length : Int)))) then ((slices_ContainsFunc_int_int columns row_asked_1).bind fun r1 =>
  some r1) else some true).bind fun t =>
  if t then
  (some (2 : Int))
  else
  (row_asked_l1 l columns FUEL (0 : Int)))

def row_take_l1 (r : (List DValue)) (columns : (List Int)) : Nat → (List DValue) → Int → Option (List DValue)
  | 0, _, _ => none
  | n + 1, out, x =>
    if (decide (x < (columns.length : Int))) then
    ((idx columns x).bind fun e =>
    (idx r e).bind fun e1 =>
    (app out ([e1])).bind fun out1 =>
    (row_take_l1 r columns n) out1 (IntKind.i64.wrap (x + (1 : Int))))
    else
    (some out)

def row_take (r : (List DValue)) (columns : (List Int)) : Option (List DValue) :=
  row_take_l1 r columns FUEL ([] : List DValue) (0 : Int)

def slices_Clone_api_Row_api_Value (s : (List DValue)) : Option (List DValue) :=
  (app ([] : List DValue) s).bind fun x =>
  some x

def row_copies_l1 (l : (List (List DValue))) : Nat → (List (List DValue)) → Int → Option (List (List DValue))
  | 0, _, _ => none
  | n + 1, out, x =>
    if (decide (x < (l.length : Int))) then
    ((idx l x).bind fun e =>
    (slices_Clone_api_Row_api_Value e).bind fun r =>
    (app out ([r])).bind fun out1 =>
    (row_copies_l1 l n) out1 (IntKind.i64.wrap (x + (1 : Int))))
    else
    (some out)

def row_copies (l : (List (List DValue))) : Option (List (List DValue)) :=
  row_copies_l1 l FUEL ([] : List (List DValue)) (0 : Int)

def row_Groups_1 (columns : (List Int)) (a1 : (List DValue)) (b : (List DValue)) : Option Int :=
  (row_take a1 columns).bind fun r =>
  (row_take b columns).bind fun r1 =>
  (row_order r r1).bind fun r2 =>
  (row_order a1 b).bind fun r3 =>
  (cmp_Or_int ([r2, r3])).bind fun r4 =>
  some r4

def slices_Equal_api_Row_api_Value_l1 (s1 : (List DValue)) (s2 : (List DValue)) : Nat → Int → Option Bool
  | 0, _ => none
  | n + 1, x =>
    if (decide (x < (s1.length : Int))) then
    ((idx s1 x).bind fun e =>
    (idx s2 x).bind fun e1 =>
    if (!decide (e = e1)) then
    (some false)
    else
    ((slices_Equal_api_Row_api_Value_l1 s1 s2 n) (IntKind.i64.wrap (x + (1 : Int)))))
    else
    (some true)

def slices_Equal_api_Row_api_Value (s1 : (List DValue)) (s2 : (List DValue)) : Option Bool :=
  if ((s1.length : Int) != (s2.length : Int)) then
  (some false)
  else
  (slices_Equal_api_Row_api_Value_l1 s1 s2 FUEL (0 : Int))

def row_equal (a1 : (List DValue)) (b : (List DValue)) : Option Bool :=
  (slices_Equal_api_Row_api_Value a1 b).bind fun r =>
  some r

def row_Groups_2 (columns : (List Int)) (a1 : (List DValue)) (b : (List DValue)) : Option Bool :=
  (row_take a1 columns).bind fun r =>
  (row_take b columns).bind fun r1 =>
  (row_equal r r1).bind fun r2 =>
  some r2

def row_runs_1_l2 {Sg : Type} (alike : ((List DValue) → (List DValue) → Option Bool)) (yld : (List (List DValue)) → Sg → Option (Bool × Sg)) (nx : Sg → (List (List DValue)) → Option Sg) (s1 : Sg) (x : (List (List DValue))) : Nat → Int → Option Sg
  | 0, _ => none
  | n2 + 1, n1 =>
    (if (decide (n1 < (x.length : Int))) then ((idx x (0 : Int)).bind fun e2 =>
    (idx x n1).bind fun e3 =>
    (alike e2 e3).bind fun r =>
    some r) else some false).bind fun t =>
    if t then
    ((row_runs_1_l2 alike yld nx s1 x n2) (IntKind.i64.wrap (n1 + (1 : Int))))
    else
    ((sliceF x 0 n1).bind fun y =>
    (yld (y) s1).bind fun r1 =>
    if (!r1.1) then
    (some r1.2)
    else
    ((sliceF x n1 (x.length : Int)).bind fun y1 =>
    nx r1.2 y1))

def row_runs_1_l1 {Sg : Type} (alike : ((List DValue) → (List DValue) → Option Bool)) (yld : (List (List DValue)) → Sg → Option (Bool × Sg)) : Nat → Sg → (List (List DValue)) → Option Sg
  | 0, _, _ => none
  | n + 1, s1, x =>
    if (decide ((0 : Int) < (x.length : Int))) then
    (row_runs_1_l2 alike yld (row_runs_1_l1 alike yld n) s1 x FUEL (1 : Int))
    else
    (some s1)

def row_runs_1 {Sg : Type} (l : (List (List DValue))) (alike : ((List DValue) → (List DValue) → Option Bool)) (yld : (List (List DValue)) → Sg → Option (Bool × Sg)) (s : Sg) : Option Sg :=
  row_runs_1_l1 alike yld FUEL s l

def row_runs (l : (List (List DValue))) (alike : ((List DValue) → (List DValue) → Option Bool)) : Option (It (List (List DValue))) :=
  some (fun _ => row_runs_1 l alike)

def slices_Clone_api_Row_api_Row (s : (List (List DValue))) : Option (List (List DValue)) :=
  (app ([] : List (List DValue)) s).bind fun x =>
  some x

def row_Groups_b1 (columns : (List Int)) (x : (List (List DValue))) (xs : List DGroup) : Option (List DGroup) :=
  (idx x (0 : Int)).bind fun e =>
  (row_take e columns).bind fun r2 =>
  (slices_Clone_api_Row_api_Row x).bind fun r3 =>
  (app xs ([(⟨r2, r3⟩ : DGroup)])).bind fun l3 =>
  some l3

def row_Groups (l : (List (List DValue))) (columns : (List Int)) : Option ((List DGroup) × Int) :=
  (row_asked l columns).bind fun r =>
  if (r != (0 : Int)) then
  (some ([], r))
  else
  ((row_copies l).bind fun r1 =>
  (sortF (fun (x : (List DValue) × (List DValue)) => (row_Groups_1 columns) x.1 x.2) r1).bind fun srt =>
  (row_runs srt (row_Groups_2 columns)).bind fun it =>
  (it (List DGroup) (bodyY (fun x s => row_Groups_b1 columns x s)) ([] : List DGroup)).bind fun xs1 =>
  some (xs1, (0 : Int)))

def law05_of_l1 (l : (List Int)) : Nat → (List DValue) → Int → Option (List DValue)
  | 0, _, _ => none
  | n + 1, out, x =>
    if (decide (x < (l.length : Int))) then
    ((idx l x).bind fun e =>
    (app out ([(⟨(2 : Int), e, (0 : Int), []⟩ : DValue)])).bind fun out1 =>
    (law05_of_l1 l n) out1 (IntKind.i64.wrap (x + (1 : Int))))
    else
    (some out)

def law05_of (l : (List Int)) : Option (List DValue) :=
  law05_of_l1 l FUEL ([] : List DValue) (0 : Int)

def law05_wakes : Option Bool :=
  (law05_of ([(1 : Int), (5 : Int)])).bind fun r =>
  (law05_of ([(2 : Int), (6 : Int)])).bind fun r1 =>
  (law05_of ([(1 : Int), (4 : Int)])).bind fun r2 =>
  (row_Groups ([r, r1, r2]) ([(0 : Int)])).bind fun r3 =>
  (if ((r3.2 == (0 : Int)) && ((r3.1.length : Int) == (2 : Int))) then ((idx r3.1 (0 : Int)).bind fun e =>
  some ((e.Rows.length : Int) == (2 : Int))) else some false).bind fun t =>
  (if t then ((idx r3.1 (0 : Int)).bind fun e1 =>
  (idx e1.Rows (0 : Int)).bind fun e2 =>
  (law05_of ([(1 : Int), (4 : Int)])).bind fun r4 =>
  (row_Compare e2 r4).bind fun r5 =>
  some (r5 == (0 : Int))) else some false).bind fun t1 =>
  (if t1 then ((law05_of ([(1 : Int)])).bind fun r6 =>
  (law05_of ([(1 : Int), (0 : Int)])).bind fun r7 =>
  (row_Compare r6 r7).bind fun r8 =>
  some (r8 == (-1 : Int))) else some false).bind fun t2 =>
  some t2

def law05_large_l1 (r : (List DValue)) : Nat → Int → Option Bool
  | 0, _ => none
  | n + 1, x =>
    if (decide (x < (r.length : Int))) then
    ((idx r x).bind fun e =>
    if (decide ((200 : Int) < (e.S.length : Int))) then
    (some true)
    else
    ((law05_large_l1 r n) (IntKind.i64.wrap (x + (1 : Int)))))
    else
    (some false)

def law05_large (r : (List DValue)) : Option Bool :=
  if (decide ((30 : Int) < (r.length : Int))) then
  (some true)
  else
  (law05_large_l1 r FUEL (0 : Int))

def law05_over_l1 (l : (List (List DValue))) : Nat → Int → Option Bool
  | 0, _ => none
  | n + 1, x =>
    if (decide (x < (l.length : Int))) then
    ((idx l x).bind fun e =>
    (law05_large e).bind fun r =>
    if r then
    (some true)
    else
    ((law05_over_l1 l n) (IntKind.i64.wrap (x + (1 : Int)))))
    else
    (some false)

def law05_over (l : (List (List DValue))) : Option Bool :=
  if (decide ((100 : Int) < (l.length : Int))) then
  (some true)
  else
  (law05_over_l1 l FUEL (0 : Int))

def ref02_Right (v : DValue) : Option Bool :=
  if (v.Kind == (0 : Int)) then
  (some (decide (v = (⟨(0 : Int), (0 : Int), (0 : Int), []⟩ : DValue))))
  else
  (if (v.Kind == (1 : Int)) then
  (some (((v.U == (0 : Int)) && (v.S == ([]))) && ((v.N == (0 : Int)) || (v.N == (1 : Int)))))
  else
  (if (v.Kind == (2 : Int)) then
  (some ((v.U == (0 : Int)) && (v.S == ([]))))
  else
  (if (v.Kind == (3 : Int)) then
  (some (((v.N == (0 : Int)) && (v.U == (0 : Int))) && (decide ((v.S.length : Int) ≤ (40 : Int)))))
  else
  (some ((v.Kind == (4 : Int)) && (v.S == ([])))))))

def ref05_Right_l1 (r : (List DValue)) : Nat → Int → Option Bool
  | 0, _ => none
  | n + 1, i =>
    if (decide (i < (r.length : Int))) then
    ((idx r i).bind fun e =>
    (ref02_Right e).bind fun r1 =>
    if (!r1) then
    (some false)
    else
    ((ref05_Right_l1 r n) (IntKind.i64.wrap (i + (1 : Int)))))
    else
    (some true)

def ref05_Right (r : (List DValue)) : Option Bool :=
  if (decide ((16 : Int) < (r.length : Int))) then
  (some false)
  else
  (ref05_Right_l1 r FUEL (0 : Int))

def row_Check (r : (List DValue)) : Option Int :=
  (row_right r).bind fun r1 =>
  if (!r1) then
  (some (150 : Int))
  else
  (some (0 : Int))

def ref05_sign (less : Bool) : Option Int :=
  if less then
  (some (-1 : Int))
  else
  (some (1 : Int))

def ref05_Value (a1 : DValue) (b : DValue) : Option Int :=
  if (a1.Kind != b.Kind) then
  ((ref05_sign (decide (a1.Kind < b.Kind))).bind fun r =>
  some r)
  else
  (if (a1.N != b.N) then
  ((ref05_sign (decide (a1.N < b.N))).bind fun r1 =>
  some r1)
  else
  (if (a1.U != b.U) then
  ((ref05_sign (decide (a1.U < b.U))).bind fun r2 =>
  some r2)
  else
  (if (!(a1.S == b.S)) then
  ((ref05_sign (Op.bytesLess a1.S b.S)).bind fun r3 =>
  some r3)
  else
  (some (0 : Int)))))

def ref05_Compare_l1 (a1 : (List DValue)) (b : (List DValue)) : Nat → Int → Option Int
  | 0, _ => none
  | n + 1, i =>
    if ((decide (i < (a1.length : Int))) && (decide (i < (b.length : Int)))) then
    ((idx a1 i).bind fun e =>
    (idx b i).bind fun e1 =>
    (ref05_Value e e1).bind fun r =>
    if (r != (0 : Int)) then
    (some r)
    else
    ((ref05_Compare_l1 a1 b n) (IntKind.i64.wrap (i + (1 : Int)))))
    else
    (if ((a1.length : Int) == (b.length : Int)) then
    (some (0 : Int))
    else
    ((ref05_sign (decide ((a1.length : Int) < (b.length : Int)))).bind fun r1 =>
    some r1))

def ref05_Compare (a1 : (List DValue)) (b : (List DValue)) : Option Int :=
  ref05_Compare_l1 a1 b FUEL (0 : Int)

def slices_EqualFunc_api_Row_api_Row_api_Row_api_Row_l1 (s1 : (List (List DValue))) (s2 : (List (List DValue))) (eq : ((List DValue) → (List DValue) → Option Bool)) : Nat → Int → Option Bool
  | 0, _ => none
  | n + 1, x =>
    if (decide (x < (s1.length : Int))) then
    ((idx s1 x).bind fun e =>
    (idx s2 x).bind fun e1 =>
    (eq e e1).bind fun r =>
    if (!r) then
    (some false)
    else
    ((slices_EqualFunc_api_Row_api_Row_api_Row_api_Row_l1 s1 s2 eq n) (IntKind.i64.wrap (x + (1 : Int)))))
    else
    (some true)

def slices_EqualFunc_api_Row_api_Row_api_Row_api_Row (s1 : (List (List DValue))) (s2 : (List (List DValue))) (eq : ((List DValue) → (List DValue) → Option Bool)) : Option Bool :=
  if ((s1.length : Int) != (s2.length : Int)) then
  (some false)
  else
  (slices_EqualFunc_api_Row_api_Row_api_Row_api_Row_l1 s1 s2 eq FUEL (0 : Int))

def row_Same (a1 : (List (List DValue))) (b : (List (List DValue))) : Option Bool :=
  (slices_EqualFunc_api_Row_api_Row_api_Row_api_Row a1 b row_equal).bind fun r =>
  some r

def law05_copied_l1 (l : (List (List DValue))) : Nat → (List (List DValue)) → Int → Option (List (List DValue))
  | 0, _, _ => none
  | n + 1, out, x =>
    if (decide (x < (l.length : Int))) then
    ((idx l x).bind fun e =>
    (app ([] : List DValue) e).bind fun l3 =>
    (app out ([l3])).bind fun out1 =>
    (law05_copied_l1 l n) out1 (IntKind.i64.wrap (x + (1 : Int))))
    else
    (some out)

def law05_copied (l : (List (List DValue))) : Option (List (List DValue)) :=
  law05_copied_l1 l FUEL ([] : List (List DValue)) (0 : Int)

def law05_RowTells_k1 (nx : Int → Option Bool) (x : Int) : Option Bool :=
  nx (IntKind.i64.wrap (x + (1 : Int)))

def law05_RowTells_k2 (p1 : (List (List DValue))) (nx : Int → Option Bool) (x : Int) (e : (List DValue)) (x1 : Int) : Option Bool :=
  (idx p1 x).bind fun e1 =>
  (row_Compare e e1).bind fun r5 =>
  if (r5 != x1) then
  (some false)
  else
  (law05_RowTells_k1 nx x)

def law05_RowTells_l3 (p : (List (List DValue))) (p1 : (List (List DValue))) (nx1 : Bool → Int → Option Bool) (x3 : Int) : Nat → Bool → Int → Option Bool
  | 0, _, _ => none
  | n2 + 1, x4, x5 =>
    (idx p x3).bind fun e6 =>
    if ((decide (x5 < (e6.length : Int))) && x4) then
    ((idx p x3).bind fun e7 =>
    (idx e7 x5).bind fun e8 =>
    (idx p1 x3).bind fun e9 =>
    (idx e9 x5).bind fun e10 =>
    (law05_RowTells_l3 p p1 nx1 x3 n2) (decide (e8 = e10)) (IntKind.i64.wrap (x5 + (1 : Int))))
    else
    (nx1 x4 (IntKind.i64.wrap (x3 + (1 : Int))))

def law05_RowTells_l2 (p : (List (List DValue))) (p1 : (List (List DValue))) : Nat → Bool → Int → Option Bool
  | 0, _, _ => none
  | n1 + 1, x2, x3 =>
    if ((decide (x3 < (p.length : Int))) && x2) then
    ((idx p x3).bind fun e4 =>
    (idx p1 x3).bind fun e5 =>
    law05_RowTells_l3 p p1 (law05_RowTells_l2 p p1 n1) x3 FUEL ((e4.length : Int) == (e5.length : Int)) (0 : Int))
    else
    ((row_Same p p1).bind fun r8 =>
    (if (r8 == x2) then ((law05_copied p).bind fun r9 =>
    (row_Same p r9).bind fun r10 =>
    some r10) else some false).bind fun t2 =>
    some t2)

def law05_RowTells_l1 (p : (List (List DValue))) (p1 : (List (List DValue))) : Nat → Int → Option Bool
  | 0, _ => none
  | n + 1, x =>
    if (decide (x < (p.length : Int))) then
    ((idx p x).bind fun e =>
    (ref05_Right e).bind fun r3 =>
    (row_Check e).bind fun r4 =>
    if ((r3 != (r4 == (0 : Int))) || ((!r3) && (r4 != (150 : Int)))) then
    (some false)
    else
    (if ((decide ((p1.length : Int) ≤ x)) || (x == (20 : Int))) then
    (law05_RowTells_k1 (law05_RowTells_l1 p p1 n) x)
    else
    ((if r3 then ((idx p1 x).bind fun e2 =>
    (ref05_Right e2).bind fun r6 =>
    some r6) else some false).bind fun t1 =>
    if t1 then
    ((idx p1 x).bind fun e3 =>
    (ref05_Compare e e3).bind fun r7 =>
    law05_RowTells_k2 p1 (law05_RowTells_l1 p p1 n) x e r7)
    else
    (law05_RowTells_k2 p1 (law05_RowTells_l1 p p1 n) x e (0 : Int)))))
    else
    (law05_RowTells_l2 p p1 FUEL ((p.length : Int) == (p1.length : Int)) (0 : Int))

def law05_RowTells (p : (List (List DValue))) (p1 : (List (List DValue))) : Option Bool :=
  (law05_wakes).bind fun r =>
  if (!r) then
  (some false)
  else
  ((law05_over p).bind fun r1 =>
  (if (!r1) then ((law05_over p1).bind fun r2 =>
  some r2) else some true).bind fun t =>
  if t then
  (some true)
  else
  (law05_RowTells_l1 p p1 FUEL (0 : Int)))

def law05_RowOrder_k2 (nx : Int → Option Bool) (x1 : Int) : Option Bool :=
  nx (IntKind.i64.wrap (x1 + (1 : Int)))

def law05_RowOrder_k3 (nx1 : Int → Option Bool) (x2 : Int) : Option Bool :=
  nx1 (IntKind.i64.wrap (x2 + (1 : Int)))

def law05_RowOrder_l3 (x : (List (List DValue))) (e : (List DValue)) (nx1 : Int → Option Bool) (x2 : Int) (e1 : (List DValue)) : Nat → Int → Option Bool
  | 0, _ => none
  | n2 + 1, x3 =>
    if (decide (x3 < (x.length : Int))) then
    ((idx x x3).bind fun e2 =>
    (row_Check e2).bind fun r9 =>
    (if (r9 == (0 : Int)) then ((row_Compare e e1).bind fun r10 =>
    some (decide (r10 ≤ (0 : Int)))) else some false).bind fun t2 =>
    (if t2 then ((row_Compare e1 e2).bind fun r11 =>
    some (decide (r11 ≤ (0 : Int)))) else some false).bind fun t3 =>
    (if t3 then ((row_Compare e e2).bind fun r12 =>
    some (decide ((0 : Int) < r12))) else some false).bind fun t4 =>
    if t4 then
    (some false)
    else
    ((law05_RowOrder_l3 x e nx1 x2 e1 n2) (IntKind.i64.wrap (x3 + (1 : Int)))))
    else
    (law05_RowOrder_k3 nx1 x2)

def law05_RowOrder_l2 (x : (List (List DValue))) (nx : Int → Option Bool) (x1 : Int) (e : (List DValue)) : Nat → Int → Option Bool
  | 0, _ => none
  | n1 + 1, x2 =>
    if (decide (x2 < (x.length : Int))) then
    ((idx x x2).bind fun e1 =>
    (row_Check e1).bind fun r4 =>
    if (r4 != (0 : Int)) then
    (law05_RowOrder_k3 (law05_RowOrder_l2 x nx x1 e n1) x2)
    else
    ((row_Compare e e1).bind fun r5 =>
    (row_Compare e1 e).bind fun r6 =>
    (if (!(r5 != (IntKind.i64.wrap (0 - r6)))) then ((row_Compare e e1).bind fun r7 =>
    (row_Same ([e]) ([e1])).bind fun r8 =>
    some ((r7 == (0 : Int)) != r8)) else some true).bind fun t1 =>
    if t1 then
    (some false)
    else
    (law05_RowOrder_l3 x e (law05_RowOrder_l2 x nx x1 e n1) x2 e1 FUEL (0 : Int))))
    else
    (law05_RowOrder_k2 nx x1)

def law05_RowOrder_l1 (p1 : Int) (x : (List (List DValue))) : Nat → Int → Option Bool
  | 0, _ => none
  | n + 1, x1 =>
    if (decide (x1 < (x.length : Int))) then
    ((idx x x1).bind fun e =>
    (row_Check e).bind fun r2 =>
    if (r2 != (0 : Int)) then
    (law05_RowOrder_k2 (law05_RowOrder_l1 p1 x n) x1)
    else
    ((nz (IntKind.i64.wrap ((e.length : Int) + (1 : Int)))).bind fun _ =>
    (if (decide ((((max p1 (0 : Int))).tmod (IntKind.i64.wrap ((e.length : Int) + (1 : Int)))) < (e.length : Int))) then ((sliceF e 0 (((max p1 (0 : Int))).tmod (IntKind.i64.wrap ((e.length : Int) + (1 : Int))))).bind fun y =>
    (row_Compare y e).bind fun r3 =>
    some (r3 != (-1 : Int))) else some false).bind fun t =>
    if t then
    (some false)
    else
    (law05_RowOrder_l2 x (law05_RowOrder_l1 p1 x n) x1 e FUEL (0 : Int))))
    else
    (some true)

def law05_RowOrder_k1 (p1 : Int) (x : (List (List DValue))) : Option Bool :=
  (law05_over x).bind fun r1 =>
  if r1 then
  (some true)
  else
  (law05_RowOrder_l1 p1 x FUEL (0 : Int))

def law05_RowOrder (p : (List (List DValue))) (p1 : Int) : Option Bool :=
  (law05_wakes).bind fun r =>
  if (!r) then
  (some false)
  else
  (if (decide ((12 : Int) < (p.length : Int))) then
  ((sliceF p 0 (12 : Int)).bind fun y1 =>
  law05_RowOrder_k1 p1 y1)
  else
  (law05_RowOrder_k1 p1 p))


end Go.Proofs.Ytchjhcgkfglgiaa
