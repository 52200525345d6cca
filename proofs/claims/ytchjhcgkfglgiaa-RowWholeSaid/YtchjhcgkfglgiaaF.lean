/- What each function comes to, as a function of data. -/
import Derived.Test.YtchjhcgkfglgiaaD
import Derived.Test.YtchjhcgkfglgiaaW15
namespace Go.Proofs.Ytchjhcgkfglgiaa
open Go

def value_blank_k1 (v1 : DValue) : Option DValue :=
  some v1

def value_blank_k2 (v2 : DValue) : Option DValue :=
  value_blank_k1 (DValue.mk (0 : Int) v2.N v2.U v2.S)

def value_blank_k3 (v : DValue) : Option DValue :=
  value_blank_k2 (DValue.mk v.Kind (0 : Int) v.U v.S)

def value_blank_k4 (v3 : DValue) : Option DValue :=
  value_blank_k1 v3

def value_blank (v : DValue) : Option DValue :=
  if (v.Kind == (1 : Int)) then
  (if ((v.N != (0 : Int)) && (v.N != (1 : Int))) then
  (value_blank_k1 v)
  else
  (value_blank_k3 v))
  else
  (if (v.Kind == (2 : Int)) then
  (value_blank_k3 v)
  else
  (if (v.Kind == (0 : Int)) then
  (value_blank_k2 v)
  else
  (if (v.Kind == (3 : Int)) then
  (if (decide ((v.S.length : Int) ≤ (40 : Int))) then
  (value_blank_k4 (DValue.mk (0 : Int) v.N v.U ([])))
  else
  (value_blank_k4 v))
  else
  (if (v.Kind == (4 : Int)) then
  (value_blank_k1 (DValue.mk (0 : Int) (0 : Int) (0 : Int) v.S))
  else
  (value_blank_k1 v)))))

def value_Check (v : DValue) : Option Int :=
  (value_blank v).bind fun r =>
  if (!decide (r = (⟨(0 : Int), (0 : Int), (0 : Int), []⟩ : DValue))) then
  (some (120 : Int))
  else
  (some (0 : Int))

def row_right_1 (v : DValue) : Option Bool :=
  (value_Check v).bind fun r =>
  some (r != (0 : Int))

def slices_IndexFunc_api_Row_api_Value_l1 (f : (DValue → Option Bool)) : List DValue → Nat → Option Int
  | [], i =>
    some (-1 : Int)
  | e :: tl, i =>
    (f e).bind fun r =>
    if r then
    (some (i : Int))
    else
    ((slices_IndexFunc_api_Row_api_Value_l1 f tl) (i + 1))

def slices_IndexFunc_api_Row_api_Value (s : (List DValue)) (f : (DValue → Option Bool)) : Option Int :=
  slices_IndexFunc_api_Row_api_Value_l1 f s 0

def slices_ContainsFunc_api_Row_api_Value (s : (List DValue)) (f : (DValue → Option Bool)) : Option Bool :=
  (slices_IndexFunc_api_Row_api_Value s f).bind fun r =>
  some (decide ((0 : Int) ≤ r))

def row_right (r : (List DValue)) : Option Bool :=
  (if (decide ((r.length : Int) ≤ (16 : Int))) then ((slices_ContainsFunc_api_Row_api_Value r row_right_1).bind fun r1 =>
  some (!r1)) else some false).bind fun t =>
  some t

def slices_CompareFunc_api_Row_api_Row_api_Value_api_Value_l1 (s1 : (List DValue)) (s2 : (List DValue)) (cmp : (DValue → DValue → Option Int)) : List DValue → Nat → Option Int
  | [], i =>
    if (decide ((s1.length : Int) < (s2.length : Int))) then
    (some (-1 : Int))
    else
    (some (0 : Int))
  | e :: tl, i =>
    if (decide ((s2.length : Int) ≤ (i : Int))) then
    (some (1 : Int))
    else
    ((idx s2 (i : Int)).bind fun e1 =>
    (cmp e e1).bind fun r =>
    if (r != (0 : Int)) then
    (some r)
    else
    ((slices_CompareFunc_api_Row_api_Row_api_Value_api_Value_l1 s1 s2 cmp tl) (i + 1)))

def slices_CompareFunc_api_Row_api_Row_api_Value_api_Value (s1 : (List DValue)) (s2 : (List DValue)) (cmp : (DValue → DValue → Option Int)) : Option Int :=
  slices_CompareFunc_api_Row_api_Row_api_Value_api_Value_l1 s1 s2 cmp s1 0

def cmp_Or_int_l1 : List Int → Option Int
  | [] =>
    some (0 : Int)
  | e :: tl =>
    if (e != (0 : Int)) then
    (some e)
    else
    ((cmp_Or_int_l1 tl))

def cmp_Or_int (vals : (List Int)) : Option Int :=
  cmp_Or_int_l1 vals

def cmp_isNaN_int (p : Int) : Option Bool :=
  some (p != p)

def cmp_Compare_int (p : Int) (y : Int) : Option Int :=
  (cmp_isNaN_int p).bind fun r =>
  (cmp_isNaN_int y).bind fun r1 =>
  if r then
  (if r1 then
  (some (0 : Int))
  else
  (some (-1 : Int)))
  else
  (if r1 then
  (some (1 : Int))
  else
  (if (decide (p < y)) then
  (some (-1 : Int))
  else
  (if (decide (y < p)) then
  (some (1 : Int))
  else
  (some (0 : Int)))))

def cmp_isNaN_int64 (p : Int) : Option Bool :=
  some (p != p)

def cmp_Compare_int64 (p : Int) (y : Int) : Option Int :=
  (cmp_isNaN_int64 p).bind fun r =>
  (cmp_isNaN_int64 y).bind fun r1 =>
  if r then
  (if r1 then
  (some (0 : Int))
  else
  (some (-1 : Int)))
  else
  (if r1 then
  (some (1 : Int))
  else
  (if (decide (p < y)) then
  (some (-1 : Int))
  else
  (if (decide (y < p)) then
  (some (1 : Int))
  else
  (some (0 : Int)))))

def cmp_isNaN_uint64 (p : Int) : Option Bool :=
  some (p != p)

def cmp_Compare_uint64 (p : Int) (y : Int) : Option Int :=
  (cmp_isNaN_uint64 p).bind fun r =>
  (cmp_isNaN_uint64 y).bind fun r1 =>
  if r then
  (if r1 then
  (some (0 : Int))
  else
  (some (-1 : Int)))
  else
  (if r1 then
  (some (1 : Int))
  else
  (if (decide (p < y)) then
  (some (-1 : Int))
  else
  (if (decide (y < p)) then
  (some (1 : Int))
  else
  (some (0 : Int)))))

def cmp_isNaN_string (p : Str) : Option Bool :=
  some (!(p == p))

def cmp_Compare_string (p : Str) (y : Str) : Option Int :=
  (cmp_isNaN_string p).bind fun r =>
  (cmp_isNaN_string y).bind fun r1 =>
  if r then
  (if r1 then
  (some (0 : Int))
  else
  (some (-1 : Int)))
  else
  (if r1 then
  (some (1 : Int))
  else
  (if (Op.bytesLess p y) then
  (some (-1 : Int))
  else
  (if (!(Op.bytesLess p y || p == y)) then
  (some (1 : Int))
  else
  (some (0 : Int)))))

def row_values (a1 : DValue) (b : DValue) : Option Int :=
  (cmp_Compare_int a1.Kind b.Kind).bind fun r =>
  (cmp_Compare_int64 a1.N b.N).bind fun r1 =>
  (cmp_Compare_uint64 a1.U b.U).bind fun r2 =>
  (cmp_Compare_string a1.S b.S).bind fun r3 =>
  (cmp_Or_int ([r, r1, r2, r3])).bind fun r4 =>
  some r4

def row_order (a1 : (List DValue)) (b : (List DValue)) : Option Int :=
  (slices_CompareFunc_api_Row_api_Row_api_Value_api_Value a1 b row_values).bind fun r =>
  some r

def row_Compare (a1 : (List DValue)) (b : (List DValue)) : Option Int :=
  (row_right a1).bind fun r =>
  (if (!(!r)) then ((row_right b).bind fun r1 =>
  some (!r1)) else some true).bind fun t =>
  if t then
  (some (0 : Int))
  else
  ((row_order a1 b).bind fun r2 =>
  some r2)

def row_lists_l2 (nx : Int → Option Int) (e : (List (List DValue))) (n : Int) : List (List DValue) → Option Int
  | [] =>
    nx (max n (e.length : Int))
  | e1 :: tl1 =>
    (row_right e1).bind fun r =>
    if (!r) then
    (some (150 : Int))
    else
    ((row_lists_l2 nx e n tl1))

def row_lists_l1 : List (List (List DValue)) → Int → Option Int
  | [], n =>
    if (decide ((8000 : Int) < n)) then
    (some (3 : Int))
    else
    (some (0 : Int))
  | e :: tl, n =>
    row_lists_l2 (row_lists_l1 tl) e n e

def row_lists (l : (List (List (List DValue)))) : Option Int :=
  row_lists_l1 l (0 : Int)

def row_asked_1 (c : Int) : Option Bool :=
  some (decide (c < (0 : Int)))

def slices_IndexFunc_int_int_l1 (f : (Int → Option Bool)) : List Int → Nat → Option Int
  | [], i =>
    some (-1 : Int)
  | e :: tl, i =>
    (f e).bind fun r =>
    if r then
    (some (i : Int))
    else
    ((slices_IndexFunc_int_int_l1 f tl) (i + 1))

def slices_IndexFunc_int_int (s : (List Int)) (f : (Int → Option Bool)) : Option Int :=
  slices_IndexFunc_int_int_l1 f s 0

def slices_ContainsFunc_int_int (s : (List Int)) (f : (Int → Option Bool)) : Option Bool :=
  (slices_IndexFunc_int_int s f).bind fun r =>
  some (decide ((0 : Int) ≤ r))

def row_has_1 (r : (List DValue)) (c : Int) : Option Bool :=
  some ((decide (c < (0 : Int))) || (decide ((r.length : Int) ≤ c)))

def row_has (r : (List DValue)) (columns : (List Int)) : Option Bool :=
  (if (decide ((columns.length : Int) ≤ (16 : Int))) then ((slices_ContainsFunc_int_int columns (row_has_1 r)).bind fun r1 =>
  some (!r1)) else some false).bind fun t =>
  some t

def row_asked_l1 (columns : (List Int)) : List (List DValue) → Option Int
  | [] =>
    some (0 : Int)
  | e :: tl =>
    (row_has e columns).bind fun r2 =>
    if (!r2) then
    (some (2 : Int))
    else
    ((row_asked_l1 columns tl))

def row_asked (l : (List (List DValue))) (columns : (List Int)) : Option Int :=
  (row_lists ([l])).bind fun r =>
  if (r != (0 : Int)) then
  (some r)
  else
  ((if (!(decide ((16 : Int) < (columns.length : Int)))) then ((slices_ContainsFunc_int_int columns row_asked_1).bind fun r1 =>
  some r1) else some true).bind fun t =>
  if t then
  (some (2 : Int))
  else
  (row_asked_l1 columns l))

def row_take_l1 (r : (List DValue)) : List Int → (List DValue) → Option (List DValue)
  | [], out =>
    some out
  | e :: tl, out =>
    (idx r e).bind fun e1 =>
    (app out ([e1])).bind fun out1 =>
    (row_take_l1 r tl) out1

def row_take (r : (List DValue)) (columns : (List Int)) : Option (List DValue) :=
  row_take_l1 r columns ([] : List DValue)

def slices_Clone_api_Row_api_Value (s : (List DValue)) : Option (List DValue) :=
  (app ([] : List DValue) s).bind fun x =>
  some x

def row_copies_l1 : List (List DValue) → (List (List DValue)) → Option (List (List DValue))
  | [], out =>
    some out
  | e :: tl, out =>
    (slices_Clone_api_Row_api_Value e).bind fun r =>
    (app out ([r])).bind fun out1 =>
    (row_copies_l1 tl) out1

def row_copies (l : (List (List DValue))) : Option (List (List DValue)) :=
  row_copies_l1 l ([] : List (List DValue))

def row_Groups_1 (columns : (List Int)) (a1 : (List DValue)) (b : (List DValue)) : Option Int :=
  (row_take a1 columns).bind fun r =>
  (row_take b columns).bind fun r1 =>
  (row_order r r1).bind fun r2 =>
  (row_order a1 b).bind fun r3 =>
  (cmp_Or_int ([r2, r3])).bind fun r4 =>
  some r4

def slices_Equal_api_Row_api_Value_l1 (s2 : (List DValue)) : List DValue → Nat → Option Bool
  | [], i =>
    some true
  | e :: tl, i =>
    (idx s2 (i : Int)).bind fun e1 =>
    if (!decide (e = e1)) then
    (some false)
    else
    ((slices_Equal_api_Row_api_Value_l1 s2 tl) (i + 1))

def slices_Equal_api_Row_api_Value (s1 : (List DValue)) (s2 : (List DValue)) : Option Bool :=
  if ((s1.length : Int) != (s2.length : Int)) then
  (some false)
  else
  (slices_Equal_api_Row_api_Value_l1 s2 s1 0)

def row_equal (a1 : (List DValue)) (b : (List DValue)) : Option Bool :=
  (slices_Equal_api_Row_api_Value a1 b).bind fun r =>
  some r

def row_Groups_2 (columns : (List Int)) (a1 : (List DValue)) (b : (List DValue)) : Option Bool :=
  (row_take a1 columns).bind fun r =>
  (row_take b columns).bind fun r1 =>
  (row_equal r r1).bind fun r2 =>
  some r2

def row_runs_1_l2 {Sg : Type} (alike : ((List DValue) → (List DValue) → Option Bool)) (yld : (List (List DValue)) → Sg → Option (Bool × Sg)) (nx : Sg → (List (List DValue)) → Option Sg) (s1 : Sg) (x : (List (List DValue))) : Nat → Int → Option Sg
  | 0, _ => none
  | n2 + 1, n1 =>
    (if (decide (n1 < (x.length : Int))) then ((idx x (0 : Int)).bind fun e2 =>
    (idx x n1).bind fun e3 =>
    (alike e2 e3).bind fun r =>
    some r) else some false).bind fun t =>
    if t then
    ((row_runs_1_l2 alike yld nx s1 x n2) (IntKind.i64.wrap (n1 + (1 : Int))))
    else
    ((sliceF x 0 n1).bind fun y =>
    (yld (y) s1).bind fun r1 =>
    if (!r1.1) then
    (some r1.2)
    else
    ((sliceF x n1 (x.length : Int)).bind fun y1 =>
    nx r1.2 y1))

def row_runs_1_l1 {Sg : Type} (alike : ((List DValue) → (List DValue) → Option Bool)) (yld : (List (List DValue)) → Sg → Option (Bool × Sg)) : Nat → Sg → (List (List DValue)) → Option Sg
  | 0, _, _ => none
  | n + 1, s1, x =>
    if (decide ((0 : Int) < (x.length : Int))) then
    (row_runs_1_l2 alike yld (row_runs_1_l1 alike yld n) s1 x FUEL (1 : Int))
    else
    (some s1)

def row_runs_1 {Sg : Type} (l : (List (List DValue))) (alike : ((List DValue) → (List DValue) → Option Bool)) (yld : (List (List DValue)) → Sg → Option (Bool × Sg)) (s : Sg) : Option Sg :=
  row_runs_1_l1 alike yld FUEL s l

def row_runs (l : (List (List DValue))) (alike : ((List DValue) → (List DValue) → Option Bool)) : Option (It (List (List DValue))) :=
  some (fun _ => row_runs_1 l alike)

def slices_Clone_api_Row_api_Row (s : (List (List DValue))) : Option (List (List DValue)) :=
  (app ([] : List (List DValue)) s).bind fun x =>
  some x

def row_Groups_b1 (columns : (List Int)) (x : (List (List DValue))) (xs : List DGroup) : Option (List DGroup) :=
  (idx x (0 : Int)).bind fun e =>
  (row_take e columns).bind fun r2 =>
  (slices_Clone_api_Row_api_Row x).bind fun r3 =>
  (app xs ([(⟨r2, r3⟩ : DGroup)])).bind fun l3 =>
  some l3

def row_Groups (l : (List (List DValue))) (columns : (List Int)) : Option ((List DGroup) × Int) :=
  (row_asked l columns).bind fun r =>
  if (r != (0 : Int)) then
  (some ([], r))
  else
  ((row_copies l).bind fun r1 =>
  (sortF (fun (x : (List DValue) × (List DValue)) => (row_Groups_1 columns) x.1 x.2) r1).bind fun srt =>
  (row_runs srt (row_Groups_2 columns)).bind fun it =>
  (it (List DGroup) (bodyY (fun x s => row_Groups_b1 columns x s)) ([] : List DGroup)).bind fun xs1 =>
  some (xs1, (0 : Int)))

def law05_of_l1 : List Int → (List DValue) → Option (List DValue)
  | [], out =>
    some out
  | e :: tl, out =>
    (app out ([(⟨(2 : Int), e, (0 : Int), []⟩ : DValue)])).bind fun out1 =>
    (law05_of_l1 tl) out1

def law05_of (l : (List Int)) : Option (List DValue) :=
  law05_of_l1 l ([] : List DValue)

def law05_wakes : Option Bool :=
  (law05_of ([(1 : Int), (5 : Int)])).bind fun r =>
  (law05_of ([(2 : Int), (6 : Int)])).bind fun r1 =>
  (law05_of ([(1 : Int), (4 : Int)])).bind fun r2 =>
  (row_Groups ([r, r1, r2]) ([(0 : Int)])).bind fun r3 =>
  (if ((r3.2 == (0 : Int)) && ((r3.1.length : Int) == (2 : Int))) then ((idx r3.1 (0 : Int)).bind fun e =>
  some ((e.Rows.length : Int) == (2 : Int))) else some false).bind fun t =>
  (if t then ((idx r3.1 (0 : Int)).bind fun e1 =>
  (idx e1.Rows (0 : Int)).bind fun e2 =>
  (law05_of ([(1 : Int), (4 : Int)])).bind fun r4 =>
  (row_Compare e2 r4).bind fun r5 =>
  some (r5 == (0 : Int))) else some false).bind fun t1 =>
  (if t1 then ((law05_of ([(1 : Int)])).bind fun r6 =>
  (law05_of ([(1 : Int), (0 : Int)])).bind fun r7 =>
  (row_Compare r6 r7).bind fun r8 =>
  some (r8 == (-1 : Int))) else some false).bind fun t2 =>
  some t2

def law05_large_l1 : List DValue → Option Bool
  | [] =>
    some false
  | e :: tl =>
    if (decide ((200 : Int) < (e.S.length : Int))) then
    (some true)
    else
    ((law05_large_l1 tl))

def law05_large (r : (List DValue)) : Option Bool :=
  if (decide ((30 : Int) < (r.length : Int))) then
  (some true)
  else
  (law05_large_l1 r)

def law05_over_l1 : List (List DValue) → Option Bool
  | [] =>
    some false
  | e :: tl =>
    (law05_large e).bind fun r =>
    if r then
    (some true)
    else
    ((law05_over_l1 tl))

def law05_over (l : (List (List DValue))) : Option Bool :=
  if (decide ((100 : Int) < (l.length : Int))) then
  (some true)
  else
  (law05_over_l1 l)

def ref02_Right (v : DValue) : Option Bool :=
  if (v.Kind == (0 : Int)) then
  (some (decide (v = (⟨(0 : Int), (0 : Int), (0 : Int), []⟩ : DValue))))
  else
  (if (v.Kind == (1 : Int)) then
  (some (((v.U == (0 : Int)) && (v.S == ([]))) && ((v.N == (0 : Int)) || (v.N == (1 : Int)))))
  else
  (if (v.Kind == (2 : Int)) then
  (some ((v.U == (0 : Int)) && (v.S == ([]))))
  else
  (if (v.Kind == (3 : Int)) then
  (some (((v.N == (0 : Int)) && (v.U == (0 : Int))) && (decide ((v.S.length : Int) ≤ (40 : Int)))))
  else
  (some ((v.Kind == (4 : Int)) && (v.S == ([])))))))

def ref05_Right_l1 : List DValue → Option Bool
  | [] =>
    some true
  | e :: tl =>
    (ref02_Right e).bind fun r1 =>
    if (!r1) then
    (some false)
    else
    ((ref05_Right_l1 tl))

def ref05_Right (r : (List DValue)) : Option Bool :=
  if (decide ((16 : Int) < (r.length : Int))) then
  (some false)
  else
  (ref05_Right_l1 r)

def row_Check (r : (List DValue)) : Option Int :=
  (row_right r).bind fun r1 =>
  if (!r1) then
  (some (150 : Int))
  else
  (some (0 : Int))

def ref05_sign (less : Bool) : Option Int :=
  if less then
  (some (-1 : Int))
  else
  (some (1 : Int))

def ref05_Value (a1 : DValue) (b : DValue) : Option Int :=
  if (a1.Kind != b.Kind) then
  ((ref05_sign (decide (a1.Kind < b.Kind))).bind fun r =>
  some r)
  else
  (if (a1.N != b.N) then
  ((ref05_sign (decide (a1.N < b.N))).bind fun r1 =>
  some r1)
  else
  (if (a1.U != b.U) then
  ((ref05_sign (decide (a1.U < b.U))).bind fun r2 =>
  some r2)
  else
  (if (!(a1.S == b.S)) then
  ((ref05_sign (Op.bytesLess a1.S b.S)).bind fun r3 =>
  some r3)
  else
  (some (0 : Int)))))

def ref05_Compare_l1 (a1 : (List DValue)) (b : (List DValue)) : Nat → Int → Option Int
  | 0, _ => none
  | n + 1, i =>
    if ((decide (i < (a1.length : Int))) && (decide (i < (b.length : Int)))) then
    ((idx a1 i).bind fun e =>
    (idx b i).bind fun e1 =>
    (ref05_Value e e1).bind fun r =>
    if (r != (0 : Int)) then
    (some r)
    else
    ((ref05_Compare_l1 a1 b n) (IntKind.i64.wrap (i + (1 : Int)))))
    else
    (if ((a1.length : Int) == (b.length : Int)) then
    (some (0 : Int))
    else
    ((ref05_sign (decide ((a1.length : Int) < (b.length : Int)))).bind fun r1 =>
    some r1))

def ref05_Compare (a1 : (List DValue)) (b : (List DValue)) : Option Int :=
  ref05_Compare_l1 a1 b FUEL (0 : Int)

def slices_EqualFunc_api_Row_api_Row_api_Row_api_Row_l1 (s2 : (List (List DValue))) (eq : ((List DValue) → (List DValue) → Option Bool)) : List (List DValue) → Nat → Option Bool
  | [], i =>
    some true
  | e :: tl, i =>
    (idx s2 (i : Int)).bind fun e1 =>
    (eq e e1).bind fun r =>
    if (!r) then
    (some false)
    else
    ((slices_EqualFunc_api_Row_api_Row_api_Row_api_Row_l1 s2 eq tl) (i + 1))

def slices_EqualFunc_api_Row_api_Row_api_Row_api_Row (s1 : (List (List DValue))) (s2 : (List (List DValue))) (eq : ((List DValue) → (List DValue) → Option Bool)) : Option Bool :=
  if ((s1.length : Int) != (s2.length : Int)) then
  (some false)
  else
  (slices_EqualFunc_api_Row_api_Row_api_Row_api_Row_l1 s2 eq s1 0)

def row_Same (a1 : (List (List DValue))) (b : (List (List DValue))) : Option Bool :=
  (slices_EqualFunc_api_Row_api_Row_api_Row_api_Row a1 b row_equal).bind fun r =>
  some r

def law05_copied_l1 : List (List DValue) → (List (List DValue)) → Option (List (List DValue))
  | [], out =>
    some out
  | e :: tl, out =>
    (app ([] : List DValue) e).bind fun l3 =>
    (app out ([l3])).bind fun out1 =>
    (law05_copied_l1 tl) out1

def law05_copied (l : (List (List DValue))) : Option (List (List DValue)) :=
  law05_copied_l1 l ([] : List (List DValue))

def law05_RowTells_l3 (nx1 : Bool → Int → Option Bool) (x1 : Int) (e1 : (List DValue)) (e2 : (List DValue)) : Nat → Bool → Int → Option Bool
  | 0, _, _ => none
  | n1 + 1, x2, x3 =>
    if ((decide (x3 < (e1.length : Int))) && x2) then
    ((idx e1 x3).bind fun e3 =>
    (idx e2 x3).bind fun e4 =>
    (law05_RowTells_l3 nx1 x1 e1 e2 n1) (decide (e3 = e4)) (IntKind.i64.wrap (x3 + (1 : Int))))
    else
    (nx1 x2 (IntKind.i64.wrap (x1 + (1 : Int))))

def law05_RowTells_l2 (p : (List (List DValue))) (p1 : (List (List DValue))) : Nat → Bool → Int → Option Bool
  | 0, _, _ => none
  | n + 1, x, x1 =>
    if ((decide (x1 < (p.length : Int))) && x) then
    ((idx p x1).bind fun e1 =>
    (idx p1 x1).bind fun e2 =>
    law05_RowTells_l3 (law05_RowTells_l2 p p1 n) x1 e1 e2 FUEL ((e1.length : Int) == (e2.length : Int)) (0 : Int))
    else
    ((row_Same p p1).bind fun r3 =>
    (if (r3 == x) then ((law05_copied p).bind fun r4 =>
    (row_Same p r4).bind fun r5 =>
    some r5) else some false).bind fun t1 =>
    some t1)

def law05_RowTells_k1 (nx : Nat → Option Bool) (i : Nat) : Option Bool :=
  nx (i + 1)

def law05_RowTells_k2 (p1 : (List (List DValue))) (nx : Nat → Option Bool) (i : Nat) (e : (List DValue)) (x4 : Int) : Option Bool :=
  (idx p1 (i : Int)).bind fun e5 =>
  (row_Compare e e5).bind fun r8 =>
  if (r8 != x4) then
  (some false)
  else
  (law05_RowTells_k1 nx i)

def law05_RowTells_l1 (p : (List (List DValue))) (p1 : (List (List DValue))) : List (List DValue) → Nat → Option Bool
  | [], i =>
    law05_RowTells_l2 p p1 FUEL ((p.length : Int) == (p1.length : Int)) (0 : Int)
  | e :: tl, i =>
    (ref05_Right e).bind fun r6 =>
    (row_Check e).bind fun r7 =>
    if ((r6 != (r7 == (0 : Int))) || ((!r6) && (r7 != (150 : Int)))) then
    (some false)
    else
    (if ((decide ((p1.length : Int) ≤ (i : Int))) || ((i : Int) == (20 : Int))) then
    (law05_RowTells_k1 (law05_RowTells_l1 p p1 tl) i)
    else
    ((if r6 then ((idx p1 (i : Int)).bind fun e6 =>
    (ref05_Right e6).bind fun r9 =>
    some r9) else some false).bind fun t2 =>
    if t2 then
    ((idx p1 (i : Int)).bind fun e7 =>
    (ref05_Compare e e7).bind fun r10 =>
    law05_RowTells_k2 p1 (law05_RowTells_l1 p p1 tl) i e r10)
    else
    (law05_RowTells_k2 p1 (law05_RowTells_l1 p p1 tl) i e (0 : Int))))

def law05_RowTells (p : (List (List DValue))) (p1 : (List (List DValue))) : Option Bool :=
  (law05_wakes).bind fun r =>
  if (!r) then
  (some false)
  else
  ((law05_over p).bind fun r1 =>
  (if (!r1) then ((law05_over p1).bind fun r2 =>
  some r2) else some true).bind fun t =>
  if t then
  (some true)
  else
  (law05_RowTells_l1 p p1 p 0))

def law05_RowOrder_k2 (nx : Option Bool) : Option Bool :=
  nx

def law05_RowOrder_k3 (nx1 : Option Bool) : Option Bool :=
  nx1

def law05_RowOrder_l3 (e : (List DValue)) (nx1 : Option Bool) (e1 : (List DValue)) : List (List DValue) → Option Bool
  | [] =>
    law05_RowOrder_k3 nx1
  | e2 :: tl2 =>
    (row_Check e2).bind fun r9 =>
    (if (r9 == (0 : Int)) then ((row_Compare e e1).bind fun r10 =>
    some (decide (r10 ≤ (0 : Int)))) else some false).bind fun t2 =>
    (if t2 then ((row_Compare e1 e2).bind fun r11 =>
    some (decide (r11 ≤ (0 : Int)))) else some false).bind fun t3 =>
    (if t3 then ((row_Compare e e2).bind fun r12 =>
    some (decide ((0 : Int) < r12))) else some false).bind fun t4 =>
    if t4 then
    (some false)
    else
    ((law05_RowOrder_l3 e nx1 e1 tl2))

def law05_RowOrder_l2 (x : (List (List DValue))) (nx : Option Bool) (e : (List DValue)) : List (List DValue) → Option Bool
  | [] =>
    law05_RowOrder_k2 nx
  | e1 :: tl1 =>
    (row_Check e1).bind fun r4 =>
    if (r4 != (0 : Int)) then
    (law05_RowOrder_k3 (law05_RowOrder_l2 x nx e tl1))
    else
    ((row_Compare e e1).bind fun r5 =>
    (row_Compare e1 e).bind fun r6 =>
    (if (!(r5 != (IntKind.i64.wrap (0 - r6)))) then ((row_Compare e e1).bind fun r7 =>
    (row_Same ([e]) ([e1])).bind fun r8 =>
    some ((r7 == (0 : Int)) != r8)) else some true).bind fun t1 =>
    if t1 then
    (some false)
    else
    (law05_RowOrder_l3 e (law05_RowOrder_l2 x nx e tl1) e1 x))

def law05_RowOrder_l1 (p1 : Int) (x : (List (List DValue))) : List (List DValue) → Option Bool
  | [] =>
    some true
  | e :: tl =>
    (row_Check e).bind fun r2 =>
    if (r2 != (0 : Int)) then
    (law05_RowOrder_k2 (law05_RowOrder_l1 p1 x tl))
    else
    ((nz (IntKind.i64.wrap ((e.length : Int) + (1 : Int)))).bind fun _ =>
    (if (decide ((((max p1 (0 : Int))).tmod (IntKind.i64.wrap ((e.length : Int) + (1 : Int)))) < (e.length : Int))) then ((sliceF e 0 (((max p1 (0 : Int))).tmod (IntKind.i64.wrap ((e.length : Int) + (1 : Int))))).bind fun y =>
    (row_Compare y e).bind fun r3 =>
    some (r3 != (-1 : Int))) else some false).bind fun t =>
    if t then
    (some false)
    else
    (law05_RowOrder_l2 x (law05_RowOrder_l1 p1 x tl) e x))

def law05_RowOrder_k1 (p1 : Int) (x : (List (List DValue))) : Option Bool :=
  (law05_over x).bind fun r1 =>
  if r1 then
  (some true)
  else
  (law05_RowOrder_l1 p1 x x)

def law05_RowOrder (p : (List (List DValue))) (p1 : Int) : Option Bool :=
  (law05_wakes).bind fun r =>
  if (!r) then
  (some false)
  else
  (if (decide ((12 : Int) < (p.length : Int))) then
  ((sliceF p 0 (12 : Int)).bind fun y1 =>
  law05_RowOrder_k1 p1 y1)
  else
  (law05_RowOrder_k1 p1 p))

def row_Take (r : (List DValue)) (columns : (List Int)) : Option ((List DValue) × Int) :=
  (row_asked ([r]) columns).bind fun r1 =>
  if (r1 != (0 : Int)) then
  (some ([], r1))
  else
  ((row_take r columns).bind fun r2 =>
  some (r2, (0 : Int)))

def row_number_l1 (n : Int) : Nat → (List Int) → Int → Option (List Int)
  | 0, _, _ => none
  | n1 + 1, b1, i =>
    if (decide ((0 : Int) ≤ i)) then
    ((ge0 i).bind fun u =>
    (app b1 ([(IntKind.u8.wrap ((n).fdiv (2 ^ (min (Int.toNat i) IntKind.u64.bits))))])).bind fun b2 =>
    (row_number_l1 n n1) b2 (IntKind.i64.wrap (i - (8 : Int))))
    else
    (some b1)

def row_number (b : (List Int)) (n : Int) : Option (List Int) :=
  row_number_l1 n FUEL b (56 : Int)

def sum_steps_l3 (nx1 : Int → (List Int) → Option (List Int)) (n2 : Int) : Nat → Int → (List Int) → Option (List Int)
  | 0, _, _ => none
  | n4 + 1, x, out2 =>
    if (decide (x < n2)) then
    ((idx out2 n2).bind fun e4 =>
    (idx out2 x).bind fun e5 =>
    (idx out2 (IntKind.i64.wrap (n2 + x))).bind fun e6 =>
    (some (out2.set (IntKind.i64.wrap (n2 + x)).toNat (bitsOp .xor .u32 e4 e5))).bind fun ar3 =>
    (sum_steps_l3 nx1 n2 n4) (IntKind.i64.wrap (x + (1 : Int))) ar3)
    else
    (nx1 (IntKind.i64.wrap (n2 * (2 : Int))) out2)

def sum_steps_l2 : Nat → Int → (List Int) → Option (List Int)
  | 0, _, _ => none
  | n3 + 1, n2, out1 =>
    if (decide (n2 < (256 : Int))) then
    (sum_steps_l3 (sum_steps_l2 n3) n2 FUEL (0 : Int) out1)
    else
    (some out1)

def sum_steps_l1 : Nat → Int → (List Int) → Option (List Int)
  | 0, _, _ => none
  | n1 + 1, n, out =>
    if (decide ((0 : Int) < n)) then
    ((idx out (IntKind.i64.wrap ((2 : Int) * n))).bind fun e1 =>
    (idx out n).bind fun e2 =>
    (some (out.set n.toNat ((e1).fdiv (2 ^ (min (Int.toNat (1 : Int)) IntKind.u32.bits))))).bind fun ar1 =>
    if ((bitsOp .and .u32 e1 (1 : Int)) == (1 : Int)) then
    ((idx ar1 n).bind fun e3 =>
    (some (ar1.set n.toNat (bitsOp .xor .u32 e3 (2197175160 : Int)))).bind fun ar2 =>
    (sum_steps_l1 n1) (IntKind.i64.wrap ((n).tdiv (2 : Int))) ar2)
    else
    ((sum_steps_l1 n1) (IntKind.i64.wrap ((n).tdiv (2 : Int))) ar1))
    else
    (sum_steps_l2 FUEL (2 : Int) out)

def sum_steps : Option (List Int) :=
  (idx (List.replicate 256 (0 : Int)) (128 : Int)).bind fun e =>
  (some ((List.replicate 256 (0 : Int)).set (128 : Int).toNat (2197175160 : Int))).bind fun ar =>
  sum_steps_l1 FUEL (64 : Int) ar

def sum_Sum32_1 (register : Int) (table : (List Int)) (c : Int) : Option Int :=
  (idx table (bitsOp .xor .u8 (IntKind.u8.wrap register) c)).bind fun e =>
  some (bitsOp .xor .u32 ((register).fdiv (2 ^ (min (Int.toNat (8 : Int)) IntKind.u32.bits))) e)

def sum_Sum32_l1 (r : (List Int)) : List Int → Int → Option Int
  | [], register =>
    some (bitsOp .xor .u32 (if IntKind.u32.signed then -1 else IntKind.u32.max) register)
  | e :: tl, register =>
    (sum_Sum32_1 register r e).bind fun r1 =>
    (sum_Sum32_l1 r tl) r1

def sum_Sum32 (b : (List Int)) : Option Int :=
  (sum_steps).bind fun r =>
  sum_Sum32_l1 r b (4294967295 : Int)

def row_hash_l1 : List DValue → (List Int) → Option Int
  | [], b =>
    (sum_Sum32 b).bind fun r1 =>
    some r1
  | e :: tl, b =>
    (app b ([(IntKind.u8.wrap e.Kind)])).bind fun b2 =>
    (row_number b2 (IntKind.u64.wrap e.N)).bind fun r2 =>
    (row_number r2 e.U).bind fun r3 =>
    (app r3 ([(IntKind.u8.wrap (e.S.length : Int))])).bind fun l3 =>
    (app l3 (bytesOf e.S)).bind fun b3 =>
    (row_hash_l1 tl) b3

def row_hash (r : (List DValue)) : Option Int :=
  row_hash_l1 r ([] : List Int)

def row_Hash (r : (List DValue)) (columns : (List Int)) : Option (Int × Int) :=
  (row_Take r columns).bind fun r1 =>
  if (r1.2 != (0 : Int)) then
  (some ((0 : Int), r1.2))
  else
  ((row_hash r1.1).bind fun r2 =>
  some (r2, (0 : Int)))

def ref05_Error_l1 (l : (List (List DValue))) : List (List DValue) → Option Int
  | [] =>
    if (decide ((8000 : Int) < (l.length : Int))) then
    (some (3 : Int))
    else
    (some (0 : Int))
  | e :: tl =>
    (ref05_Right e).bind fun r =>
    if (!r) then
    (some (150 : Int))
    else
    ((ref05_Error_l1 l tl))

def ref05_Error (l : (List (List DValue))) : Option Int :=
  ref05_Error_l1 l l

def ref05_Columns_l2 (nx : Option Bool) (e : Int) : List (List DValue) → Option Bool
  | [] =>
    nx
  | e1 :: tl1 =>
    if (decide ((e1.length : Int) ≤ e)) then
    (some false)
    else
    ((ref05_Columns_l2 nx e tl1))

def ref05_Columns_l1 (l : (List (List DValue))) : List Int → Option Bool
  | [] =>
    some true
  | e :: tl =>
    if (decide (e < (0 : Int))) then
    (some false)
    else
    (ref05_Columns_l2 (ref05_Columns_l1 l tl) e l)

def ref05_Columns (l : (List (List DValue))) (columns : (List Int)) : Option Bool :=
  if (decide ((16 : Int) < (columns.length : Int))) then
  (some false)
  else
  (ref05_Columns_l1 l columns)

def ref05_Asked (l : (List (List DValue))) (columns : (List Int)) : Option Int :=
  (ref05_Error l).bind fun r =>
  if (r != (0 : Int)) then
  (some r)
  else
  ((ref05_Columns l columns).bind fun r1 =>
  if (!r1) then
  (some (2 : Int))
  else
  (some (0 : Int)))

def ref05_Take_l1 (r : (List DValue)) : List Int → (List DValue) → Option (List DValue)
  | [], out =>
    some out
  | e :: tl, out =>
    (idx r e).bind fun e1 =>
    (app out ([e1])).bind fun out1 =>
    (ref05_Take_l1 r tl) out1

def ref05_Take (r : (List DValue)) (columns : (List Int)) : Option (List DValue) :=
  ref05_Take_l1 r columns ([] : List DValue)

def ref05_number_l1 : Nat → (List Int) → Int → Option (List Int)
  | 0, out, n1 =>
    some out
  | k1 + 1, out, n1 =>
    (app ([(IntKind.u8.wrap ((n1).tmod (256 : Int)))]) out).bind fun out1 =>
    (ref05_number_l1 k1) out1 (IntKind.u64.wrap ((n1).tdiv (256 : Int)))

def ref05_number (n : Int) : Option (List Int) :=
  ref05_number_l1 8 ([] : List Int) n

def ref03_bit_k1 (register1 : Int) : Option Int :=
  some register1

def ref03_bit (register : Int) (one : Bool) : Option Int :=
  if ((((register).tmod (2 : Int)) == (1 : Int)) != one) then
  (ref03_bit_k1 (bitsOp .xor .u32 (IntKind.u32.wrap ((register).tdiv (2 : Int))) (2197175160 : Int)))
  else
  (ref03_bit_k1 (IntKind.u32.wrap ((register).tdiv (2 : Int))))

def ref03_Sum32_l2 (nx : Int → Option Int) : Nat → Int → Int → Option Int
  | 0, register1, c =>
    nx register1
  | k1 + 1, register1, c =>
    (ref03_bit register1 (((c).tmod (2 : Int)) == (1 : Int))).bind fun r =>
    (ref03_Sum32_l2 nx k1) r (IntKind.u8.wrap ((c).tdiv (2 : Int)))

def ref03_Sum32_l1 : List Int → Int → Option Int
  | [], register =>
    some (IntKind.u32.wrap ((4294967295 : Int) - register))
  | e :: tl, register =>
    ref03_Sum32_l2 (ref03_Sum32_l1 tl) 8 register e

def ref03_Sum32 (b : (List Int)) : Option Int :=
  ref03_Sum32_l1 b (4294967295 : Int)

def ref05_Hash_l1 : List DValue → (List Int) → Option Int
  | [], b =>
    (ref03_Sum32 b).bind fun r2 =>
    some r2
  | e :: tl, b =>
    (app b ([(IntKind.u8.wrap e.Kind)])).bind fun b1 =>
    (ref05_number (IntKind.u64.wrap e.N)).bind fun r3 =>
    (app b1 r3).bind fun b2 =>
    (ref05_number e.U).bind fun r4 =>
    (app b2 r4).bind fun b3 =>
    (app b3 ([(IntKind.u8.wrap (e.S.length : Int))])).bind fun b4 =>
    (fits e.S.length).bind fun u =>
    (app b4 (bytesOf e.S)).bind fun b5 =>
    (ref05_Hash_l1 tl) b5

def ref05_Hash (r : (List DValue)) (columns : (List Int)) : Option Int :=
  (ref05_Take r columns).bind fun r1 =>
  ref05_Hash_l1 r1 ([] : List Int)

def law05_RowTakes (p : (List DValue)) (p1 : (List Int)) : Option Bool :=
  (law05_wakes).bind fun r =>
  if (!r) then
  (some false)
  else
  ((law05_large p).bind fun r1 =>
  if (r1 || (decide ((40 : Int) < (p1.length : Int)))) then
  (some true)
  else
  ((app ([] : List DValue) p).bind fun l1 =>
  (app ([] : List Int) p1).bind fun l4 =>
  (row_Take l1 l4).bind fun r2 =>
  (app ([] : List DValue) p).bind fun l7 =>
  (app ([] : List Int) p1).bind fun l10 =>
  (row_Hash l7 l10).bind fun r3 =>
  (ref05_Asked ([p]) p1).bind fun r4 =>
  if (r4 != (0 : Int)) then
  (some (((((r2.1.length : Int) == (0 : Int)) && (r2.2 == r4)) && (r3.1 == (0 : Int))) && (r3.2 == r4)))
  else
  ((if (r2.2 == (0 : Int)) then ((ref05_Take p p1).bind fun r5 =>
  (ref05_Compare r2.1 r5).bind fun r6 =>
  some (r6 == (0 : Int))) else some false).bind fun t =>
  (if (t && (r3.2 == (0 : Int))) then ((ref05_Hash p p1).bind fun r7 =>
  some (r3.1 == r7)) else some false).bind fun t1 =>
  some t1)))

def row_sorted (l : (List (List DValue))) : Option (List (List DValue)) :=
  (row_copies l).bind fun r =>
  (sortF (fun (x : (List DValue) × (List DValue)) => row_order x.1 x.2) r).bind fun srt =>
  some srt

def row_Sorted (l : (List (List DValue))) : Option ((List (List DValue)) × Int) :=
  (row_lists ([l])).bind fun r =>
  if (r != (0 : Int)) then
  (some ([], r))
  else
  ((row_sorted l).bind fun r1 =>
  some (r1, (0 : Int)))

def row_Alike (a1 : (List (List DValue))) (b : (List (List DValue))) : Option (Bool × Int) :=
  (row_lists ([a1, b])).bind fun r =>
  if (r != (0 : Int)) then
  (some (false, r))
  else
  ((row_sorted a1).bind fun r1 =>
  (row_sorted b).bind fun r2 =>
  (row_Same r1 r2).bind fun r3 =>
  some (r3, (0 : Int)))

def slices_CompactFunc_api_Row_api_Row_l2 (p1 : ((List DValue) → (List DValue) → Option Bool)) (i : Nat) (y : List (List DValue)) : Nat → Nat → (List (List DValue)) → Int → Option (List (List DValue))
  | 0, i1, x, x1 =>
    (sliceF x x1 (x.length : Int)).bind fun y1 =>
    (some (x.take x1.toNat ++ List.replicate y1.length ([]))).bind fun cl =>
    (sliceF cl 0 x1).bind fun y2 =>
    some y2
  | k1 + 1, i1, x, x1 =>
    (idxV x (i : Int) y.length (i1 : Int)).bind fun e3 =>
    (idxV x (i : Int) y.length (IntKind.i64.wrap ((i1 : Int) - (1 : Int)))).bind fun e4 =>
    (p1 e3 e4).bind fun r1 =>
    if (!r1) then
    ((idxV x (i : Int) y.length (i1 : Int)).bind fun e5 =>
    (idx x x1).bind fun e6 =>
    (some (x.set x1.toNat e5)).bind fun st =>
    (slices_CompactFunc_api_Row_api_Row_l2 p1 i y k1) (i1 + 1) st (IntKind.i64.wrap (x1 + (1 : Int))))
    else
    ((slices_CompactFunc_api_Row_api_Row_l2 p1 i y k1) (i1 + 1) x x1)

def slices_CompactFunc_api_Row_api_Row_l1 (p : (List (List DValue))) (p1 : ((List DValue) → (List DValue) → Option Bool)) : List (List DValue) → Nat → Option (List (List DValue))
  | [], i =>
    some p
  | e :: tl, i =>
    (idx p (IntKind.i64.wrap ((i : Int) - (1 : Int)))).bind fun e1 =>
    (p1 e e1).bind fun r =>
    if r then
    ((sliceF p (i : Int) (p.length : Int)).bind fun y =>
    slices_CompactFunc_api_Row_api_Row_l2 p1 i y (y.length - 1) 1 p (i : Int))
    else
    ((slices_CompactFunc_api_Row_api_Row_l1 p p1 tl) (i + 1))

def slices_CompactFunc_api_Row_api_Row (p : (List (List DValue))) (p1 : ((List DValue) → (List DValue) → Option Bool)) : Option (List (List DValue)) :=
  if (decide ((p.length : Int) < (2 : Int))) then
  (some p)
  else
  (slices_CompactFunc_api_Row_api_Row_l1 p p1 (p.drop (1)) 1)

def row_Distinct (l : (List (List DValue))) : Option ((List (List DValue)) × Int) :=
  (row_lists ([l])).bind fun r =>
  if (r != (0 : Int)) then
  (some ([], r))
  else
  ((row_sorted l).bind fun r1 =>
  (slices_CompactFunc_api_Row_api_Row r1 row_equal).bind fun r2 =>
  some (r2, (0 : Int)))

def law05_RowSets_l4 (nx2 : Option Bool) (e2 : (List DValue)) : List (List DValue) → Int → Option Bool
  | [], x =>
    if (x != (1 : Int)) then
    (some false)
    else
    (nx2)
  | e3 :: tl3, x =>
    (row_Compare e2 e3).bind fun r7 =>
    if (r7 == (0 : Int)) then
    ((law05_RowSets_l4 nx2 e2 tl3) (IntKind.i64.wrap (x + (1 : Int))))
    else
    ((law05_RowSets_l4 nx2 e2 tl3) x)

def law05_RowSets_l3 (r5 : (List (List DValue)) × Int) : List (List DValue) → Option Bool
  | [] =>
    some true
  | e2 :: tl2 =>
    law05_RowSets_l4 (law05_RowSets_l3 r5 tl2) e2 r5.1 (0 : Int)

def law05_RowSets_l2 (p : (List (List DValue))) (r5 : (List (List DValue)) × Int) : List (List DValue) → Nat → Option Bool
  | [], i1 =>
    law05_RowSets_l3 r5 p
  | e1 :: tl1, i1 =>
    (idx r5.1 (IntKind.i64.wrap ((i1 : Int) - (1 : Int)))).bind fun e4 =>
    (row_Compare e4 e1).bind fun r8 =>
    if (decide ((0 : Int) ≤ r8)) then
    (some false)
    else
    ((law05_RowSets_l2 p r5 tl1) (i1 + 1))

def law05_RowSets_l1 (p : (List (List DValue))) (r2 : (List (List DValue)) × Int) (r5 : (List (List DValue)) × Int) : List (List DValue) → Nat → Option Bool
  | [], i =>
    law05_RowSets_l2 p r5 (r5.1.drop (1)) 1
  | e :: tl, i =>
    (idx r2.1 (IntKind.i64.wrap ((i : Int) - (1 : Int)))).bind fun e5 =>
    (row_Compare e5 e).bind fun r9 =>
    if (decide ((0 : Int) < r9)) then
    (some false)
    else
    ((law05_RowSets_l1 p r2 r5 tl) (i + 1))

def law05_RowSets (p : (List (List DValue))) : Option Bool :=
  (law05_wakes).bind fun r =>
  if (!r) then
  (some false)
  else
  ((law05_over p).bind fun r1 =>
  if r1 then
  (some true)
  else
  ((row_Sorted p).bind fun r2 =>
  if (r2.2 != (0 : Int)) then
  (some ((r2.1.length : Int) == (0 : Int)))
  else
  ((row_Sorted r2.1).bind fun r3 =>
  (row_Alike p r2.1).bind fun r4 =>
  (row_Distinct p).bind fun r5 =>
  (if (!(((r3.2 != (0 : Int)) || (r4.2 != (0 : Int))) || (r5.2 != (0 : Int)))) then ((row_Same r2.1 r3.1).bind fun r6 =>
  some (!r6)) else some true).bind fun t =>
  if (((t || (!r4.1)) || ((r2.1.length : Int) != (p.length : Int))) || (decide ((p.length : Int) < (r5.1.length : Int)))) then
  (some false)
  else
  (law05_RowSets_l1 p r2 r5 (r2.1.drop (1)) 1))))

def slices_Grow_api_Row_api_Row_k2 (s : List (List DValue)) : Option (List (List DValue)) :=
  some s

def slices_Grow_api_Row_api_Row_k1 (n : Int) : Option (List (List DValue)) :=
  if (decide ((0 : Int) < (IntKind.i64.wrap (n - (IntKind.i64.wrap ((0 : Int) - (0 : Int))))))) then
  ((gt0 (IntKind.i64.wrap (n - (IntKind.i64.wrap ((0 : Int) - (0 : Int)))))).bind fun _ =>
  (zerosF (IntKind.i64.wrap (n - (IntKind.i64.wrap ((0 : Int) - (0 : Int))))) ([])).bind fun mk =>
  (sliceF mk 0 (0 : Int)).bind fun y =>
  slices_Grow_api_Row_api_Row_k2 y)
  else
  (slices_Grow_api_Row_api_Row_k2 ([] : List (List DValue)))

def slices_Grow_api_Row_api_Row (n : Int) : Option (List (List DValue)) :=
  if (decide (n < (0 : Int))) then
  (none)
  else
  (slices_Grow_api_Row_api_Row_k1 n)

def slices_Concat_api_Row_api_Row_l2 : List (List (List DValue)) → (List (List DValue)) → Option (List (List DValue))
  | [], newslice =>
    some newslice
  | e1 :: tl1, newslice =>
    (app newslice e1).bind fun newslice1 =>
    (slices_Concat_api_Row_api_Row_l2 tl1) newslice1

def slices_Concat_api_Row_api_Row_l1 (slices : (List (List (List DValue)))) : List (List (List DValue)) → Int → Option (List (List DValue))
  | [], size =>
    (slices_Grow_api_Row_api_Row size).bind fun r =>
    slices_Concat_api_Row_api_Row_l2 slices r
  | e :: tl, size =>
    if (decide ((IntKind.i64.wrap (size + (e.length : Int))) < (0 : Int))) then
    (none)
    else
    ((slices_Concat_api_Row_api_Row_l1 slices tl) (IntKind.i64.wrap (size + (e.length : Int))))

def slices_Concat_api_Row_api_Row (slices : (List (List (List DValue)))) : Option (List (List DValue)) :=
  slices_Concat_api_Row_api_Row_l1 slices slices (0 : Int)

def row_Merge (l : (List (List (List DValue)))) : Option ((List (List DValue)) × Int) :=
  (row_lists l).bind fun r =>
  if (r != (0 : Int)) then
  (some ([], r))
  else
  ((slices_Concat_api_Row_api_Row l).bind fun r1 =>
  (row_Sorted r1).bind fun r2 =>
  some (r2.1, r2.2))

def ref05_Sorted_k1 (nx : (List (List DValue)) → Option (List (List DValue))) (next1 : List (List DValue)) : Option (List (List DValue)) :=
  nx next1

def ref05_Sorted_k2 (nx1 : (List (List DValue)) → Bool → Option (List (List DValue))) (e1 : (List DValue)) (next3 : List (List DValue)) (done1 : Bool) : Option (List (List DValue)) :=
  (app next3 ([e1])).bind fun next4 =>
  nx1 next4 done1

def ref05_Sorted_l2 (nx : (List (List DValue)) → Option (List (List DValue))) (e : (List DValue)) : List (List DValue) → (List (List DValue)) → Bool → Option (List (List DValue))
  | [], next, done =>
    if (!done) then
    ((app next ([e])).bind fun next2 =>
    ref05_Sorted_k1 nx next2)
    else
    (ref05_Sorted_k1 nx next)
  | e1 :: tl1, next, done =>
    (if (!done) then ((ref05_Compare e e1).bind fun r =>
    some (decide (r < (0 : Int)))) else some false).bind fun t =>
    if t then
    ((app next ([e])).bind fun next5 =>
    ref05_Sorted_k2 (ref05_Sorted_l2 nx e tl1) e1 next5 true)
    else
    (ref05_Sorted_k2 (ref05_Sorted_l2 nx e tl1) e1 next done)

def ref05_Sorted_l1 : List (List DValue) → (List (List DValue)) → Option (List (List DValue))
  | [], out =>
    some out
  | e :: tl, out =>
    ref05_Sorted_l2 (ref05_Sorted_l1 tl) e out ([] : List (List DValue)) false

def ref05_Sorted (l : (List (List DValue))) : Option (List (List DValue)) :=
  ref05_Sorted_l1 l ([])

def ref05_Same_l1 (b : (List (List DValue))) : List (List DValue) → Nat → Option Bool
  | [], i =>
    some true
  | e :: tl, i =>
    (idx b (i : Int)).bind fun e1 =>
    (ref05_Compare e e1).bind fun r =>
    if (r != (0 : Int)) then
    (some false)
    else
    ((ref05_Same_l1 b tl) (i + 1))

def ref05_Same (a1 : (List (List DValue))) (b : (List (List DValue))) : Option Bool :=
  if ((a1.length : Int) != (b.length : Int)) then
  (some false)
  else
  (ref05_Same_l1 b a1 0)

def ref05_Distinct_l1 (r : (List (List DValue))) : List (List DValue) → Nat → (List (List DValue)) → Option (List (List DValue))
  | [], i, out =>
    some out
  | e :: tl, i, out =>
    (if (!((i : Int) == (0 : Int))) then ((idx r (IntKind.i64.wrap ((i : Int) - (1 : Int)))).bind fun e1 =>
    (ref05_Compare e1 e).bind fun r1 =>
    some (r1 != (0 : Int))) else some true).bind fun t =>
    if t then
    ((app out ([e])).bind fun out1 =>
    (ref05_Distinct_l1 r tl) (i + 1) out1)
    else
    ((ref05_Distinct_l1 r tl) (i + 1) out)

def ref05_Distinct (l : (List (List DValue))) : Option (List (List DValue)) :=
  (ref05_Sorted l).bind fun r =>
  ref05_Distinct_l1 r r 0 ([] : List (List DValue))

def law05_RowSorts (p : (List (List DValue))) (p1 : (List (List DValue))) : Option Bool :=
  (law05_wakes).bind fun r =>
  if (!r) then
  (some false)
  else
  ((law05_over p).bind fun r1 =>
  (if (!r1) then ((law05_over p1).bind fun r2 =>
  some r2) else some true).bind fun t =>
  if t then
  (some true)
  else
  ((law05_copied p).bind fun r3 =>
  (row_Sorted r3).bind fun r4 =>
  (row_Distinct r3).bind fun r5 =>
  (row_Alike r3 p1).bind fun r6 =>
  (row_Merge ([r3, p1])).bind fun r7 =>
  (row_Same r3 p).bind fun r8 =>
  if (!r8) then
  (some false)
  else
  ((ref05_Error p).bind fun r9 =>
  if (r9 != (0 : Int)) then
  (some (((((((((r4.1.length : Int) == (0 : Int)) && (r4.2 == r9)) && ((r5.1.length : Int) == (0 : Int))) && (r5.2 == r9)) && (!r6.1)) && (r6.2 != (0 : Int))) && ((r7.1.length : Int) == (0 : Int))) && (r7.2 != (0 : Int))))
  else
  ((ref05_Sorted p).bind fun r10 =>
  (if (!((r4.2 != (0 : Int)) || (r5.2 != (0 : Int)))) then ((ref05_Same r4.1 r10).bind fun r11 =>
  some (!r11)) else some true).bind fun t1 =>
  (if (!t1) then ((ref05_Distinct p).bind fun r12 =>
  (ref05_Same r5.1 r12).bind fun r13 =>
  some (!r13)) else some true).bind fun t2 =>
  if t2 then
  (some false)
  else
  ((ref05_Error p1).bind fun r14 =>
  if (r14 != (0 : Int)) then
  (some ((((!r6.1) && (r6.2 == r14)) && ((r7.1.length : Int) == (0 : Int))) && (r7.2 == r14)))
  else
  ((if (r6.2 == (0 : Int)) then ((ref05_Sorted p1).bind fun r15 =>
  (ref05_Same r10 r15).bind fun r16 =>
  some (r6.1 == r16)) else some false).bind fun t3 =>
  (if (t3 && (r7.2 == (0 : Int))) then ((law05_copied p).bind fun r17 =>
  (app r17 p1).bind fun l2 =>
  (ref05_Sorted l2).bind fun r18 =>
  (ref05_Same r7.1 r18).bind fun r19 =>
  some r19) else some false).bind fun t4 =>
  some t4))))))

def row_Part_l2 (x : List (Int × (List (List DValue)))) : Nat → Nat → (List (List (List DValue))) → Option ((List (List (List DValue))) × Int)
  | 0, i1, x1 =>
    some (x1, (0 : Int))
  | k1 + 1, i1, x1 =>
    (idx x1 (i1 : Int)).bind fun e2 =>
    (some (x1.set (i1 : Int).toNat ((mget x (i1 : Int)).getD []))).bind fun st =>
    (row_Part_l2 x k1) (i1 + 1) st

def row_Part_l1 (p1 : (List Int)) (p2 : Int) : List (List DValue) → (List (Int × (List (List DValue)))) → Option ((List (List (List DValue))) × Int)
  | [], x =>
    (zerosF p2 ([])).bind fun mk =>
    row_Part_l2 x mk.length 0 mk
  | e :: tl, x =>
    (row_take e p1).bind fun r2 =>
    (row_hash r2).bind fun r3 =>
    (nz (IntKind.u32.wrap p2)).bind fun _ =>
    (app ((mget x (IntKind.i64.wrap ((r3).tmod (IntKind.u32.wrap p2)))).getD []) ([e])).bind fun l4 =>
    (row_Part_l1 p1 p2 tl) (mset x (IntKind.i64.wrap ((r3).tmod (IntKind.u32.wrap p2))) l4)

def row_Part (p : (List (List DValue))) (p1 : (List Int)) (p2 : Int) : Option ((List (List (List DValue))) × Int) :=
  (row_asked p p1).bind fun r =>
  if (r != (0 : Int)) then
  (some ([], r))
  else
  (if ((decide (p2 < (1 : Int))) || (decide ((64 : Int) < p2))) then
  (some ([], (2 : Int)))
  else
  ((row_copies p).bind fun r1 =>
  row_Part_l1 p1 p2 r1 ([] : List (Int × (List (List DValue))))))

def law05_RowWhole_l3 (p1 : (List Int)) (p2 : Int) (nx1 : Nat → Option Bool) (i1 : Nat) : List (List DValue) → Option Bool
  | [] =>
    nx1 (i1 + 1)
  | e2 :: tl2 =>
    (row_Hash e2 p1).bind fun r8 =>
    (if (!(r8.2 != (0 : Int))) then ((nz (IntKind.u32.wrap (IntKind.i64.wrap ((((max p2 (0 : Int))).tmod (64 : Int)) + (1 : Int))))).bind fun _ =>
    some ((IntKind.i64.wrap ((r8.1).tmod (IntKind.u32.wrap (IntKind.i64.wrap ((((max p2 (0 : Int))).tmod (64 : Int)) + (1 : Int)))))) != (i1 : Int))) else some true).bind fun t1 =>
    if t1 then
    (some false)
    else
    ((law05_RowWhole_l3 p1 p2 nx1 i1 tl2))

def law05_RowWhole_l2 (p : (List (List DValue))) (p1 : (List Int)) (p2 : Int) (r4 : (List (List (List DValue))) × Int) : List (List (List DValue)) → Nat → Option Bool
  | [], i1 =>
    (row_Merge r4.1).bind fun r5 =>
    (row_Sorted p).bind fun r6 =>
    (if ((r5.2 == (0 : Int)) && (r6.2 == (0 : Int))) then ((row_Same r5.1 r6.1).bind fun r7 =>
    some r7) else some false).bind fun t =>
    some t
  | e1 :: tl1, i1 =>
    law05_RowWhole_l3 p1 p2 (law05_RowWhole_l2 p p1 p2 r4 tl1) i1 e1

def law05_RowWhole_l4 (p1 : (List Int)) (nx : Nat → (List (List DValue)) → Option Bool) (i : Nat) (e : DGroup) (x : List (List DValue)) : List (List DValue) → Option Bool
  | [] =>
    (app x e.Rows).bind fun x1 =>
    nx (i + 1) x1
  | e4 :: tl3 =>
    (row_Take e4 p1).bind fun r10 =>
    (if (!(r10.2 != (0 : Int))) then ((row_Compare r10.1 e.Key).bind fun r11 =>
    some (r11 != (0 : Int))) else some true).bind fun t4 =>
    if t4 then
    (some false)
    else
    ((law05_RowWhole_l4 p1 nx i e x tl3))

def law05_RowWhole_l1 (p : (List (List DValue))) (p1 : (List Int)) (p2 : Int) (r2 : (List DGroup) × Int) : List DGroup → Nat → (List (List DValue)) → Option Bool
  | [], i, x =>
    (row_Alike x p).bind fun r3 =>
    if ((r3.2 != (0 : Int)) || (!r3.1)) then
    (some false)
    else
    ((row_Part p p1 (IntKind.i64.wrap ((((max p2 (0 : Int))).tmod (64 : Int)) + (1 : Int)))).bind fun r4 =>
    if ((r4.2 != (0 : Int)) || ((r4.1.length : Int) != (IntKind.i64.wrap ((((max p2 (0 : Int))).tmod (64 : Int)) + (1 : Int))))) then
    (some false)
    else
    (law05_RowWhole_l2 p p1 p2 r4 r4.1 0))
  | e :: tl, i, x =>
    (if (!((e.Rows.length : Int) == (0 : Int))) then ((if (decide ((0 : Int) < (i : Int))) then ((idx r2.1 (IntKind.i64.wrap ((i : Int) - (1 : Int)))).bind fun e3 =>
    (row_Compare e3.Key e.Key).bind fun r9 =>
    some (decide ((0 : Int) ≤ r9))) else some false).bind fun t3 =>
    some t3) else some true).bind fun t2 =>
    if t2 then
    (some false)
    else
    (law05_RowWhole_l4 p1 (law05_RowWhole_l1 p p1 p2 r2 tl) i e x e.Rows)

def law05_RowWhole (p : (List (List DValue))) (p1 : (List Int)) (p2 : Int) : Option Bool :=
  (law05_wakes).bind fun r =>
  if (!r) then
  (some false)
  else
  ((law05_over p).bind fun r1 =>
  if (r1 || (decide ((40 : Int) < (p1.length : Int)))) then
  (some true)
  else
  ((row_Groups p p1).bind fun r2 =>
  if (r2.2 != (0 : Int)) then
  (some ((r2.1.length : Int) == (0 : Int)))
  else
  (law05_RowWhole_l1 p p1 p2 r2 r2.1 0 ([] : List (List DValue)))))


end Go.Proofs.Ytchjhcgkfglgiaa
