/- Facts of this claim: F. -/
import Derived.Test.YtegigakgcnhiaaaGreatDoorLfD
import Derived.Test.YtegigakgcnhiaaaGreatDoorLfV4
import Derived.Lib.MapU
namespace Go.Proofs.YtegigakgcnhiaaaGreatDoor
open Go

def lex_small (c : Int) : Option Bool :=
  some ((decide ((97 : Int) ≤ c)) && (decide (c ≤ (122 : Int))))

def slices_Index_string_string_l1 (v : Str) : List Str → Nat → Option Int
  | [], i =>
    some (-1 : Int)
  | e :: tl, i =>
    if (v == e) then
    (some (i : Int))
    else
    ((slices_Index_string_string_l1 v tl) (i + 1))

def slices_Index_string_string (s : (List Str)) (v : Str) : Option Int :=
  slices_Index_string_string_l1 v s 0

def slices_Contains_string_string (s : (List Str)) (v : Str) : Option Bool :=
  (slices_Index_string_string s v).bind fun r =>
  some (decide ((0 : Int) ≤ r))

def lex_IsWord (s : Str) : Option Bool :=
  (slices_Contains_string_string gv1 s).bind fun r =>
  some r

def strings_ToUpper (s : Str) : Option Str := if s.length < 35184372088832 then some (Lib.toUpperD s) else none

def lex_digit (c : Int) : Option Bool :=
  some ((decide ((48 : Int) ≤ c)) && (decide (c ≤ (57 : Int))))

def lex_IsName_l1 : List (Int × Int) → Option Bool
  | [] =>
    some true
  | e :: tl =>
    (lex_digit e.2).bind fun r3 =>
    (if (!r3) then ((lex_small e.2).bind fun r4 =>
    some (!r4)) else some false).bind fun t2 =>
    if (t2 && (e.2 != (95 : Int))) then
    (some false)
    else
    ((lex_IsName_l1 tl))

def lex_IsName (s : Str) : Option Bool :=
  (if (!((s == ([])) || (decide ((16 : Int) < (s.length : Int))))) then ((idxS s (0 : Int)).bind fun b =>
  (lex_small (IntKind.i32.wrap b)).bind fun r =>
  some (!r)) else some true).bind fun t =>
  (if (!t) then ((strings_ToUpper s).bind fun r1 =>
  (lex_IsWord r1).bind fun r2 =>
  some r2) else some true).bind fun t1 =>
  if t1 then
  (some false)
  else
  (lex_IsName_l1 (runes s))

def slices_IndexFunc_api_Column_api_Column_l1 (f : (DColumn → Option Bool)) : List DColumn → Nat → Option Int
  | [], i =>
    some (-1 : Int)
  | e :: tl, i =>
    (f e).bind fun r =>
    if r then
    (some (i : Int))
    else
    ((slices_IndexFunc_api_Column_api_Column_l1 f tl) (i + 1))

def slices_IndexFunc_api_Column_api_Column (s : (List DColumn)) (f : (DColumn → Option Bool)) : Option Int :=
  slices_IndexFunc_api_Column_api_Column_l1 f s 0

def catalog_find_1_api_Column (of : (DColumn → Option Str)) (name : Str) (p : DColumn) : Option Bool :=
  (of p).bind fun r =>
  some (r == name)

def catalog_find_api_Column (l : (List DColumn)) (of : (DColumn → Option Str)) (name : Str) : Option (Int × Bool) :=
  (slices_IndexFunc_api_Column_api_Column l (catalog_find_1_api_Column of name)).bind fun r =>
  some ((max r (0 : Int)), decide ((0 : Int) ≤ r))

def catalog_once_api_Column_l1 (l : (List DColumn)) (of : (DColumn → Option Str)) : List DColumn → Nat → Option Bool
  | [], i =>
    some true
  | e :: tl, i =>
    (of e).bind fun r =>
    (catalog_find_api_Column l of r).bind fun r1 =>
    (if (!(r1.1 != (i : Int))) then ((of e).bind fun r2 =>
    (lex_IsName r2).bind fun r3 =>
    some (!r3)) else some true).bind fun t =>
    if t then
    (some false)
    else
    ((catalog_once_api_Column_l1 l of tl) (i + 1))

def catalog_once_api_Column (l : (List DColumn)) (of : (DColumn → Option Str)) : Option Bool :=
  catalog_once_api_Column_l1 l of l 0

def catalog_columnName (c : DColumn) : Option Str :=
  some c.Name

def catalog_word_l1 (kind : Int) : Nat → Nat → Option Str
  | 0, i =>
    some ([])
  | k1 + 1, i =>
    (idx gv0 (i : Int)).bind fun e1 =>
    if (e1.kind == kind) then
    (some e1.word)
    else
    ((catalog_word_l1 kind k1) (i + 1))

def catalog_word (kind : Int) : Option Str :=
  catalog_word_l1 kind 3 0

def catalog_CheckTable_l2 (t : DTable) : List Int → Nat → Bool → Option Int
  | [], i1, ok1 =>
    if (!ok1) then
    (some (211 : Int))
    else
    (some (0 : Int))
  | e1 :: tl1, i1, ok1 =>
    (if ((ok1 && (decide ((0 : Int) ≤ e1))) && (decide (e1 < (t.Columns.length : Int)))) then ((if (!((i1 : Int) == (0 : Int))) then ((idx t.Keys (IntKind.i64.wrap ((i1 : Int) - (1 : Int)))).bind fun e2 =>
    some (decide (e2 < e1))) else some true).bind fun t3 =>
    some t3) else some false).bind fun t2 =>
    (catalog_CheckTable_l2 t tl1) (i1 + 1) t2

def catalog_CheckTable_l1 (t : DTable) : List DColumn → Bool → Option Int
  | [], ok =>
    catalog_CheckTable_l2 t t.Keys 0 ok
  | e :: tl, ok =>
    (if ok then ((catalog_word e.Kind).bind fun r2 =>
    some (!(r2 == ([])))) else some false).bind fun t4 =>
    (catalog_CheckTable_l1 t tl) t4

def catalog_CheckTable (t : DTable) : Option Int :=
  (lex_IsName t.Name).bind fun r =>
  (if ((r && (decide ((1 : Int) ≤ (t.Columns.length : Int)))) && (decide ((t.Columns.length : Int) ≤ (4 : Int)))) then ((catalog_once_api_Column t.Columns catalog_columnName).bind fun r1 =>
  some r1) else some false).bind fun t1 =>
  catalog_CheckTable_l1 t t.Columns t1

def catalog_Check_1 (t : DTable) : Option Bool :=
  (catalog_CheckTable t).bind fun r =>
  some (r != (0 : Int))

def slices_IndexFunc_api_Table_api_Table_l1 (f : (DTable → Option Bool)) : List DTable → Nat → Option Int
  | [], i =>
    some (-1 : Int)
  | e :: tl, i =>
    (f e).bind fun r =>
    if r then
    (some (i : Int))
    else
    ((slices_IndexFunc_api_Table_api_Table_l1 f tl) (i + 1))

def slices_IndexFunc_api_Table_api_Table (s : (List DTable)) (f : (DTable → Option Bool)) : Option Int :=
  slices_IndexFunc_api_Table_api_Table_l1 f s 0

def slices_ContainsFunc_api_Table_api_Table (s : (List DTable)) (f : (DTable → Option Bool)) : Option Bool :=
  (slices_IndexFunc_api_Table_api_Table s f).bind fun r =>
  some (decide ((0 : Int) ≤ r))

def catalog_find_1_api_Table (of : (DTable → Option Str)) (name : Str) (p : DTable) : Option Bool :=
  (of p).bind fun r =>
  some (r == name)

def catalog_find_api_Table (l : (List DTable)) (of : (DTable → Option Str)) (name : Str) : Option (Int × Bool) :=
  (slices_IndexFunc_api_Table_api_Table l (catalog_find_1_api_Table of name)).bind fun r =>
  some ((max r (0 : Int)), decide ((0 : Int) ≤ r))

def catalog_once_api_Table_l1 (l : (List DTable)) (of : (DTable → Option Str)) : List DTable → Nat → Option Bool
  | [], i =>
    some true
  | e :: tl, i =>
    (of e).bind fun r =>
    (catalog_find_api_Table l of r).bind fun r1 =>
    (if (!(r1.1 != (i : Int))) then ((of e).bind fun r2 =>
    (lex_IsName r2).bind fun r3 =>
    some (!r3)) else some true).bind fun t =>
    if t then
    (some false)
    else
    ((catalog_once_api_Table_l1 l of tl) (i + 1))

def catalog_once_api_Table (l : (List DTable)) (of : (DTable → Option Str)) : Option Bool :=
  catalog_once_api_Table_l1 l of l 0

def catalog_tableName (t : DTable) : Option Str :=
  some t.Name

def catalog_Check (c : DCatalog) : Option Int :=
  (if (!(decide ((4 : Int) < (c.Tables.length : Int)))) then ((slices_ContainsFunc_api_Table_api_Table c.Tables catalog_Check_1).bind fun r =>
  some r) else some true).bind fun t =>
  (if (!t) then ((catalog_once_api_Table c.Tables catalog_tableName).bind fun r1 =>
  some (!r1)) else some true).bind fun t1 =>
  if t1 then
  (some (210 : Int))
  else
  (some (0 : Int))

def value_blank_k1 (v1 : DValue) : Option DValue :=
  some v1

def value_blank_k2 (v2 : DValue) : Option DValue :=
  value_blank_k1 (DValue.mk (0 : Int) v2.N v2.U v2.S)

def value_blank_k3 (v : DValue) : Option DValue :=
  value_blank_k2 (DValue.mk v.Kind (0 : Int) v.U v.S)

def value_blank_k4 (v3 : DValue) : Option DValue :=
  value_blank_k1 v3

def value_blank (v : DValue) : Option DValue :=
  if (v.Kind == (1 : Int)) then
  (if ((v.N != (0 : Int)) && (v.N != (1 : Int))) then
  (value_blank_k1 v)
  else
  (value_blank_k3 v))
  else
  (if (v.Kind == (2 : Int)) then
  (value_blank_k3 v)
  else
  (if (v.Kind == (0 : Int)) then
  (value_blank_k2 v)
  else
  (if (v.Kind == (3 : Int)) then
  (if (decide ((v.S.length : Int) ≤ (40 : Int))) then
  (value_blank_k4 (DValue.mk (0 : Int) v.N v.U ([])))
  else
  (value_blank_k4 v))
  else
  (if (v.Kind == (4 : Int)) then
  (value_blank_k1 (DValue.mk (0 : Int) (0 : Int) (0 : Int) v.S))
  else
  (value_blank_k1 v)))))

def value_Check (v : DValue) : Option Int :=
  (value_blank v).bind fun r =>
  if (!decide (r = (⟨(0 : Int), (0 : Int), (0 : Int), []⟩ : DValue))) then
  (some (120 : Int))
  else
  (some (0 : Int))

def denote_fits_l2 (kinds : (List Int)) (nx : Option Bool) : List DValue → Nat → Option Bool
  | [], i1 =>
    nx
  | e1 :: tl1, i1 =>
    (value_Check e1).bind fun r =>
    (if (!(r != (0 : Int))) then ((if (e1.Kind != (0 : Int)) then ((idx kinds (i1 : Int)).bind fun e2 =>
    some (e1.Kind != e2)) else some false).bind fun t1 =>
    some t1) else some true).bind fun t =>
    if t then
    (some false)
    else
    ((denote_fits_l2 kinds nx tl1) (i1 + 1))

def denote_fits_l1 (kinds : (List Int)) : List (List DValue) → Option Bool
  | [] =>
    some true
  | e :: tl =>
    if ((e.length : Int) != (kinds.length : Int)) then
    (some false)
    else
    (denote_fits_l2 kinds (denote_fits_l1 kinds tl) e 0)

def denote_fits (rows : (List (List DValue))) (kinds : (List Int)) : Option Bool :=
  if (decide ((12 : Int) < (rows.length : Int))) then
  (some false)
  else
  (denote_fits_l1 kinds rows)

def denote_CheckBase_l2 (b : DBase) (nx : Nat → Option Int) (i : Nat) : List DColumn → (List Int) → Option Int
  | [], kinds =>
    (idx b.Tables (i : Int)).bind fun e2 =>
    (denote_fits e2 kinds).bind fun r1 =>
    if (!r1) then
    (some (250 : Int))
    else
    (nx (i + 1))
  | e1 :: tl1, kinds =>
    (app kinds ([e1.Kind])).bind fun kinds1 =>
    (denote_CheckBase_l2 b nx i tl1) kinds1

def denote_CheckBase_l1 (b : DBase) : List DTable → Nat → Option Int
  | [], i =>
    some (0 : Int)
  | e :: tl, i =>
    denote_CheckBase_l2 b (denote_CheckBase_l1 b tl) i e.Columns ([] : List Int)

def denote_CheckBase (c : DCatalog) (b : DBase) : Option Int :=
  (catalog_Check c).bind fun r =>
  if (r != (0 : Int)) then
  (some r)
  else
  (if ((b.Tables.length : Int) != (c.Tables.length : Int)) then
  (some (250 : Int))
  else
  (denote_CheckBase_l1 b c.Tables 0))

def place_Lay_1_k1 (c1 : Int) (i1 : Int) : Option Int :=
  (nz c1).bind fun _ =>
  (nz c1).bind fun _ =>
  some (IntKind.i64.wrap ((((IntKind.i64.wrap (((i1).tmod c1) + c1))).tmod c1) + (1 : Int)))

def place_Lay_1 (c : (List Int)) (c1 : Int) (i : Int) : Option Int :=
  if (decide ((0 : Int) < (c.length : Int))) then
  ((nz (c.length : Int)).bind fun _ =>
  (idx c ((i).tmod (c.length : Int))).bind fun e =>
  place_Lay_1_k1 c1 e)
  else
  (place_Lay_1_k1 c1 i)

def place_empty (c : DCatalog) (nodes : Int) : Option DLayout := (zerosF nodes (⟨[]⟩ : DBase)).bind fun z => (zerosF (c.Tables.length : Int) ([] : List (List DValue))).bind fun zs => some ⟨z.map fun _ => ⟨zs⟩⟩

def row_right_1 (v : DValue) : Option Bool :=
  (value_Check v).bind fun r =>
  some (r != (0 : Int))

def slices_IndexFunc_api_Row_api_Value_l1 (f : (DValue → Option Bool)) : List DValue → Nat → Option Int
  | [], i =>
    some (-1 : Int)
  | e :: tl, i =>
    (f e).bind fun r =>
    if r then
    (some (i : Int))
    else
    ((slices_IndexFunc_api_Row_api_Value_l1 f tl) (i + 1))

def slices_IndexFunc_api_Row_api_Value (s : (List DValue)) (f : (DValue → Option Bool)) : Option Int :=
  slices_IndexFunc_api_Row_api_Value_l1 f s 0

def slices_ContainsFunc_api_Row_api_Value (s : (List DValue)) (f : (DValue → Option Bool)) : Option Bool :=
  (slices_IndexFunc_api_Row_api_Value s f).bind fun r =>
  some (decide ((0 : Int) ≤ r))

def row_right (r : (List DValue)) : Option Bool :=
  (if (decide ((r.length : Int) ≤ (16 : Int))) then ((slices_ContainsFunc_api_Row_api_Value r row_right_1).bind fun r1 =>
  some (!r1)) else some false).bind fun t =>
  some t

def row_lists_l2 (nx : Int → Option Int) (e : (List (List DValue))) (n : Int) : List (List DValue) → Option Int
  | [] =>
    nx (max n (e.length : Int))
  | e1 :: tl1 =>
    (row_right e1).bind fun r =>
    if (!r) then
    (some (150 : Int))
    else
    ((row_lists_l2 nx e n tl1))

def row_lists_l1 : List (List (List DValue)) → Int → Option Int
  | [], n =>
    if (decide ((8000 : Int) < n)) then
    (some (3 : Int))
    else
    (some (0 : Int))
  | e :: tl, n =>
    row_lists_l2 (row_lists_l1 tl) e n e

def row_lists (l : (List (List (List DValue)))) : Option Int :=
  row_lists_l1 l (0 : Int)

def row_asked_1 (c : Int) : Option Bool :=
  some (decide (c < (0 : Int)))

def slices_IndexFunc_int_int_l1 (f : (Int → Option Bool)) : List Int → Nat → Option Int
  | [], i =>
    some (-1 : Int)
  | e :: tl, i =>
    (f e).bind fun r =>
    if r then
    (some (i : Int))
    else
    ((slices_IndexFunc_int_int_l1 f tl) (i + 1))

def slices_IndexFunc_int_int (s : (List Int)) (f : (Int → Option Bool)) : Option Int :=
  slices_IndexFunc_int_int_l1 f s 0

def slices_ContainsFunc_int_int (s : (List Int)) (f : (Int → Option Bool)) : Option Bool :=
  (slices_IndexFunc_int_int s f).bind fun r =>
  some (decide ((0 : Int) ≤ r))

def row_has_1 (r : (List DValue)) (c : Int) : Option Bool :=
  some ((decide (c < (0 : Int))) || (decide ((r.length : Int) ≤ c)))

def row_has (r : (List DValue)) (columns : (List Int)) : Option Bool :=
  (if (decide ((columns.length : Int) ≤ (16 : Int))) then ((slices_ContainsFunc_int_int columns (row_has_1 r)).bind fun r1 =>
  some (!r1)) else some false).bind fun t =>
  some t

def row_asked_l1 (columns : (List Int)) : List (List DValue) → Option Int
  | [] =>
    some (0 : Int)
  | e :: tl =>
    (row_has e columns).bind fun r2 =>
    if (!r2) then
    (some (2 : Int))
    else
    ((row_asked_l1 columns tl))

def row_asked (l : (List (List DValue))) (columns : (List Int)) : Option Int :=
  (row_lists ([l])).bind fun r =>
  if (r != (0 : Int)) then
  (some r)
  else
  ((if (!(decide ((16 : Int) < (columns.length : Int)))) then ((slices_ContainsFunc_int_int columns row_asked_1).bind fun r1 =>
  some r1) else some true).bind fun t =>
  if t then
  (some (2 : Int))
  else
  (row_asked_l1 columns l))

def row_take_l1 (r : (List DValue)) : List Int → (List DValue) → Option (List DValue)
  | [], out =>
    some out
  | e :: tl, out =>
    (idx r e).bind fun e1 =>
    (app out ([e1])).bind fun out1 =>
    (row_take_l1 r tl) out1

def row_take (r : (List DValue)) (columns : (List Int)) : Option (List DValue) :=
  row_take_l1 r columns ([] : List DValue)

def row_Take (r : (List DValue)) (columns : (List Int)) : Option ((List DValue) × Int) :=
  (row_asked ([r]) columns).bind fun r1 =>
  if (r1 != (0 : Int)) then
  (some ([], r1))
  else
  ((row_take r columns).bind fun r2 =>
  some (r2, (0 : Int)))

def row_number_l1 (n : Int) : Nat → (List Int) → Int → Option (List Int)
  | 0, _, _ => none
  | n1 + 1, b1, i =>
    if (decide ((0 : Int) ≤ i)) then
    ((ge0 i).bind fun u =>
    (app b1 ([(IntKind.u8.wrap ((n).fdiv (2 ^ (min (Int.toNat i) IntKind.u64.bits))))])).bind fun b2 =>
    (row_number_l1 n n1) b2 (IntKind.i64.wrap (i - (8 : Int))))
    else
    (some b1)

def row_number (b : (List Int)) (n : Int) : Option (List Int) :=
  row_number_l1 n FUEL b (56 : Int)

def sum_steps_l3 (nx1 : Int → (List Int) → Option (List Int)) (n2 : Int) : Nat → Int → (List Int) → Option (List Int)
  | 0, _, _ => none
  | n4 + 1, x, out2 =>
    if (decide (x < n2)) then
    ((idx out2 n2).bind fun e4 =>
    (idx out2 x).bind fun e5 =>
    (idx out2 (IntKind.i64.wrap (n2 + x))).bind fun e6 =>
    (some (out2.set (IntKind.i64.wrap (n2 + x)).toNat (bitsOp .xor .u32 e4 e5))).bind fun ar3 =>
    (sum_steps_l3 nx1 n2 n4) (IntKind.i64.wrap (x + (1 : Int))) ar3)
    else
    (nx1 (IntKind.i64.wrap (n2 * (2 : Int))) out2)

def sum_steps_l2 : Nat → Int → (List Int) → Option (List Int)
  | 0, _, _ => none
  | n3 + 1, n2, out1 =>
    if (decide (n2 < (256 : Int))) then
    (sum_steps_l3 (sum_steps_l2 n3) n2 FUEL (0 : Int) out1)
    else
    (some out1)

def sum_steps_l1 : Nat → Int → (List Int) → Option (List Int)
  | 0, _, _ => none
  | n1 + 1, n, out =>
    if (decide ((0 : Int) < n)) then
    ((idx out (IntKind.i64.wrap ((2 : Int) * n))).bind fun e1 =>
    (idx out n).bind fun e2 =>
    (some (out.set n.toNat ((e1).fdiv (2 ^ (min (Int.toNat (1 : Int)) IntKind.u32.bits))))).bind fun ar1 =>
    if ((bitsOp .and .u32 e1 (1 : Int)) == (1 : Int)) then
    ((idx ar1 n).bind fun e3 =>
    (some (ar1.set n.toNat (bitsOp .xor .u32 e3 (2197175160 : Int)))).bind fun ar2 =>
    (sum_steps_l1 n1) (IntKind.i64.wrap ((n).tdiv (2 : Int))) ar2)
    else
    ((sum_steps_l1 n1) (IntKind.i64.wrap ((n).tdiv (2 : Int))) ar1))
    else
    (sum_steps_l2 FUEL (2 : Int) out)

def sum_steps : Option (List Int) :=
  (idx (List.replicate 256 (0 : Int)) (128 : Int)).bind fun e =>
  (some ((List.replicate 256 (0 : Int)).set (128 : Int).toNat (2197175160 : Int))).bind fun ar =>
  sum_steps_l1 FUEL (64 : Int) ar

def sum_Sum32_1 (register : Int) (table : (List Int)) (c : Int) : Option Int :=
  (idx table (bitsOp .xor .u8 (IntKind.u8.wrap register) c)).bind fun e =>
  some (bitsOp .xor .u32 ((register).fdiv (2 ^ (min (Int.toNat (8 : Int)) IntKind.u32.bits))) e)

def sum_Sum32_l1 (r : (List Int)) : List Int → Int → Option Int
  | [], register =>
    some (bitsOp .xor .u32 (if IntKind.u32.signed then -1 else IntKind.u32.max) register)
  | e :: tl, register =>
    (sum_Sum32_1 register r e).bind fun r1 =>
    (sum_Sum32_l1 r tl) r1

def sum_Sum32 (b : (List Int)) : Option Int :=
  (sum_steps).bind fun r =>
  sum_Sum32_l1 r b (4294967295 : Int)

def row_hash_l1 : List DValue → (List Int) → Option Int
  | [], b =>
    (sum_Sum32 b).bind fun r1 =>
    some r1
  | e :: tl, b =>
    (app b ([(IntKind.u8.wrap e.Kind)])).bind fun b2 =>
    (row_number b2 (IntKind.u64.wrap e.N)).bind fun r2 =>
    (row_number r2 e.U).bind fun r3 =>
    (app r3 ([(IntKind.u8.wrap (e.S.length : Int))])).bind fun l3 =>
    (app l3 (bytesOf e.S)).bind fun b3 =>
    (row_hash_l1 tl) b3

def row_hash (r : (List DValue)) : Option Int :=
  row_hash_l1 r ([] : List Int)

def row_Hash (r : (List DValue)) (columns : (List Int)) : Option (Int × Int) :=
  (row_Take r columns).bind fun r1 =>
  if (r1.2 != (0 : Int)) then
  (some ((0 : Int), r1.2))
  else
  ((row_hash r1.1).bind fun r2 =>
  some (r2, (0 : Int)))

def place_home (t : DTable) (r : (List DValue)) (nodes : Int) : Option Int :=
  if ((t.Keys.length : Int) == (0 : Int)) then
  (some (0 : Int))
  else
  ((row_Hash r t.Keys).bind fun r1 =>
  (nz (IntKind.u32.wrap nodes)).bind fun _ =>
  some (IntKind.i64.wrap ((IntKind.i64.wrap ((r1.1).tmod (IntKind.u32.wrap nodes))) + (1 : Int))))

def slices_Clone_api_Row_api_Value (s : (List DValue)) : Option (List DValue) :=
  (app ([] : List DValue) s).bind fun x =>
  some x

def place_put (x : List DBase) (node : Int) (table : Int) (r : (List DValue)) : Option (List DBase) :=
  (idx x (IntKind.i64.wrap (node - (1 : Int)))).bind fun e =>
  (idx e.Tables table).bind fun e1 =>
  (slices_Clone_api_Row_api_Value r).bind fun r1 =>
  (app e1 ([r1])).bind fun l1 =>
  some (xset (fun y : DBase => y.Tables) (fun z => (⟨z⟩ : DBase)) x (IntKind.i64.wrap (node - (1 : Int))).toNat table.toNat l1)

def place_Lay_k1 (i1 : Nat) (nx1 : Nat → (List DBase) → Option (DLayout × Int)) (i2 : Nat) (e1 : (List DValue)) (x1 : List DBase) (n : Int) : Option (DLayout × Int) :=
  (place_put x1 n (i1 : Int) e1).bind fun x2 =>
  nx1 (i2 + 1) x2

def place_Lay_l2 (c : DCatalog) (nodes : Int) (spread : (List Int)) (nx : Nat → (List DBase) → Option (DLayout × Int)) (i1 : Nat) : List (List DValue) → Nat → (List DBase) → Option (DLayout × Int)
  | [], i2, x1 =>
    nx (i1 + 1) x1
  | e1 :: tl1, i2, x1 =>
    (idx c.Tables (i1 : Int)).bind fun e2 =>
    (place_home e2 e1 nodes).bind fun r3 =>
    if (r3 == (0 : Int)) then
    (((place_Lay_1 spread nodes) (i2 : Int)).bind fun r4 =>
    place_Lay_k1 i1 (place_Lay_l2 c nodes spread nx i1 tl1) i2 e1 x1 r4)
    else
    (place_Lay_k1 i1 (place_Lay_l2 c nodes spread nx i1 tl1) i2 e1 x1 r3)

def place_Lay_l1 (c : DCatalog) (nodes : Int) (spread : (List Int)) : List (List (List DValue)) → Nat → (List DBase) → Option (DLayout × Int)
  | [], i1, x =>
    some ((⟨x⟩ : DLayout), (0 : Int))
  | e :: tl, i1, x =>
    place_Lay_l2 c nodes spread (place_Lay_l1 c nodes spread tl) i1 e 0 x

def place_Lay (c : DCatalog) (b : DBase) (nodes : Int) (spread : (List Int)) : Option (DLayout × Int) :=
  (catalog_Check c).bind fun r =>
  if (r != (0 : Int)) then
  (some ((⟨[]⟩ : DLayout), (210 : Int)))
  else
  ((denote_CheckBase c b).bind fun r1 =>
  if (r1 != (0 : Int)) then
  (some ((⟨[]⟩ : DLayout), (250 : Int)))
  else
  (if ((decide (nodes < (1 : Int))) || (decide ((8 : Int) < nodes))) then
  (some ((⟨[]⟩ : DLayout), (2 : Int)))
  else
  ((place_empty c nodes).bind fun r2 =>
  place_Lay_l1 c nodes spread b.Tables 0 r2.Parts)))

def place_all_1_l3 {Sg : Type} (yld : (Dcell × (List DValue)) → Sg → Option (Bool × Sg)) (i : Nat) (nx1 : Nat → Sg → Option Sg) (i1 : Nat) : List (List DValue) → Nat → Sg → Option Sg
  | [], i2, s3 =>
    nx1 (i1 + 1) s3
  | e6 :: tl2, i2, s3 =>
    (yld ((⟨((i + 1 : Nat) : Int), (i1 : Int), (i2 : Int)⟩ : Dcell), e6) s3).bind fun r =>
    if (!r.1) then
    (some r.2)
    else
    ((place_all_1_l3 yld i nx1 i1 tl2) (i2 + 1) r.2)

def place_all_1_l2 {Sg : Type} (yld : (Dcell × (List DValue)) → Sg → Option (Bool × Sg)) (nx : Nat → Sg → Option Sg) (i : Nat) : List (List (List DValue)) → Nat → Sg → Option Sg
  | [], i1, s2 =>
    nx (i + 1) s2
  | e4 :: tl1, i1, s2 =>
    place_all_1_l3 yld i (place_all_1_l2 yld nx i tl1) i1 e4 0 s2

def place_all_1_l1 {Sg : Type} (yld : (Dcell × (List DValue)) → Sg → Option (Bool × Sg)) : List DBase → Nat → Sg → Option Sg
  | [], i, s1 =>
    some s1
  | e2 :: tl, i, s1 =>
    place_all_1_l2 yld (place_all_1_l1 yld tl) i e2.Tables 0 s1

def place_all_1 {Sg : Type} (l : DLayout) (yld : (Dcell × (List DValue)) → Sg → Option (Bool × Sg)) (s : Sg) : Option Sg :=
  place_all_1_l1 yld l.Parts 0 s

def place_all (l : DLayout) : Option (It (Dcell × (List DValue))) :=
  some (fun _ => place_all_1 l)

def place_Rows_b1 (node : Int) (table : Int) (x : Dcell × (List DValue)) (xs : List (List DValue)) : Option (List (List DValue)) :=
  if ((x.1.node == node) && (x.1.table == table)) then
  ((slices_Clone_api_Row_api_Value x.2).bind fun r =>
  (app xs ([r])).bind fun l2 =>
  some l2)
  else
  (some xs)

def place_Rows (l : DLayout) (node : Int) (table : Int) : Option (List (List DValue)) :=
  (place_all l).bind fun it =>
  (it (List (List DValue)) (bodyY (fun x s => place_Rows_b1 node table x s)) ([] : List (List DValue))).bind fun xs1 =>
  some xs1

def place_right_b1 (x1 : Dcell × (List DValue)) (x2 : Bool) (m : List (Int × Int)) : Option (Option Nat × (Bool × List (Int × Int))) :=
  if (decide ((12 : Int) < ((mget (mset m x1.1.table (IntKind.i64.wrap (((mget m x1.1.table).getD (0 : Int)) + (1 : Int)))) x1.1.table).getD (0 : Int)))) then
  (some (some 0, (false, (mset m x1.1.table (IntKind.i64.wrap (((mget m x1.1.table).getD (0 : Int)) + (1 : Int)))))))
  else
  (some (none, (x2, (mset m x1.1.table (IntKind.i64.wrap (((mget m x1.1.table).getD (0 : Int)) + (1 : Int)))))))

def place_right_l1 (c : DCatalog) (l : DLayout) : List DBase → Bool → Option Bool
  | [], x =>
    (place_all l).bind fun it =>
    ((itU it) (Option Nat × (Bool × List (Int × Int))) (bodyJ (fun x s => place_right_b1 x s.1 s.2)) (none, (x, ([] : List (Int × Int))))).bind fun r =>
    if r.1.1.isNone then
    (some true)
    else
    (some r.1.2.1)
  | e :: tl, x =>
    (denote_CheckBase c e).bind fun r2 =>
    if (r2 != (0 : Int)) then
    (some false)
    else
    ((place_right_l1 c l tl) x)

def place_right (c : DCatalog) (l : DLayout) : Option Bool :=
  if ((decide ((l.Parts.length : Int) < (1 : Int))) || (decide ((8 : Int) < (l.Parts.length : Int)))) then
  (some false)
  else
  (place_right_l1 c l l.Parts false)

def place_asked (c : DCatalog) (l : DLayout) : Option Int :=
  (catalog_Check c).bind fun r =>
  if (r != (0 : Int)) then
  (some (210 : Int))
  else
  ((place_right c l).bind fun r1 =>
  if (!r1) then
  (some (270 : Int))
  else
  (some (0 : Int)))

def place_obeys_b1 (c : DCatalog) (l : DLayout) (x1 : Dcell × (List DValue)) (x : Bool) : Option (Option Nat × Bool) :=
  (idx c.Tables x1.1.table).bind fun e =>
  (place_home e x1.2 (l.Parts.length : Int)).bind fun r2 =>
  if ((decide ((0 : Int) < r2)) && (r2 != x1.1.node)) then
  (some (some 0, false))
  else
  (some (none, x))

def place_obeys (c : DCatalog) (l : DLayout) : Option Bool :=
  (place_all l).bind fun it =>
  ((itU it) (Option Nat × Bool) (bodyJ (fun x s => place_obeys_b1 c l x s)) (none, false)).bind fun r =>
  if r.1.1.isNone then
  (some true)
  else
  (some r.1.2)

def place_Check (c : DCatalog) (l : DLayout) : Option Int :=
  (place_asked c l).bind fun r =>
  if (r != (0 : Int)) then
  (some r)
  else
  ((place_obeys c l).bind fun r1 =>
  if (!r1) then
  (some (271 : Int))
  else
  (some (0 : Int)))

def row_copies_l1 : List (List DValue) → (List (List DValue)) → Option (List (List DValue))
  | [], out =>
    some out
  | e :: tl, out =>
    (slices_Clone_api_Row_api_Value e).bind fun r =>
    (app out ([r])).bind fun out1 =>
    (row_copies_l1 tl) out1

def row_copies (l : (List (List DValue))) : Option (List (List DValue)) :=
  row_copies_l1 l ([] : List (List DValue))

def slices_CompareFunc_api_Row_api_Row_api_Value_api_Value_l1 (s1 : (List DValue)) (s2 : (List DValue)) (cmp : (DValue → DValue → Option Int)) : List DValue → Nat → Option Int
  | [], i =>
    if (decide ((s1.length : Int) < (s2.length : Int))) then
    (some (-1 : Int))
    else
    (some (0 : Int))
  | e :: tl, i =>
    if (decide ((s2.length : Int) ≤ (i : Int))) then
    (some (1 : Int))
    else
    ((idx s2 (i : Int)).bind fun e1 =>
    (cmp e e1).bind fun r =>
    if (r != (0 : Int)) then
    (some r)
    else
    ((slices_CompareFunc_api_Row_api_Row_api_Value_api_Value_l1 s1 s2 cmp tl) (i + 1)))

def slices_CompareFunc_api_Row_api_Row_api_Value_api_Value (s1 : (List DValue)) (s2 : (List DValue)) (cmp : (DValue → DValue → Option Int)) : Option Int :=
  slices_CompareFunc_api_Row_api_Row_api_Value_api_Value_l1 s1 s2 cmp s1 0

def cmp_Or_int_l1 : List Int → Option Int
  | [] =>
    some (0 : Int)
  | e :: tl =>
    if (e != (0 : Int)) then
    (some e)
    else
    ((cmp_Or_int_l1 tl))

def cmp_Or_int (vals : (List Int)) : Option Int :=
  cmp_Or_int_l1 vals

def cmp_isNaN_int (p : Int) : Option Bool :=
  some (p != p)

def cmp_Compare_int (p : Int) (y : Int) : Option Int :=
  (cmp_isNaN_int p).bind fun r =>
  (cmp_isNaN_int y).bind fun r1 =>
  if r then
  (if r1 then
  (some (0 : Int))
  else
  (some (-1 : Int)))
  else
  (if r1 then
  (some (1 : Int))
  else
  (if (decide (p < y)) then
  (some (-1 : Int))
  else
  (if (decide (y < p)) then
  (some (1 : Int))
  else
  (some (0 : Int)))))

def cmp_isNaN_int64 (p : Int) : Option Bool :=
  some (p != p)

def cmp_Compare_int64 (p : Int) (y : Int) : Option Int :=
  (cmp_isNaN_int64 p).bind fun r =>
  (cmp_isNaN_int64 y).bind fun r1 =>
  if r then
  (if r1 then
  (some (0 : Int))
  else
  (some (-1 : Int)))
  else
  (if r1 then
  (some (1 : Int))
  else
  (if (decide (p < y)) then
  (some (-1 : Int))
  else
  (if (decide (y < p)) then
  (some (1 : Int))
  else
  (some (0 : Int)))))

def cmp_isNaN_uint64 (p : Int) : Option Bool :=
  some (p != p)

def cmp_Compare_uint64 (p : Int) (y : Int) : Option Int :=
  (cmp_isNaN_uint64 p).bind fun r =>
  (cmp_isNaN_uint64 y).bind fun r1 =>
  if r then
  (if r1 then
  (some (0 : Int))
  else
  (some (-1 : Int)))
  else
  (if r1 then
  (some (1 : Int))
  else
  (if (decide (p < y)) then
  (some (-1 : Int))
  else
  (if (decide (y < p)) then
  (some (1 : Int))
  else
  (some (0 : Int)))))

def cmp_isNaN_string (p : Str) : Option Bool :=
  some (!(p == p))

def cmp_Compare_string (p : Str) (y : Str) : Option Int :=
  (cmp_isNaN_string p).bind fun r =>
  (cmp_isNaN_string y).bind fun r1 =>
  if r then
  (if r1 then
  (some (0 : Int))
  else
  (some (-1 : Int)))
  else
  (if r1 then
  (some (1 : Int))
  else
  (if (Op.bytesLess p y) then
  (some (-1 : Int))
  else
  (if (!(Op.bytesLess p y || p == y)) then
  (some (1 : Int))
  else
  (some (0 : Int)))))

def row_values (a1 : DValue) (b : DValue) : Option Int :=
  (cmp_Compare_int a1.Kind b.Kind).bind fun r =>
  (cmp_Compare_int64 a1.N b.N).bind fun r1 =>
  (cmp_Compare_uint64 a1.U b.U).bind fun r2 =>
  (cmp_Compare_string a1.S b.S).bind fun r3 =>
  (cmp_Or_int ([r, r1, r2, r3])).bind fun r4 =>
  some r4

def row_order (a1 : (List DValue)) (b : (List DValue)) : Option Int :=
  (slices_CompareFunc_api_Row_api_Row_api_Value_api_Value a1 b row_values).bind fun r =>
  some r

def row_sorted (l : (List (List DValue))) : Option (List (List DValue)) :=
  (row_copies l).bind fun r =>
  (sortF (fun (x : (List DValue) × (List DValue)) => row_order x.1 x.2) r).bind fun srt =>
  some srt

def row_Sorted (l : (List (List DValue))) : Option ((List (List DValue)) × Int) :=
  (row_lists ([l])).bind fun r =>
  if (r != (0 : Int)) then
  (some ([], r))
  else
  ((row_sorted l).bind fun r1 =>
  some (r1, (0 : Int)))

def place_Gather_b1 (x : Dcell × (List DValue)) (x1 : (List (List (List DValue)))) : Option (Option Nat × (List (List (List DValue)))) :=
  (idx x1 x.1.table).bind fun e1 =>
  (app e1 ([x.2])).bind fun l1 =>
  some (none, (x1.set x.1.table.toNat l1))

def place_Gather_l1 : Nat → Nat → (List (List (List DValue))) → Option (DBase × Int)
  | 0, i2, x3 =>
    some (({ (⟨[]⟩ : DBase) with Tables := x3 } : DBase), (0 : Int))
  | k1 + 1, i2, x3 =>
    (idx x3 (i2 : Int)).bind fun e3 =>
    (row_Sorted e3).bind fun r4 =>
    (some (x3.set (i2 : Int).toNat r4.1)).bind fun st =>
    (place_Gather_l1 k1) (i2 + 1) st

def place_Gather (c : DCatalog) (l : DLayout) : Option (DBase × Int) :=
  (place_Check c l).bind fun r =>
  if (r != (0 : Int)) then
  (some ((⟨[]⟩ : DBase), r))
  else
  ((place_empty c (1 : Int)).bind fun r1 =>
  (idx r1.Parts (0 : Int)).bind fun e =>
  (place_all l).bind fun it =>
  ((itU it) (Option Nat × (List (List (List DValue)))) (bodyJ (fun x s => place_Gather_b1 x s)) (none, e.Tables)).bind fun r2 =>
  if r2.1.1.isNone then
  (place_Gather_l1 r2.1.2.length 0 r2.1.2)
  else
  (none))

def law17_one : Option DCatalog :=
  some (⟨[(⟨[117], [(⟨[98], (2 : Int)⟩ : DColumn)], []⟩ : DTable)]⟩ : DCatalog)

def law17_n (k : Int) : Option (List DValue) :=
  some ([(⟨(2 : Int), k, (0 : Int), []⟩ : DValue)])

def law17_wakes : Option Bool :=
  (law17_one).bind fun r =>
  (law17_n (1 : Int)).bind fun r1 =>
  (law17_n (2 : Int)).bind fun r2 =>
  (law17_n (3 : Int)).bind fun r3 =>
  (place_Lay r (⟨[[r1, r2, r3]]⟩ : DBase) (2 : Int) ([])).bind fun r4 =>
  (law17_one).bind fun r5 =>
  (place_Gather r5 r4.1).bind fun r6 =>
  (if ((r4.2 == (0 : Int)) && (r6.2 == (0 : Int))) then ((place_Rows r4.1 (1 : Int) (0 : Int)).bind fun r7 =>
  some ((r7.length : Int) == (2 : Int))) else some false).bind fun t =>
  (if t then ((place_Rows r4.1 (2 : Int) (0 : Int)).bind fun r8 =>
  some ((r8.length : Int) == (1 : Int))) else some false).bind fun t1 =>
  (if (t1 && ((r6.1.Tables.length : Int) == (1 : Int))) then ((idx r6.1.Tables (0 : Int)).bind fun e =>
  some ((e.length : Int) == (3 : Int))) else some false).bind fun t2 =>
  some t2

def law17_overTables_l2 (nx : Option Bool) : List DColumn → Option Bool
  | [] =>
    nx
  | e1 :: tl1 =>
    if (decide ((60 : Int) < (e1.Name.length : Int))) then
    (some true)
    else
    ((law17_overTables_l2 nx tl1))

def law17_overTables_l1 : List DTable → Option Bool
  | [] =>
    some false
  | e :: tl =>
    if (((decide ((60 : Int) < (e.Name.length : Int))) || (decide ((10 : Int) < (e.Columns.length : Int)))) || (decide ((10 : Int) < (e.Keys.length : Int)))) then
    (some true)
    else
    (law17_overTables_l2 (law17_overTables_l1 tl) e.Columns)

def law17_overTables (c : DCatalog) : Option Bool :=
  if (decide ((10 : Int) < (c.Tables.length : Int))) then
  (some true)
  else
  (law17_overTables_l1 c.Tables)

def law17_overRow_l1 : List DValue → Option Bool
  | [] =>
    some false
  | e :: tl =>
    if (decide ((200 : Int) < (e.S.length : Int))) then
    (some true)
    else
    ((law17_overRow_l1 tl))

def law17_overRow (r : (List DValue)) : Option Bool :=
  if (decide ((30 : Int) < (r.length : Int))) then
  (some true)
  else
  (law17_overRow_l1 r)

def law17_overBase_l2 (nx : Option Bool) : List (List DValue) → Option Bool
  | [] =>
    nx
  | e1 :: tl1 =>
    (law17_overRow e1).bind fun r =>
    if r then
    (some true)
    else
    ((law17_overBase_l2 nx tl1))

def law17_overBase_l1 : List (List (List DValue)) → Option Bool
  | [] =>
    some false
  | e :: tl =>
    if (decide ((30 : Int) < (e.length : Int))) then
    (some true)
    else
    (law17_overBase_l2 (law17_overBase_l1 tl) e)

def law17_overBase (b : DBase) : Option Bool :=
  if (decide ((10 : Int) < (b.Tables.length : Int))) then
  (some true)
  else
  (law17_overBase_l1 b.Tables)

def ref02_Right (v : DValue) : Option Bool :=
  if (v.Kind == (0 : Int)) then
  (some (decide (v = (⟨(0 : Int), (0 : Int), (0 : Int), []⟩ : DValue))))
  else
  (if (v.Kind == (1 : Int)) then
  (some (((v.U == (0 : Int)) && (v.S == ([]))) && ((v.N == (0 : Int)) || (v.N == (1 : Int)))))
  else
  (if (v.Kind == (2 : Int)) then
  (some ((v.U == (0 : Int)) && (v.S == ([]))))
  else
  (if (v.Kind == (3 : Int)) then
  (some (((v.N == (0 : Int)) && (v.U == (0 : Int))) && (decide ((v.S.length : Int) ≤ (40 : Int)))))
  else
  (some ((v.Kind == (4 : Int)) && (v.S == ([])))))))

def ref05_sign (less : Bool) : Option Int :=
  if less then
  (some (-1 : Int))
  else
  (some (1 : Int))

def ref05_Value (a1 : DValue) (b : DValue) : Option Int :=
  if (a1.Kind != b.Kind) then
  ((ref05_sign (decide (a1.Kind < b.Kind))).bind fun r =>
  some r)
  else
  (if (a1.N != b.N) then
  ((ref05_sign (decide (a1.N < b.N))).bind fun r1 =>
  some r1)
  else
  (if (a1.U != b.U) then
  ((ref05_sign (decide (a1.U < b.U))).bind fun r2 =>
  some r2)
  else
  (if (!(a1.S == b.S)) then
  ((ref05_sign (Op.bytesLess a1.S b.S)).bind fun r3 =>
  some r3)
  else
  (some (0 : Int)))))

def ref05_Take_l1 (r : (List DValue)) : List Int → (List DValue) → Option (List DValue)
  | [], out =>
    some out
  | e :: tl, out =>
    (idx r e).bind fun e1 =>
    (app out ([e1])).bind fun out1 =>
    (ref05_Take_l1 r tl) out1

def ref05_number_l1 : Nat → (List Int) → Int → Option (List Int)
  | 0, out, n1 =>
    some out
  | k1 + 1, out, n1 =>
    (app ([(IntKind.u8.wrap ((n1).tmod (256 : Int)))]) out).bind fun out1 =>
    (ref05_number_l1 k1) out1 (IntKind.u64.wrap ((n1).tdiv (256 : Int)))

def ref05_number (n : Int) : Option (List Int) :=
  ref05_number_l1 8 ([] : List Int) n

def ref03_bit_k1 (register1 : Int) : Option Int :=
  some register1

def ref03_bit (register : Int) (one : Bool) : Option Int :=
  if ((((register).tmod (2 : Int)) == (1 : Int)) != one) then
  (ref03_bit_k1 (bitsOp .xor .u32 (IntKind.u32.wrap ((register).tdiv (2 : Int))) (2197175160 : Int)))
  else
  (ref03_bit_k1 (IntKind.u32.wrap ((register).tdiv (2 : Int))))

def ref03_Sum32_l2 (nx : Int → Option Int) : Nat → Int → Int → Option Int
  | 0, register1, c =>
    nx register1
  | k1 + 1, register1, c =>
    (ref03_bit register1 (((c).tmod (2 : Int)) == (1 : Int))).bind fun r =>
    (ref03_Sum32_l2 nx k1) r (IntKind.u8.wrap ((c).tdiv (2 : Int)))

def ref03_Sum32_l1 : List Int → Int → Option Int
  | [], register =>
    some (IntKind.u32.wrap ((4294967295 : Int) - register))
  | e :: tl, register =>
    ref03_Sum32_l2 (ref03_Sum32_l1 tl) 8 register e

def ref03_Sum32 (b : (List Int)) : Option Int :=
  ref03_Sum32_l1 b (4294967295 : Int)

def ref05_Hash_l1 : List DValue → (List Int) → Option Int
  | [], b =>
    (ref03_Sum32 b).bind fun r2 =>
    some r2
  | e :: tl, b =>
    (app b ([(IntKind.u8.wrap e.Kind)])).bind fun b1 =>
    (ref05_number (IntKind.u64.wrap e.N)).bind fun r3 =>
    (app b1 r3).bind fun b2 =>
    (ref05_number e.U).bind fun r4 =>
    (app b2 r4).bind fun b3 =>
    (app b3 ([(IntKind.u8.wrap (e.S.length : Int))])).bind fun b4 =>
    (fits e.S.length).bind fun u =>
    (app b4 (bytesOf e.S)).bind fun b5 =>
    (ref05_Hash_l1 tl) b5

def place_fits (t : DTable) (r : (List DValue)) : Option Bool :=
  (denote_CheckBase (⟨[t]⟩ : DCatalog) (⟨[[r]]⟩ : DBase)).bind fun r1 =>
  some (r1 == (0 : Int))

def place_Where (c : DCatalog) (table : Int) (r : (List DValue)) (nodes : Int) : Option (Int × Int) :=
  (catalog_Check c).bind fun r1 =>
  if (r1 != (0 : Int)) then
  (some ((0 : Int), r1))
  else
  ((if (!((((decide (table < (0 : Int))) || (decide ((c.Tables.length : Int) ≤ table))) || (decide (nodes < (1 : Int)))) || (decide ((8 : Int) < nodes)))) then ((idx c.Tables table).bind fun e =>
  (place_fits e r).bind fun r2 =>
  some (!r2)) else some true).bind fun t =>
  if t then
  (some ((0 : Int), (2 : Int)))
  else
  ((idx c.Tables table).bind fun e1 =>
  (place_home e1 r nodes).bind fun r3 =>
  some (r3, (0 : Int))))

def place_Move_b1 (table : Int) (from1 : Int) (at1 : Int) (x : Dcell × (List DValue)) (x1 : List DBase) : Option (Option Nat × (List DBase)) :=
  if (!decide (x.1 = (⟨from1, table, at1⟩ : Dcell))) then
  ((place_put x1 x.1.node x.1.table x.2).bind fun x2 =>
  some (none, x2))
  else
  (some (none, x1))

def place_Move (c : DCatalog) (l : DLayout) (table : Int) (from1 : Int) (at1 : Int) (to1 : Int) : Option (DLayout × Int) :=
  (place_asked c l).bind fun r =>
  if (r != (0 : Int)) then
  (some ((⟨[]⟩ : DLayout), r))
  else
  ((place_Rows l from1 table).bind fun r1 =>
  if ((((((decide (table < (0 : Int))) || (decide ((c.Tables.length : Int) ≤ table))) || (decide (at1 < (0 : Int)))) || (decide ((r1.length : Int) ≤ at1))) || (decide (to1 < (1 : Int)))) || (decide ((l.Parts.length : Int) < to1))) then
  (some ((⟨[]⟩ : DLayout), (2 : Int)))
  else
  ((idx c.Tables table).bind fun e =>
  if ((decide ((0 : Int) < (e.Keys.length : Int))) && (to1 != from1)) then
  (some ((⟨[]⟩ : DLayout), (271 : Int)))
  else
  ((place_empty c (l.Parts.length : Int)).bind fun r2 =>
  (place_all l).bind fun it =>
  ((itU it) (Option Nat × (List DBase)) (bodyJ (fun x s => place_Move_b1 table from1 at1 x s)) (none, r2.Parts)).bind fun r3 =>
  if r3.1.1.isNone then
  ((idx r1 at1).bind fun e1 =>
  (place_put r3.1.2 to1 table e1).bind fun x4 =>
  some ((⟨x4⟩ : DLayout), (0 : Int)))
  else
  (none))))

def slices_EqualFunc_api_Row_api_Row_api_Row_api_Row_l1 (s2 : (List (List DValue))) (eq : ((List DValue) → (List DValue) → Option Bool)) : List (List DValue) → Nat → Option Bool
  | [], i =>
    some true
  | e :: tl, i =>
    (idx s2 (i : Int)).bind fun e1 =>
    (eq e e1).bind fun r =>
    if (!r) then
    (some false)
    else
    ((slices_EqualFunc_api_Row_api_Row_api_Row_api_Row_l1 s2 eq tl) (i + 1))

def slices_EqualFunc_api_Row_api_Row_api_Row_api_Row (s1 : (List (List DValue))) (s2 : (List (List DValue))) (eq : ((List DValue) → (List DValue) → Option Bool)) : Option Bool :=
  if ((s1.length : Int) != (s2.length : Int)) then
  (some false)
  else
  (slices_EqualFunc_api_Row_api_Row_api_Row_api_Row_l1 s2 eq s1 0)

def slices_Equal_api_Row_api_Value_l1 (s2 : (List DValue)) : List DValue → Nat → Option Bool
  | [], i =>
    some true
  | e :: tl, i =>
    (idx s2 (i : Int)).bind fun e1 =>
    if (!decide (e = e1)) then
    (some false)
    else
    ((slices_Equal_api_Row_api_Value_l1 s2 tl) (i + 1))

def slices_Equal_api_Row_api_Value (s1 : (List DValue)) (s2 : (List DValue)) : Option Bool :=
  if ((s1.length : Int) != (s2.length : Int)) then
  (some false)
  else
  (slices_Equal_api_Row_api_Value_l1 s2 s1 0)

def row_equal (a1 : (List DValue)) (b : (List DValue)) : Option Bool :=
  (slices_Equal_api_Row_api_Value a1 b).bind fun r =>
  some r

def row_Same (a1 : (List (List DValue))) (b : (List (List DValue))) : Option Bool :=
  (slices_EqualFunc_api_Row_api_Row_api_Row_api_Row a1 b row_equal).bind fun r =>
  some r

def slices_EqualFunc_api_Base_api_Base_api_Base_api_Base_l1 (s2 : (List DBase)) (eq : (DBase → DBase → Option Bool)) : List DBase → Nat → Option Bool
  | [], i =>
    some true
  | e :: tl, i =>
    (idx s2 (i : Int)).bind fun e1 =>
    (eq e e1).bind fun r =>
    if (!r) then
    (some false)
    else
    ((slices_EqualFunc_api_Base_api_Base_api_Base_api_Base_l1 s2 eq tl) (i + 1))

def slices_EqualFunc_api_Base_api_Base_api_Base_api_Base (s1 : (List DBase)) (s2 : (List DBase)) (eq : (DBase → DBase → Option Bool)) : Option Bool :=
  if ((s1.length : Int) != (s2.length : Int)) then
  (some false)
  else
  (slices_EqualFunc_api_Base_api_Base_api_Base_api_Base_l1 s2 eq s1 0)

def slices_EqualFunc_api_Row_api_Row_api_Row_api_Row_x_l1 (s2 : (List (List (List DValue)))) (eq : ((List (List DValue)) → (List (List DValue)) → Option Bool)) : List (List (List DValue)) → Nat → Option Bool
  | [], i =>
    some true
  | e :: tl, i =>
    (idx s2 (i : Int)).bind fun e1 =>
    (eq e e1).bind fun r =>
    if (!r) then
    (some false)
    else
    ((slices_EqualFunc_api_Row_api_Row_api_Row_api_Row_x_l1 s2 eq tl) (i + 1))

def slices_EqualFunc_api_Row_api_Row_api_Row_api_Row_x (s1 : (List (List (List DValue)))) (s2 : (List (List (List DValue)))) (eq : ((List (List DValue)) → (List (List DValue)) → Option Bool)) : Option Bool :=
  if ((s1.length : Int) != (s2.length : Int)) then
  (some false)
  else
  (slices_EqualFunc_api_Row_api_Row_api_Row_api_Row_x_l1 s2 eq s1 0)

def place_Same_1 (p : DBase) (y : DBase) : Option Bool :=
  (slices_EqualFunc_api_Row_api_Row_api_Row_api_Row_x p.Tables y.Tables row_Same).bind fun r =>
  some r

def place_Same (a1 : DLayout) (b : DLayout) : Option Bool :=
  (slices_EqualFunc_api_Base_api_Base_api_Base_api_Base a1.Parts b.Parts place_Same_1).bind fun r =>
  some r

def law17_PlaceStays_l3 (c : DCatalog) (i : Nat) (nx1 : Int → Option Bool) (n : Int) : List (List DValue) → Option Bool
  | [] =>
    nx1 (IntKind.i64.wrap (n + (1 : Int)))
  | e1 :: tl1 =>
    (place_Where c (i : Int) e1 (3 : Int)).bind fun r8 =>
    if ((r8.2 != (0 : Int)) || ((r8.1 != (0 : Int)) && (r8.1 != n))) then
    (some false)
    else
    ((law17_PlaceStays_l3 c i nx1 n tl1))

def law17_PlaceStays_l2 (c : DCatalog) (x : DLayout) (nx : Nat → Option Bool) (i : Nat) : Nat → Int → Option Bool
  | 0, _ => none
  | n1 + 1, n =>
    if (decide (n ≤ (3 : Int))) then
    ((place_Rows x n (i : Int)).bind fun r7 =>
    law17_PlaceStays_l3 c i (law17_PlaceStays_l2 c x nx i n1) n r7)
    else
    (nx (i + 1))

def law17_PlaceStays_l1 (c : DCatalog) (x : DLayout) : List DTable → Nat → Option Bool
  | [], i =>
    some true
  | e :: tl, i =>
    law17_PlaceStays_l2 c x (law17_PlaceStays_l1 c x tl) i FUEL (1 : Int)

def law17_PlaceStays_k1 (c : DCatalog) (r4 : DBase × Int) (x : DLayout) : Option Bool :=
  (place_Gather c x).bind fun r5 =>
  (if (!(r5.2 != (0 : Int))) then ((place_Same (⟨[r4.1]⟩ : DLayout) (⟨[r5.1]⟩ : DLayout)).bind fun r6 =>
  some (!r6)) else some true).bind fun t1 =>
  if t1 then
  (some false)
  else
  (law17_PlaceStays_l1 c x c.Tables 0)

def law17_PlaceStays_l4 (c : DCatalog) (r4 : DBase × Int) : List DStep → Nat → DLayout → Option Bool
  | [], i2, x1 =>
    law17_PlaceStays_k1 c r4 x1
  | e2 :: tl2, i2, x1 =>
    if ((i2 : Int) == (20 : Int)) then
    (law17_PlaceStays_k1 c r4 x1)
    else
    ((place_Move c x1 e2.Table e2.From e2.At e2.To).bind fun r9 =>
    if (r9.2 == (0 : Int)) then
    ((law17_PlaceStays_l4 c r4 tl2) (i2 + 1) r9.1)
    else
    ((law17_PlaceStays_l4 c r4 tl2) (i2 + 1) x1))

def law17_PlaceStays (c : DCatalog) (b : DBase) (l : (List DStep)) : Option Bool :=
  (law17_wakes).bind fun r =>
  if (!r) then
  (some false)
  else
  ((law17_overTables c).bind fun r1 =>
  (if (!r1) then ((law17_overBase b).bind fun r2 =>
  some r2) else some true).bind fun t =>
  if t then
  (some true)
  else
  ((place_Lay c b (3 : Int) ([])).bind fun r3 =>
  if (r3.2 != (0 : Int)) then
  (some ((r3.1.Parts.length : Int) == (0 : Int)))
  else
  ((place_Gather c r3.1).bind fun r4 =>
  if (r4.2 != (0 : Int)) then
  (some false)
  else
  (law17_PlaceStays_l4 c r4 l 0 r3.1))))


end Go.Proofs.YtegigakgcnhiaaaGreatDoor

