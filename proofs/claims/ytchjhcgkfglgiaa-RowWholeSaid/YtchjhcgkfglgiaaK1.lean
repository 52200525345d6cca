/- What the row functions come to, plainly. -/
import Derived.Test.YtchjhcgkfglgiaaF
import Derived.KernelRfl
namespace Go.Proofs.Ytchjhcgkfglgiaa
open Go

abbrev Row := List DValue
theorem wrap_i64_ok {n : Int} (h : -9223372036854775808 ≤ n) (h2 : n ≤ 9223372036854775807) : IntKind.i64.wrap n = n := by
  rw [IntKind.wrap_i64]; omega
theorem app_ok {α : Type} {xs ys : List α} (h : xs.length + ys.length ≤ 68719476736) : app xs ys = some (xs ++ ys) := if_pos h
theorem idx_drop {α : Type} {xs : List α} {i : Nat} : idx xs (i : Int) = (xs.drop i).head? := by
  rw [idx_nat, List.head?_drop]
/-! ### Values and rows that may be -/
def rightV (v : DValue) : Bool := (ref02_Right v).getD false
theorem ref02_Right_eq (v : DValue) : ref02_Right v = some (rightV v) := by
  unfold rightV ref02_Right
  repeat' split
  all_goals rfl
theorem value_Check_eq (v : DValue) : value_Check v = some (if rightV v then 0 else 120) := by
  obtain ⟨k, n, u, s⟩ := v
  unfold rightV ref02_Right value_Check value_blank
  simp only [value_blank_k1, value_blank_k2, value_blank_k3, value_blank_k4]
  by_cases h0 : k = 0
  · subst h0; simp
    repeat' split
    all_goals simp_all
  by_cases h1 : k = 1
  · subst h1
    by_cases n0 : n = 0
    · subst n0; simp
      repeat' split
      all_goals simp_all
    by_cases n1 : n = 1
    · subst n1; simp
      repeat' split
      all_goals simp_all
    simp [n0, n1]
  by_cases h2 : k = 2
  · subst h2; simp
    repeat' split
    all_goals simp_all
  by_cases h3 : k = 3
  · subst h3; simp
    repeat' split
    all_goals simp_all
  by_cases h4 : k = 4
  · subst h4; simp
    repeat' split
    all_goals simp_all
  simp [h0, h1, h2, h3, h4]
def rightB (r : Row) : Bool := decide (r.length ≤ 16) && r.all rightV
theorem row_right_1_eq (v : DValue) : row_right_1 v = some (!rightV v) := by
  unfold row_right_1
  rw [value_Check_eq]
  cases rightV v <;> rfl
theorem ContainsFunc_row {f : DValue → Option Bool} {g : DValue → Bool} (hf : ∀ v, f v = some (g v)) (l : Row) : slices_ContainsFunc_api_Row_api_Value l f = some (l.any g) := by
  have key : ∀ (l : Row) (i : Nat), (slices_IndexFunc_api_Row_api_Value_l1 f l i).bind (fun r => some (decide ((0 : Int) ≤ r))) = some (l.any g) := by
    intro l
    induction l with
    | nil => intro i; simp [slices_IndexFunc_api_Row_api_Value_l1]
    | cons e t ih => intro i; simp only [slices_IndexFunc_api_Row_api_Value_l1, hf, Option.bind_some]; cases h : g e <;> simp [ih, h]
  exact key l 0
theorem row_right_eq (r : Row) : row_right r = some (rightB r) := by
  unfold row_right rightB
  rw [ContainsFunc_row (g := fun v => !rightV v) row_right_1_eq]
  by_cases h : r.length ≤ 16
  · rw [if_pos (by simp; omega)]
    simp [h, List.all_eq_not_any_not]
  · rw [if_neg (by simp; omega)]
    simp [h]
theorem ref05_Right_eq (r : Row) : ref05_Right r = some (rightB r) := by
  have key : ∀ l : Row, ref05_Right_l1 l = some (l.all rightV) := by
    intro l
    induction l with
    | nil => rfl
    | cons e t ih => simp only [ref05_Right_l1, ref02_Right_eq, Option.bind_some]; cases h : rightV e <;> simp [ih, h]
  unfold ref05_Right rightB
  rw [key]
  by_cases h : r.length ≤ 16
  · rw [if_neg (by simp; omega)]
    simp [h]
  · rw [if_pos (by simp; omega)]
    simp [h]
theorem row_Check_eq (r : Row) : row_Check r = some (if rightB r then 0 else 150) := by
  unfold row_Check
  rw [row_right_eq]
  cases rightB r <;> rfl
theorem rightB_len {r : Row} (h : rightB r = true) : r.length ≤ 16 := by
  unfold rightB at h
  simp at h
  exact h.1

/-! ### How rows stand to one another -/
theorem bytesLess_irr : ∀ s : Str, Op.bytesLess s s = false
  | [] => rfl
  | a :: s => by
    unfold Op.bytesLess
    simp [bytesLess_irr s]
def orL : List Int → Int
  | [] => 0
  | e :: t => if e != 0 then e else orL t
theorem cmp_Or_eq (l : List Int) : cmp_Or_int l = some (orL l) := by
  unfold cmp_Or_int
  induction l with
  | nil => rfl
  | cons e t ih => simp only [cmp_Or_int_l1, orL]; split <;> simp [*]
def val (x y : DValue) : Int := (ref05_Value x y).getD 0
theorem ref05_Value_eq (x y : DValue) : ref05_Value x y = some (val x y) := by
  unfold val ref05_Value ref05_sign
  repeat' split
  all_goals rfl
theorem cmpI_eq (p y : Int) : cmp_Compare_int p y = some (if p < y then -1 else if y < p then 1 else 0) := by
  unfold cmp_Compare_int cmp_isNaN_int
  simp
  repeat' split
  all_goals rfl
theorem cmpI64_eq (p y : Int) : cmp_Compare_int64 p y = some (if p < y then -1 else if y < p then 1 else 0) := by
  unfold cmp_Compare_int64 cmp_isNaN_int64
  simp
  repeat' split
  all_goals rfl
theorem cmpU64_eq (p y : Int) : cmp_Compare_uint64 p y = some (if p < y then -1 else if y < p then 1 else 0) := by
  unfold cmp_Compare_uint64 cmp_isNaN_uint64
  simp
  repeat' split
  all_goals rfl
theorem cmpS_eq (p y : Str) : cmp_Compare_string p y = some (if Op.bytesLess p y then -1 else if p = y then 0 else 1) := by
  unfold cmp_Compare_string cmp_isNaN_string
  by_cases h : p = y
  · subst h; simp [bytesLess_irr]
  · cases h2 : Op.bytesLess p y <;> simp [h]
theorem row_values_eq (x y : DValue) : row_values x y = some (val x y) := by
  unfold row_values
  rw [cmpI_eq, cmpI64_eq, cmpU64_eq, cmpS_eq]
  simp only [Option.bind_some]
  rw [cmp_Or_eq]
  unfold val ref05_Value ref05_sign
  simp only [orL, Option.bind_some]
  by_cases h1 : x.Kind = y.Kind
  · rw [h1]
    by_cases h2 : x.N = y.N
    · rw [h2]
      by_cases h3 : x.U = y.U
      · rw [h3]
        by_cases h4 : x.S = y.S
        · rw [h4]; simp [bytesLess_irr]
        · cases h5 : Op.bytesLess x.S y.S <;> simp [h4]
      · rcases Int.lt_or_gt_of_ne h3 with h | h
        · simp [h3, h]
        · have : ¬ x.U < y.U := by omega
          simp [h3, h, this]
    · rcases Int.lt_or_gt_of_ne h2 with h | h
      · simp [h2, h]
      · have : ¬ x.N < y.N := by omega
        simp [h2, h, this]
  · rcases Int.lt_or_gt_of_ne h1 with h | h
    · simp [h1, h]
    · have : ¬ x.Kind < y.Kind := by omega
      simp [h1, h, this]
/-- How rows stand to one another. -/
def cmpRow : Row → Row → Int
  | [], [] => 0
  | [], _ :: _ => -1
  | _ :: _, [] => 1
  | x :: a, y :: b => if val x y != 0 then val x y else cmpRow a b
theorem CompareFunc_eq (a b : Row) : slices_CompareFunc_api_Row_api_Row_api_Value_api_Value a b row_values = some (cmpRow a b) := by
  unfold slices_CompareFunc_api_Row_api_Row_api_Value_api_Value
  have key : ∀ (l : Row) (i : Nat), a.drop i = l → i ≤ a.length → slices_CompareFunc_api_Row_api_Row_api_Value_api_Value_l1 a b row_values l i = some (cmpRow l (b.drop i)) := by
    intro l
    induction l with
    | nil =>
      intro i h1 h2
      have h3 : a.length ≤ i := List.drop_eq_nil_iff.1 h1
      simp only [slices_CompareFunc_api_Row_api_Row_api_Value_api_Value_l1]
      by_cases hlt : a.length < b.length
      · rw [if_pos (by simp; omega)]
        rw [List.drop_eq_getElem_cons (by omega : i < b.length)]; rfl
      · rw [if_neg (by simp; omega), List.drop_eq_nil_of_le (by omega)]; rfl
    | cons x t ih =>
      intro i h1 h2
      have hi : i < a.length := by
        rcases Nat.lt_or_ge i a.length with h | h
        · exact h
        · rw [List.drop_eq_nil_of_le h] at h1; cases h1
      simp only [slices_CompareFunc_api_Row_api_Row_api_Value_api_Value_l1]
      have ht := ih (i + 1) (by rw [← List.drop_drop, h1]; rfl) (by omega)
      rcases Nat.lt_or_ge i b.length with h | h
      · rw [if_neg (by simp; omega), idx_nat, List.getElem?_eq_getElem h, List.drop_eq_getElem_cons h, ht]
        simp only [Option.bind_some, row_values_eq, cmpRow]
        split <;> rfl
      · rw [if_pos (by simp; omega), List.drop_eq_nil_of_le h]; rfl
  exact key a 0 rfl (Nat.zero_le _)
theorem row_order_eq (a b : Row) : row_order a b = some (cmpRow a b) := by
  unfold row_order
  rw [CompareFunc_eq a b]; rfl
theorem row_Compare_eq (a b : Row) : row_Compare a b = some (if rightB a && rightB b then cmpRow a b else 0) := by
  unfold row_Compare
  rw [row_right_eq, row_right_eq, row_order_eq]
  cases ha : rightB a <;> cases hb : rightB b <;> simp
theorem ref05_Compare_eq (a b : Row) (ha : a.length < 4611686018427387904) : ref05_Compare a b = some (cmpRow a b) := by
  unfold ref05_Compare
  have key : ∀ n (i : Nat), i ≤ a.length → i ≤ b.length → a.length < i + n → ref05_Compare_l1 a b n (i : Int) = some (cmpRow (a.drop i) (b.drop i)) := by
    intro n
    induction n with
    | zero => intro i h1 _ h2; omega
    | succ n ih =>
      intro i h1 h2 h3
      have hw : IntKind.i64.wrap ((i : Int) + 1) = ((i + 1 : Nat) : Int) := by rw [IntKind.wrap_i64]; omega
      simp only [ref05_Compare_l1, hw]
      rcases Nat.lt_or_ge i a.length with hi | hi
      · rcases Nat.lt_or_ge i b.length with hj | hj
        · rw [if_pos (by simp; omega), idx_nat, idx_nat, List.getElem?_eq_getElem hi, List.getElem?_eq_getElem hj, List.drop_eq_getElem_cons hi, List.drop_eq_getElem_cons hj]
          simp only [Option.bind_some, ref05_Value_eq]
          rw [ih (i + 1) (by omega) (by omega) (by omega)]
          simp only [cmpRow]
          split <;> rfl
        · rw [if_neg (by simp; omega), List.drop_eq_getElem_cons hi, List.drop_eq_nil_of_le hj, if_neg (by simp; omega)]
          simp only [ref05_sign]
          rw [if_neg (by simp; omega)]
          rfl
      · rw [if_neg (by simp; omega), List.drop_eq_nil_of_le hi]
        rcases Nat.lt_or_ge i b.length with hj | hj
        · rw [List.drop_eq_getElem_cons hj, if_neg (by simp; omega)]
          simp only [ref05_sign]
          rw [if_pos (by simp; omega)]
          rfl
        · rw [List.drop_eq_nil_of_le hj, if_pos (by simp; omega)]
          rfl
  have := key FUEL 0 (Nat.zero_le _) (Nat.zero_le _) (by unfold FUEL; omega)
  simpa using this

/-! ### Which rows, and lists, are the same -/
theorem row_equal_eq (a b : Row) : row_equal a b = some (decide (a = b)) := by
  unfold row_equal slices_Equal_api_Row_api_Value
  by_cases hl : a.length = b.length
  · rw [if_neg (by simp [hl])]
    have key : ∀ (l : Row) (i : Nat), a.drop i = l → slices_Equal_api_Row_api_Value_l1 b l i = some (decide (l = b.drop i)) := by
      intro l
      induction l with
      | nil =>
        intro i h1
        have h3 : a.length ≤ i := List.drop_eq_nil_iff.1 h1
        rw [List.drop_eq_nil_of_le (by omega)]; rfl
      | cons x t ih =>
        intro i h1
        have hi : i < a.length := by
          rcases Nat.lt_or_ge i a.length with h | h
          · exact h
          · rw [List.drop_eq_nil_of_le h] at h1; cases h1
        have ht := ih (i + 1) (by rw [← List.drop_drop, h1]; rfl)
        simp only [slices_Equal_api_Row_api_Value_l1]
        rw [idx_nat, List.getElem?_eq_getElem (by omega), List.drop_eq_getElem_cons (by omega : i < b.length)]
        simp only [Option.bind_some, ht]
        by_cases hx : x = b[i]
        · rw [if_neg (by simp [hx])]
          exact congrArg some (decide_eq_decide.2 ⟨fun h => by rw [hx, h], fun h => (List.cons.inj h).2⟩)
        · rw [if_pos (by simp [hx])]
          exact congrArg some (decide_eq_false (fun h => hx (List.cons.inj h).1)).symm
    have := key a 0 rfl
    rw [this]; simp
  · rw [if_pos (by simp; omega)]
    have : a ≠ b := fun e => hl (by rw [e])
    simp [this]
theorem row_Same_eq (p q : List Row) : row_Same p q = some (decide (p = q)) := by
  unfold row_Same slices_EqualFunc_api_Row_api_Row_api_Row_api_Row
  by_cases hl : p.length = q.length
  · rw [if_neg (by simp [hl])]
    have key : ∀ (l : List Row) (i : Nat), p.drop i = l → slices_EqualFunc_api_Row_api_Row_api_Row_api_Row_l1 q row_equal l i = some (decide (l = q.drop i)) := by
      intro l
      induction l with
      | nil =>
        intro i h1
        have h3 : p.length ≤ i := List.drop_eq_nil_iff.1 h1
        rw [List.drop_eq_nil_of_le (by omega)]; rfl
      | cons x t ih =>
        intro i h1
        have hi : i < p.length := by
          rcases Nat.lt_or_ge i p.length with h | h
          · exact h
          · rw [List.drop_eq_nil_of_le h] at h1; cases h1
        have ht := ih (i + 1) (by rw [← List.drop_drop, h1]; rfl)
        simp only [slices_EqualFunc_api_Row_api_Row_api_Row_api_Row_l1]
        rw [idx_nat, List.getElem?_eq_getElem (by omega), List.drop_eq_getElem_cons (by omega : i < q.length)]
        simp only [Option.bind_some, ht, row_equal_eq]
        by_cases hx : x = q[i]
        · rw [if_neg (by simp [hx])]
          exact congrArg some (decide_eq_decide.2 ⟨fun h => by rw [hx, h], fun h => (List.cons.inj h).2⟩)
        · rw [if_pos (by simp [hx])]
          exact congrArg some (decide_eq_false (fun h => hx (List.cons.inj h).1)).symm
    have := key p 0 rfl
    rw [this]; simp
  · rw [if_pos (by simp; omega)]
    have : p ≠ q := fun e => hl (by rw [e])
    simp [this]
theorem Clone_row (r : Row) (h : r.length ≤ 68719476736) : slices_Clone_api_Row_api_Value r = some r := by
  unfold slices_Clone_api_Row_api_Value
  rw [app_ok (by simpa using h)]; rfl
theorem row_copies_eq (l : List Row) (h : ∀ r ∈ l, r.length ≤ 68719476736) (hl : l.length ≤ 68719476736) : row_copies l = some l := by
  have key : ∀ (m out : List Row), (∀ r ∈ m, r.length ≤ 68719476736) → out.length + m.length ≤ 68719476736 → row_copies_l1 m out = some (out ++ m) := by
    intro m
    induction m with
    | nil => intro out _ _; simp [row_copies_l1]
    | cons e t ih =>
      intro out h1 h2
      simp only [List.length_cons] at h2
      simp only [row_copies_l1]
      rw [Clone_row e (h1 e (List.mem_cons_self ..))]
      simp only [Option.bind_some]
      rw [app_ok (by simp; omega)]
      simp only [Option.bind_some]
      rw [ih _ (fun r hr => h1 r (List.mem_cons_of_mem _ hr)) (by simp; omega)]
      simp
  have := key l [] h (by simpa using hl)
  simpa [row_copies] using this
theorem copied_eq (l : List Row) (h : ∀ r ∈ l, r.length ≤ 68719476736) (hl : l.length ≤ 68719476736) : law05_copied l = some l := by
  have key : ∀ (m out : List Row), (∀ r ∈ m, r.length ≤ 68719476736) → out.length + m.length ≤ 68719476736 → law05_copied_l1 m out = some (out ++ m) := by
    intro m
    induction m with
    | nil => intro out _ _; simp [law05_copied_l1]
    | cons e t ih =>
      intro out h1 h2
      simp only [List.length_cons] at h2
      simp only [law05_copied_l1]
      rw [app_ok (by simpa using h1 e (List.mem_cons_self ..))]
      simp only [Option.bind_some, List.nil_append]
      rw [app_ok (by simp; omega)]
      simp only [Option.bind_some]
      rw [ih _ (fun r hr => h1 r (List.mem_cons_of_mem _ hr)) (by simp; omega)]
      simp
  have := key l [] h (by simpa using hl)
  simpa [law05_copied] using this
/-! ### What is too much -/
def largeB (r : Row) : Bool := decide (30 < r.length) || r.any fun v => decide (200 < v.S.length)
theorem large_eq (r : Row) : law05_large r = some (largeB r) := by
  unfold law05_large largeB
  have key : ∀ l : Row, law05_large_l1 l = some (l.any fun v => decide (200 < v.S.length)) := by
    intro l
    induction l with
    | nil => rfl
    | cons e t ih => simp only [law05_large_l1, ih]; by_cases h : 200 < e.S.length <;> simp [h] <;> omega
  rw [key]
  by_cases h : 30 < r.length
  · rw [if_pos (by simp; omega)]; simp [h]
  · rw [if_neg (by simp; omega)]; simp [h]
def overB (l : List Row) : Bool := decide (100 < l.length) || l.any largeB
theorem over_eq (l : List Row) : law05_over l = some (overB l) := by
  unfold law05_over overB
  have key : ∀ l : List Row, law05_over_l1 l = some (l.any largeB) := by
    intro l
    induction l with
    | nil => rfl
    | cons e t ih => simp only [law05_over_l1, large_eq, Option.bind_some, ih]; cases h : largeB e <;> simp [h]
  rw [key]
  by_cases h : 100 < l.length
  · rw [if_pos (by simp; omega)]; simp [h]
  · rw [if_neg (by simp; omega)]; simp [h]
theorem large_len {r : Row} (h : largeB r = false) : r.length ≤ 30 ∧ ∀ v ∈ r, v.S.length ≤ 200 := by
  unfold largeB at h
  simp only [Bool.or_eq_false_iff, decide_eq_false_iff_not, List.any_eq_false, decide_eq_true_eq] at h
  exact ⟨by omega, fun v hv => by have := h.2 v hv; omega⟩
theorem over_len {l : List Row} (h : overB l = false) : l.length ≤ 100 ∧ ∀ r ∈ l, r.length ≤ 30 ∧ ∀ v ∈ r, v.S.length ≤ 200 := by
  unfold overB at h
  simp only [Bool.or_eq_false_iff, decide_eq_false_iff_not, List.any_eq_false, Bool.not_eq_true] at h
  exact ⟨by omega, fun r hr => large_len (h.2 r hr)⟩
theorem wakes_true : law05_wakes = some true := by kernel_rfl
end Go.Proofs.Ytchjhcgkfglgiaa
