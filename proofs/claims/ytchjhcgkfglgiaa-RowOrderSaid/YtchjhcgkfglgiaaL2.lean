/- What the row functions come to, plainly: how rows stand to one another, and which lists are the same. -/
import Derived.Test.YtchjhcgkfglgiaaL1
namespace Go.Proofs.Ytchjhcgkfglgiaa
open Go

theorem bytesLess_irr : ∀ s : Str, Op.bytesLess s s = false
  | [] => rfl
  | a :: s => by
    unfold Op.bytesLess
    simp [bytesLess_irr s]
def orL : List Int → Int
  | [] => 0
  | e :: t => if e != 0 then e else orL t
theorem cmp_Or_eq (l : List Int) (hl : l.length < 4611686018427387904) : cmp_Or_int l = some (orL l) := by
  unfold cmp_Or_int
  rw [range_all l hl (cmp_Or_int_l1 l) (fun _ e k => if e != 0 then some e else k) (some 0) (fun _ l => some (orL l)) ?_ ?_ (fun _ => rfl) (fun _ e t => by show some (if e != 0 then e else orL t) = _; split <;> rfl)]
  · intro n i e he
    have := lt_get he
    conv => lhs; unfold cmp_Or_int_l1
    rw [if_pos (dec_lt he), idx_get he, wrap_succ (by omega)]
    rfl
  · intro n i hi
    conv => lhs; unfold cmp_Or_int_l1
    rw [if_neg (by rw [dec_ge hi]; decide)]
def val (x y : DValue) : Int := (ref05_Value x y).getD 0
theorem ref05_Value_eq (x y : DValue) : ref05_Value x y = some (val x y) := by
  unfold val ref05_Value ref05_sign
  repeat' split
  all_goals rfl
theorem cmpI_eq (p y : Int) : cmp_Compare_int p y = some (if p < y then -1 else if y < p then 1 else 0) := by
  unfold cmp_Compare_int cmp_isNaN_int
  simp
  repeat' split
  all_goals rfl
theorem cmpI64_eq (p y : Int) : cmp_Compare_int64 p y = some (if p < y then -1 else if y < p then 1 else 0) := by
  unfold cmp_Compare_int64 cmp_isNaN_int64
  simp
  repeat' split
  all_goals rfl
theorem cmpU64_eq (p y : Int) : cmp_Compare_uint64 p y = some (if p < y then -1 else if y < p then 1 else 0) := by
  unfold cmp_Compare_uint64 cmp_isNaN_uint64
  simp
  repeat' split
  all_goals rfl
theorem cmpS_eq (p y : Str) : cmp_Compare_string p y = some (if Op.bytesLess p y then -1 else if p = y then 0 else 1) := by
  unfold cmp_Compare_string cmp_isNaN_string
  by_cases h : p = y
  · subst h; simp [bytesLess_irr]
  · cases h2 : Op.bytesLess p y <;> simp [h]
theorem row_values_eq (x y : DValue) : row_values x y = some (val x y) := by
  unfold row_values
  rw [cmpI_eq, cmpI64_eq, cmpU64_eq, cmpS_eq]
  simp only [Option.bind_some]
  rw [cmp_Or_eq _ (by simp)]
  unfold val ref05_Value ref05_sign
  simp only [orL, Option.bind_some]
  by_cases h1 : x.Kind = y.Kind
  · rw [h1]
    by_cases h2 : x.N = y.N
    · rw [h2]
      by_cases h3 : x.U = y.U
      · rw [h3]
        by_cases h4 : x.S = y.S
        · rw [h4]; simp [bytesLess_irr]
        · cases h5 : Op.bytesLess x.S y.S <;> simp [h4]
      · rcases Int.lt_or_gt_of_ne h3 with h | h
        · simp [h3, h]
        · have : ¬ x.U < y.U := by omega
          simp [h3, h, this]
    · rcases Int.lt_or_gt_of_ne h2 with h | h
      · simp [h2, h]
      · have : ¬ x.N < y.N := by omega
        simp [h2, h, this]
  · rcases Int.lt_or_gt_of_ne h1 with h | h
    · simp [h1, h]
    · have : ¬ x.Kind < y.Kind := by omega
      simp [h1, h, this]
/-- How rows stand to one another. -/
def cmpRow : Row → Row → Int
  | [], [] => 0
  | [], _ :: _ => -1
  | _ :: _, [] => 1
  | x :: a, y :: b => if val x y != 0 then val x y else cmpRow a b
theorem CompareFunc_eq (a b : Row) (ha : a.length < 4611686018427387904) : slices_CompareFunc_api_Row_api_Row_api_Value_api_Value a b row_values = some (cmpRow a b) := by
  unfold slices_CompareFunc_api_Row_api_Row_api_Value_api_Value
  rw [range_all a ha (slices_CompareFunc_api_Row_api_Row_api_Value_api_Value_l1 a b row_values) (fun i x k => match b[i]? with | none => some 1 | some y => if val x y != 0 then some (val x y) else k)
    (if a.length < b.length then some (-1) else some 0)
    (fun i l => List.rec (motive := fun _ => Nat → Option Int) (fun _ => if a.length < b.length then some (-1) else some 0) (fun x _ k i => match b[i]? with | none => some 1 | some y => if val x y != 0 then some (val x y) else k (i + 1)) l i) ?_ ?_ (fun _ => rfl) (fun _ _ _ => rfl)]
  · have key : ∀ (l : Row) (i : Nat), a.drop i = l → i ≤ a.length → (List.rec (motive := fun _ => Nat → Option Int) (fun _ => if a.length < b.length then some (-1) else some 0) (fun x _ k i => match b[i]? with | none => some 1 | some y => if val x y != 0 then some (val x y) else k (i + 1)) l i : Option Int) = some (cmpRow l (b.drop i)) := by
      intro l
      induction l with
      | nil =>
        intro i h1 h2
        have h3 : a.length ≤ i := List.drop_eq_nil_iff.1 h1
        show (if a.length < b.length then some (-1) else some 0) = _
        by_cases hlt : a.length < b.length
        · rw [if_pos hlt, List.drop_eq_getElem_cons (by omega : i < b.length)]; rfl
        · rw [if_neg hlt, List.drop_eq_nil_of_le (by omega)]; rfl
      | cons x t ih =>
        intro i h1 h2
        have hi : i < a.length := by
          rcases Nat.lt_or_ge i a.length with h | h
          · exact h
          · rw [List.drop_eq_nil_of_le h] at h1; cases h1
        have ht : a.drop (i + 1) = t := by rw [← List.drop_drop, h1]; rfl
        show (match b[i]? with | none => some 1 | some y => if val x y != 0 then some (val x y) else _) = _
        cases hb : b[i]? with
        | none => rw [List.drop_eq_nil_of_le (List.getElem?_eq_none_iff.1 hb)]; rfl
        | some y =>
          have hbi := lt_get hb
          have hy : b[i] = y := by have := (List.getElem?_eq_some_iff.1 hb).2; exact this
          rw [List.drop_eq_getElem_cons hbi, hy]
          show (if val x y != 0 then some (val x y) else _) = some (if val x y != 0 then val x y else cmpRow t (b.drop (i + 1)))
          split
          · rfl
          · exact ih (i + 1) ht (by omega)
    exact key a 0 rfl (Nat.zero_le _)
  · intro n i e he
    have := lt_get he
    conv => lhs; unfold slices_CompareFunc_api_Row_api_Row_api_Value_api_Value_l1
    rw [if_pos (dec_lt he), idx_get he, wrap_succ (by omega)]
    simp only [Option.bind_some]
    cases hb : b[i]? with
    | none =>
      have := List.getElem?_eq_none_iff.1 hb
      rw [if_pos (by simp; omega)]
    | some y =>
      have := lt_get hb
      rw [if_neg (by simp; omega), idx_get hb]
      simp only [Option.bind_some, row_values_eq]
  · intro n i hi
    conv => lhs; unfold slices_CompareFunc_api_Row_api_Row_api_Value_api_Value_l1
    rw [if_neg (by rw [dec_ge hi]; decide)]
    by_cases h : a.length < b.length
    · rw [if_pos (by simp; omega), if_pos h]
    · rw [if_neg (by simp; omega), if_neg h]
theorem row_order_eq (a b : Row) (ha : a.length < 4611686018427387904) : row_order a b = some (cmpRow a b) := by
  unfold row_order
  rw [CompareFunc_eq a b ha]; rfl
theorem rightB_len {r : Row} (h : rightB r = true) : r.length ≤ 16 := by
  unfold rightB at h
  simp at h
  exact h.1
theorem row_Compare_eq (a b : Row) : row_Compare a b = some (if rightB a && rightB b then cmpRow a b else 0) := by
  unfold row_Compare
  rw [row_right_eq, row_right_eq]
  cases ha : rightB a with
  | false => simp
  | true =>
    cases hb : rightB b with
    | false => simp
    | true =>
      have := rightB_len ha
      rw [row_order_eq a b (by omega)]
      simp
theorem ref05_Compare_eq (a b : Row) (ha : a.length < 4611686018427387904) : ref05_Compare a b = some (cmpRow a b) := by
  unfold ref05_Compare
  have key : ∀ n (i : Nat), i ≤ a.length → i ≤ b.length → a.length < i + n → ref05_Compare_l1 a b n (i : Int) = some (cmpRow (a.drop i) (b.drop i)) := by
    intro n
    induction n with
    | zero => intro i h1 _ h2; omega
    | succ n ih =>
      intro i h1 h2 h3
      conv => lhs; unfold ref05_Compare_l1
      rcases Nat.lt_or_ge i a.length with hi | hi
      · rcases Nat.lt_or_ge i b.length with hj | hj
        · have he : a[i]? = some a[i] := List.getElem?_eq_getElem hi
          have hf : b[i]? = some b[i] := List.getElem?_eq_getElem hj
          rw [if_pos (by simp; omega), idx_get he, idx_get hf, wrap_succ (by omega), List.drop_eq_getElem_cons hi, List.drop_eq_getElem_cons hj]
          simp only [Option.bind_some, ref05_Value_eq]
          rw [ih (i + 1) (by omega) (by omega) (by omega)]
          show _ = some (if val a[i] b[i] != 0 then val a[i] b[i] else cmpRow (a.drop (i + 1)) (b.drop (i + 1)))
          split <;> rfl
        · rw [if_neg (by simp; omega), List.drop_eq_getElem_cons hi, List.drop_eq_nil_of_le hj, if_neg (by simp; omega)]
          simp only [ref05_sign]
          rw [if_neg (by simp; omega)]
          rfl
      · rw [if_neg (by simp; omega), List.drop_eq_nil_of_le hi]
        rcases Nat.lt_or_ge i b.length with hj | hj
        · rw [List.drop_eq_getElem_cons hj, if_neg (by simp; omega)]
          simp only [ref05_sign]
          rw [if_pos (by simp; omega)]
          rfl
        · rw [List.drop_eq_nil_of_le hj, if_pos (by simp; omega)]
          rfl
  have := key FUEL 0 (Nat.zero_le _) (Nat.zero_le _) (by unfold FUEL; omega)
  simpa using this

/-! ### Which lists are the same -/
theorem row_equal_eq (a b : Row) (ha : a.length < 4611686018427387904) : row_equal a b = some (decide (a = b)) := by
  unfold row_equal slices_Equal_api_Row_api_Value
  by_cases hl : a.length = b.length
  · rw [if_neg (by simp [hl])]
    have key : ∀ n (i : Nat), i ≤ a.length → a.length < i + n → slices_Equal_api_Row_api_Value_l1 a b n (i : Int) = some (decide (a.drop i = b.drop i)) := by
      intro n
      induction n with
      | zero => intro i h1 h2; omega
      | succ n ih =>
        intro i h1 h3
        conv => lhs; unfold slices_Equal_api_Row_api_Value_l1
        rcases Nat.lt_or_ge i a.length with hi | hi
        · have he : a[i]? = some a[i] := List.getElem?_eq_getElem hi
          have hf : b[i]? = some b[i] := List.getElem?_eq_getElem (by omega)
          rw [if_pos (dec_lt he), idx_get he, idx_get hf, wrap_succ (by omega), List.drop_eq_getElem_cons hi, List.drop_eq_getElem_cons (by omega : i < b.length)]
          simp only [Option.bind_some]
          rw [ih (i + 1) (by omega) (by omega)]
          by_cases hx : a[i] = b[i]
          · rw [if_neg (by simp [hx])]
            exact congrArg some (decide_eq_decide.2 ⟨fun h => by rw [hx, h], fun h => (List.cons.inj h).2⟩)
          · rw [if_pos (by simp [hx])]
            exact congrArg some (decide_eq_false (fun h => hx (List.cons.inj h).1)).symm
        · rw [if_neg (by rw [dec_ge hi]; decide), List.drop_eq_nil_of_le hi, List.drop_eq_nil_of_le (by omega)]
          simp
    have := key FUEL 0 (Nat.zero_le _) (by unfold FUEL; omega)
    simp only [Int.ofNat_zero, List.drop_zero] at this
    rw [this]; rfl
  · rw [if_pos (by simp; omega)]
    have : a ≠ b := fun e => hl (by rw [e])
    simp [this]
theorem row_Same_eq (p q : List Row) (hp : p.length < 4611686018427387904) (hr : ∀ r ∈ p, r.length < 4611686018427387904) : row_Same p q = some (decide (p = q)) := by
  unfold row_Same slices_EqualFunc_api_Row_api_Row_api_Row_api_Row
  by_cases hl : p.length = q.length
  · rw [if_neg (by simp [hl])]
    have key : ∀ n (i : Nat), i ≤ p.length → p.length < i + n → slices_EqualFunc_api_Row_api_Row_api_Row_api_Row_l1 p q row_equal n (i : Int) = some (decide (p.drop i = q.drop i)) := by
      intro n
      induction n with
      | zero => intro i h1 h2; omega
      | succ n ih =>
        intro i h1 h3
        conv => lhs; unfold slices_EqualFunc_api_Row_api_Row_api_Row_api_Row_l1
        rcases Nat.lt_or_ge i p.length with hi | hi
        · have he : p[i]? = some p[i] := List.getElem?_eq_getElem hi
          have hf : q[i]? = some q[i] := List.getElem?_eq_getElem (by omega)
          rw [if_pos (dec_lt he), idx_get he, idx_get hf, wrap_succ (by omega), List.drop_eq_getElem_cons hi, List.drop_eq_getElem_cons (by omega : i < q.length)]
          simp only [Option.bind_some]
          rw [ih (i + 1) (by omega) (by omega), row_equal_eq _ _ (hr _ (List.getElem_mem _))]
          simp only [Option.bind_some]
          by_cases hx : p[i] = q[i]
          · rw [if_neg (by simp [hx])]
            exact congrArg some (decide_eq_decide.2 ⟨fun h => by rw [hx, h], fun h => (List.cons.inj h).2⟩)
          · rw [if_pos (by simp [hx])]
            exact congrArg some (decide_eq_false (fun h => hx (List.cons.inj h).1)).symm
        · rw [if_neg (by rw [dec_ge hi]; decide), List.drop_eq_nil_of_le hi, List.drop_eq_nil_of_le (by omega)]
          simp
    have := key FUEL 0 (Nat.zero_le _) (by unfold FUEL; omega)
    simp only [Int.ofNat_zero, List.drop_zero] at this
    rw [this]; rfl
  · rw [if_pos (by simp; omega)]
    have : p ≠ q := fun e => hl (by rw [e])
    simp [this]
theorem app_ok {α : Type} {xs ys : List α} (h : xs.length + ys.length ≤ 1099511627776) : app xs ys = some (xs ++ ys) := if_pos h
theorem copied_eq (l : List Row) (hl : l.length ≤ 1000) (hr : ∀ r ∈ l, r.length ≤ 1000) : law05_copied l = some l := by
  unfold law05_copied
  have key : ∀ n (i : Nat), i ≤ l.length → l.length < i + n → law05_copied_l1 l n (l.take i) (i : Int) = some l := by
    intro n
    induction n with
    | zero => intro i h1 h2; omega
    | succ n ih =>
      intro i h1 h3
      conv => lhs; unfold law05_copied_l1
      rcases Nat.lt_or_ge i l.length with hi | hi
      · have he : l[i]? = some l[i] := List.getElem?_eq_getElem hi
        have h5 := hr l[i] (List.getElem_mem _)
        rw [if_pos (dec_lt he), idx_get he, wrap_succ (by omega)]
        simp only [Option.bind_some]
        rw [app_ok (by simp; omega)]
        simp only [Option.bind_some, List.nil_append]
        rw [app_ok (by simp; omega)]
        simp only [Option.bind_some]
        rw [show l.take i ++ [l[i]] = l.take (i + 1) from (List.take_succ_eq_append_getElem hi).symm]
        exact ih (i + 1) (by omega) (by omega)
      · rw [if_neg (by rw [dec_ge hi]; decide), List.take_of_length_le hi]
  have := key FUEL 0 (Nat.zero_le _) (by unfold FUEL; omega)
  simpa using this
end Go.Proofs.Ytchjhcgkfglgiaa
