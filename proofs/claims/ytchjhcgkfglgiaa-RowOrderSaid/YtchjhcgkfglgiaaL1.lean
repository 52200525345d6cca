/- What the row functions come to, plainly: which rows may be, how they stand to one another, which lists are the same. -/
import Derived.Test.YtchjhcgkfglgiaaL0
namespace Go.Proofs.Ytchjhcgkfglgiaa
open Go

abbrev Row := List DValue
abbrev big : Nat := 4611686018427387904
theorem wrap_succ {i : Nat} (h : i < 4611686018427387904) : IntKind.i64.wrap ((i : Int) + 1) = ((i + 1 : Nat) : Int) := by
  rw [IntKind.wrap_i64]; omega
theorem idx_get {α : Type} {l : List α} {i : Nat} {e : α} (h : l[i]? = some e) : idx l (i : Int) = some e := by
  rw [idx_nat]; exact h
theorem lt_get {α : Type} {l : List α} {i : Nat} {e : α} (h : l[i]? = some e) : i < l.length := (List.getElem?_eq_some_iff.1 h).1
theorem range_loop {α β : Type} (l : List α) (f : Nat → Int → Option β) (K : Nat → α → Option β → Option β) (D : Option β) (g : Nat → List α → Option β)
    (hstep : ∀ n (i : Nat) e, l[i]? = some e → f (n + 1) (i : Int) = K i e (f n ((i + 1 : Nat) : Int))) (hend : ∀ n (i : Nat), l.length ≤ i → f (n + 1) (i : Int) = D)
    (h0 : ∀ i, g i [] = D) (h1 : ∀ i e t, g i (e :: t) = K i e (g (i + 1) t)) : ∀ n (i : Nat), i ≤ l.length → l.length < i + n → f n (i : Int) = g i (l.drop i) := by
  intro n
  induction n with
  | zero => intro i h1 h2; omega
  | succ n ih =>
    intro i _ h
    rcases Nat.lt_or_ge i l.length with hi | hi
    · have he : l[i]? = some l[i] := List.getElem?_eq_getElem hi
      rw [hstep n i _ he, ih (i + 1) (by omega) (by omega), List.drop_eq_getElem_cons hi, h1]
    · rw [hend n i hi, List.drop_eq_nil_of_le hi, h0]
theorem range_all {α β : Type} (l : List α) (hl : l.length < 4611686018427387904) (f : Nat → Int → Option β) (K : Nat → α → Option β → Option β) (D : Option β) (g : Nat → List α → Option β)
    (hstep : ∀ n (i : Nat) e, l[i]? = some e → f (n + 1) (i : Int) = K i e (f n ((i + 1 : Nat) : Int))) (hend : ∀ n (i : Nat), l.length ≤ i → f (n + 1) (i : Int) = D)
    (h0 : ∀ i, g i [] = D) (h1 : ∀ i e t, g i (e :: t) = K i e (g (i + 1) t)) : f FUEL (0 : Int) = g 0 l := by
  have := range_loop l f K D g hstep hend h0 h1 FUEL 0 (Nat.zero_le _) (by unfold FUEL; omega)
  simpa using this
theorem dec_lt {α : Type} {l : List α} {i : Nat} {e : α} (h : l[i]? = some e) : decide ((i : Int) < (l.length : Int)) = true := by
  have := lt_get h
  simp; omega
theorem dec_ge {α : Type} {l : List α} {i : Nat} (h : l.length ≤ i) : decide ((i : Int) < (l.length : Int)) = false := by simp; omega

/-! ### Values and rows that may be -/
def rightV (v : DValue) : Bool := (ref02_Right v).getD false
theorem ref02_Right_eq (v : DValue) : ref02_Right v = some (rightV v) := by
  unfold rightV ref02_Right
  repeat' split
  all_goals rfl
theorem value_Check_eq (v : DValue) : value_Check v = some (if rightV v then 0 else 120) := by
  obtain ⟨k, n, u, s⟩ := v
  unfold rightV ref02_Right value_Check value_blank
  simp only [value_blank_k1, value_blank_k2, value_blank_k3, value_blank_k4]
  by_cases h0 : k = 0
  · subst h0; simp
    repeat' split
    all_goals simp_all
  by_cases h1 : k = 1
  · subst h1
    by_cases n0 : n = 0
    · subst n0; simp
      repeat' split
      all_goals simp_all
    by_cases n1 : n = 1
    · subst n1; simp
      repeat' split
      all_goals simp_all
    simp [n0, n1]
  by_cases h2 : k = 2
  · subst h2; simp
    repeat' split
    all_goals simp_all
  by_cases h3 : k = 3
  · subst h3; simp
    repeat' split
    all_goals simp_all
  by_cases h4 : k = 4
  · subst h4; simp
    repeat' split
    all_goals simp_all
  simp [h0, h1, h2, h3, h4]
def rightB (r : Row) : Bool := decide (r.length ≤ 16) && r.all rightV
theorem row_right_1_eq (v : DValue) : row_right_1 v = some (!rightV v) := by
  unfold row_right_1
  rw [value_Check_eq]
  cases rightV v <;> rfl
theorem contains_eq (r : Row) (hr : r.length < 4611686018427387904) : slices_ContainsFunc_api_Row_api_Value r row_right_1 = some (!r.all rightV) := by
  unfold slices_ContainsFunc_api_Row_api_Value slices_IndexFunc_api_Row_api_Value
  let g : Nat → List DValue → Option Int := fun i l => List.rec (motive := fun _ => Nat → Option Int) (fun _ => some (-1)) (fun e _ k i => if rightV e then k (i + 1) else some (i : Int)) l i
  rw [range_all r hr (slices_IndexFunc_api_Row_api_Value_l1 r row_right_1) (fun i e k => if rightV e then k else some (i : Int)) (some (-1)) g ?_ ?_ (fun _ => rfl) (fun _ _ _ => rfl)]
  · have : ∀ (l : List DValue) (i : Nat), (g i l).bind (fun r => some (decide ((0 : Int) ≤ r))) = some (!l.all rightV) := by
      intro l
      induction l with
      | nil => intro i; rfl
      | cons e t ih =>
        intro i
        show (if rightV e then g (i + 1) t else some (i : Int)).bind _ = _
        cases h : rightV e with
        | true => simp only [if_true, List.all_cons, h, Bool.true_and]; exact ih (i + 1)
        | false => simp [h]
    exact this r 0
  · intro n i e he
    have := lt_get he
    conv => lhs; unfold slices_IndexFunc_api_Row_api_Value_l1
    rw [if_pos (dec_lt he), idx_get he, wrap_succ (by omega)]
    simp only [Option.bind_some, row_right_1_eq]
    cases rightV e <;> simp
  · intro n i hi
    conv => lhs; unfold slices_IndexFunc_api_Row_api_Value_l1
    rw [if_neg (by rw [dec_ge hi]; decide)]
theorem row_right_eq (r : Row) : row_right r = some (rightB r) := by
  unfold row_right rightB
  by_cases h : r.length ≤ 16
  · rw [if_pos (by simp; omega), contains_eq r (by omega)]
    simp [h]
  · rw [if_neg (by simp; omega)]
    simp [h]
theorem ref05_Right_eq (r : Row) : ref05_Right r = some (rightB r) := by
  unfold ref05_Right rightB
  by_cases h : r.length ≤ 16
  · rw [if_neg (by simp; omega)]
    rw [range_all r (by omega) (ref05_Right_l1 r) (fun _ e k => if rightV e then k else some false) (some true) (fun _ l => some (l.all rightV)) ?_ ?_ (fun _ => rfl) (fun _ e t => by cases h : rightV e <;> simp [h])]
    · simp [h]
    · intro n i e he
      have := lt_get he
      conv => lhs; unfold ref05_Right_l1
      rw [if_pos (dec_lt he), idx_get he, wrap_succ (by omega)]
      simp only [Option.bind_some, ref02_Right_eq]
      cases rightV e <;> simp
    · intro n i hi
      conv => lhs; unfold ref05_Right_l1
      rw [if_neg (by rw [dec_ge hi]; decide)]
  · rw [if_pos (by simp; omega)]
    simp [h]
theorem row_Check_eq (r : Row) : row_Check r = some (if rightB r then 0 else 150) := by
  unfold row_Check
  rw [row_right_eq]
  cases rightB r <;> rfl
end Go.Proofs.Ytchjhcgkfglgiaa
