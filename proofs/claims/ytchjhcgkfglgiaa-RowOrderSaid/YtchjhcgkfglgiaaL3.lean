/- The law RowTells, plainly: whatever the two lists, it comes to true. -/
import Derived.Test.YtchjhcgkfglgiaaL2
namespace Go.Proofs.Ytchjhcgkfglgiaa
open Go

def largeB (r : Row) : Bool := decide (30 < r.length) || r.any fun v => decide (200 < v.S.length)
theorem large_eq (r : Row) : law05_large r = some (largeB r) := by
  unfold law05_large largeB
  by_cases h : 30 < r.length
  · rw [if_pos (by simp; omega)]; simp [h]
  · rw [if_neg (by simp; omega)]
    rw [range_all r (by omega) (law05_large_l1 r) (fun _ e k => if 200 < e.S.length then some true else k) (some false) (fun _ l => some (l.any fun v => decide (200 < v.S.length))) ?_ ?_ (fun _ => rfl) (fun _ e t => by by_cases h : 200 < e.S.length <;> simp [h])]
    · simp [h]
    · intro n i e he
      have := lt_get he
      conv => lhs; unfold law05_large_l1
      rw [if_pos (dec_lt he), idx_get he, wrap_succ (by omega)]
      simp only [Option.bind_some]
      by_cases h : 200 < e.S.length
      · rw [if_pos (by simp; omega), if_pos h]
      · rw [if_neg (by simp; omega), if_neg h]
    · intro n i hi
      conv => lhs; unfold law05_large_l1
      rw [if_neg (by rw [dec_ge hi]; decide)]
def overB (l : List Row) : Bool := decide (100 < l.length) || l.any largeB
theorem over_eq (l : List Row) : law05_over l = some (overB l) := by
  unfold law05_over overB
  by_cases h : 100 < l.length
  · rw [if_pos (by simp; omega)]; simp [h]
  · rw [if_neg (by simp; omega)]
    rw [range_all l (by omega) (law05_over_l1 l) (fun _ e k => if largeB e then some true else k) (some false) (fun _ l => some (l.any largeB)) ?_ ?_ (fun _ => rfl) (fun _ e t => by cases h : largeB e <;> simp [h])]
    · simp [h]
    · intro n i e he
      have := lt_get he
      conv => lhs; unfold law05_over_l1
      rw [if_pos (dec_lt he), idx_get he, wrap_succ (by omega)]
      simp only [Option.bind_some, large_eq]
    · intro n i hi
      conv => lhs; unfold law05_over_l1
      rw [if_neg (by rw [dec_ge hi]; decide)]
theorem over_len {l : List Row} (h : overB l = false) : l.length ≤ 100 ∧ ∀ r ∈ l, r.length ≤ 30 := by
  unfold overB at h
  simp only [Bool.or_eq_false_iff, decide_eq_false_iff_not, List.any_eq_false] at h
  refine ⟨by omega, fun r hr => ?_⟩
  have := h.2 r hr
  unfold largeB at this
  simp only [Bool.or_eq_true, decide_eq_true_eq, not_or] at this
  omega
section
variable (p q : List Row)
theorem l3_eq (nx : Bool → Int → Option Bool) {i : Nat} {a b : Row} (ha : p[i]? = some a) (hb : q[i]? = some b) (hi : i < 1000) (hl : a.length ≤ 30) :
    law05_RowTells_l3 p q nx (i : Int) FUEL ((a.length : Int) == (b.length : Int)) (0 : Int) = nx (decide (a = b)) ((i + 1 : Nat) : Int) := by
  have stop : ∀ n (k : Nat), law05_RowTells_l3 p q nx (i : Int) (n + 1) false (k : Int) = nx false ((i + 1 : Nat) : Int) := by
    intro n k
    conv => lhs; unfold law05_RowTells_l3
    rw [idx_get ha]
    simp only [Option.bind_some]
    rw [if_neg (by simp), wrap_succ (by omega)]
  by_cases hlen : a.length = b.length
  · have key : ∀ n (k : Nat), k ≤ a.length → a.length + 1 < k + n → law05_RowTells_l3 p q nx (i : Int) n true (k : Int) = nx (decide (a.drop k = b.drop k)) ((i + 1 : Nat) : Int) := by
      intro n
      induction n with
      | zero => intro k h1 h2; omega
      | succ n ih =>
        intro k h1 h2
        conv => lhs; unfold law05_RowTells_l3
        rw [idx_get ha]
        simp only [Option.bind_some]
        rcases Nat.lt_or_ge k a.length with hk | hk
        · have he : a[k]? = some a[k] := List.getElem?_eq_getElem hk
          have hf : b[k]? = some b[k] := List.getElem?_eq_getElem (by omega)
          rw [if_pos (by simp; omega), idx_get he]
          simp only [Option.bind_some]
          rw [idx_get hb]
          simp only [Option.bind_some]
          rw [idx_get hf, wrap_succ (by omega), List.drop_eq_getElem_cons hk, List.drop_eq_getElem_cons (by omega : k < b.length)]
          simp only [Option.bind_some]
          by_cases hx : a[k] = b[k]
          · rw [decide_eq_true hx, ih (k + 1) (by omega) (by omega)]
            congr 1
            exact decide_eq_decide.2 ⟨fun h => by rw [hx, h], fun h => (List.cons.inj h).2⟩
          · rw [decide_eq_false hx]
            obtain ⟨m, rfl⟩ : ∃ m, n = m + 1 := ⟨n - 1, by omega⟩
            rw [stop m (k + 1)]
            congr 1
            exact (decide_eq_false (fun h => hx (List.cons.inj h).1)).symm
        · rw [if_neg (by simp; omega), wrap_succ (by omega), List.drop_eq_nil_of_le hk, List.drop_eq_nil_of_le (by omega)]
          simp
    have e : ((a.length : Int) == (b.length : Int)) = true := by simp [hlen]
    rw [e]
    have := key FUEL 0 (Nat.zero_le _) (by unfold FUEL; omega)
    simpa using this
  · have e : ((a.length : Int) == (b.length : Int)) = false := by simp; omega
    have hne : a ≠ b := fun h => hlen (by rw [h])
    rw [e, decide_eq_false hne]
    exact stop (FUEL - 1) 0
theorem l2_eq (hp : p.length ≤ 100) (hr : ∀ r ∈ p, r.length ≤ 30) : ∀ n (i : Nat) (x : Bool), i ≤ p.length → p.length < i + n → (x = true → p.length = q.length ∧ p.take i = q.take i) → (x = false → p ≠ q) → law05_RowTells_l2 p q n x (i : Int) = some true := by
  intro n
  induction n with
  | zero => intro i x h1 h2; omega
  | succ n ih =>
    intro i x h1 h2 h3 h4
    conv => lhs; unfold law05_RowTells_l2
    have fin : ∀ y : Bool, y = decide (p = q) → ((row_Same p q).bind fun r8 => (if (r8 == y) = true then ((law05_copied p).bind fun r9 => (row_Same p r9).bind fun r10 => some r10) else some false).bind fun t2 => some t2) = some true := by
      rintro y rfl
      rw [row_Same_eq p q (by omega) (fun r h => by have := hr r h; omega)]
      simp only [Option.bind_some, beq_self_eq_true, if_true]
      rw [copied_eq p (by omega) (fun r h => by have := hr r h; omega)]
      simp only [Option.bind_some]
      rw [row_Same_eq p p (by omega) (fun r h => by have := hr r h; omega)]
      simp
    cases x with
    | false =>
      rw [if_neg (by simp)]
      exact fin false (decide_eq_false (h4 rfl)).symm
    | true =>
      obtain ⟨hl, ht⟩ := h3 rfl
      rcases Nat.lt_or_ge i p.length with hi | hi
      · have he : p[i]? = some p[i] := List.getElem?_eq_getElem hi
        have hf : q[i]? = some q[i] := List.getElem?_eq_getElem (by omega)
        rw [if_pos (by simp; omega), idx_get he, idx_get hf]
        simp only [Option.bind_some]
        rw [l3_eq p q _ he hf (by omega) (hr _ (List.getElem_mem _))]
        refine ih (i + 1) _ (by omega) (by omega) (fun hx => ⟨hl, ?_⟩) (fun hx => ?_)
        · have hx' := of_decide_eq_true hx
          rw [List.take_succ_eq_append_getElem hi, List.take_succ_eq_append_getElem (by omega : i < q.length), ht, hx']
        · have hx' := of_decide_eq_false hx
          intro e
          apply hx'
          subst e
          rfl
      · rw [if_neg (by simp; omega)]
        have : p = q := by rwa [List.take_of_length_le hi, List.take_of_length_le (by omega)] at ht
        exact fin true (decide_eq_true this).symm
theorem l1_eq (hp : p.length ≤ 100) (hr : ∀ r ∈ p, r.length ≤ 30) : ∀ n (i : Nat), i ≤ p.length → p.length < i + n → law05_RowTells_l1 p q n (i : Int) = some true := by
  intro n
  induction n with
  | zero => intro i h1 h2; omega
  | succ n ih =>
    intro i h1 h2
    conv => lhs; unfold law05_RowTells_l1
    rcases Nat.lt_or_ge i p.length with hi | hi
    · have he : p[i]? = some p[i] := List.getElem?_eq_getElem hi
      have hlen := hr p[i] (List.getElem_mem _)
      have hnx : law05_RowTells_k1 (law05_RowTells_l1 p q n) (i : Int) = some true := by
        unfold law05_RowTells_k1
        rw [wrap_succ (by omega)]
        exact ih (i + 1) (by omega) (by omega)
      rw [if_pos (dec_lt he), idx_get he]
      simp only [Option.bind_some]
      rw [ref05_Right_eq, row_Check_eq]
      simp only [Option.bind_some]
      rw [if_neg (by cases rightB p[i] <;> simp)]
      by_cases hc : (decide ((q.length : Int) ≤ (i : Int)) || ((i : Int) == 20)) = true
      · rw [if_pos hc]; exact hnx
      · rw [if_neg hc]
        have hiq : i < q.length := by
          simp at hc
          omega
        have hf : q[i]? = some q[i] := List.getElem?_eq_getElem hiq
        rw [idx_get hf]
        simp only [Option.bind_some]
        rw [ref05_Right_eq, ref05_Compare_eq _ _ (by omega)]
        simp only [Option.bind_some]
        unfold law05_RowTells_k2
        rw [idx_get hf]
        simp only [Option.bind_some]
        rw [row_Compare_eq]
        simp only [Option.bind_some]
        cases rightB p[i] <;> cases rightB q[i] <;> simp [hnx]
    · rw [if_neg (by rw [dec_ge hi]; decide)]
      have := l2_eq p q hp hr FUEL 0 ((p.length : Int) == (q.length : Int)) (Nat.zero_le _) (by unfold FUEL; omega) (fun h => ⟨by have := eq_of_beq h; omega, rfl⟩) (fun h e => by rw [e] at h; simp at h)
      simpa using this
end
/-- Whatever the two lists. -/
theorem rowTells_true (p q : List Row) : law05_RowTells p q = some true := by
  unfold law05_RowTells
  rw [wakes_true, over_eq, over_eq]
  simp only [Option.bind_some, Bool.not_true, Bool.false_eq_true, if_false]
  cases hp : overB p with
  | true => simp
  | false =>
    cases hq : overB q with
    | true => simp
    | false =>
      simp only [Bool.not_false, if_true, Option.bind_some, Bool.false_eq_true, if_false]
      obtain ⟨h1, h2⟩ := over_len hp
      have := l1_eq p q h1 h2 FUEL 0 (Nat.zero_le _) (by unfold FUEL; omega)
      simpa using this
end Go.Proofs.Ytchjhcgkfglgiaa
