/- The law RowOrder, plainly: whatever the list and the number, it comes to true. -/
import Derived.Test.YtchjhcgkfglgiaaL4
namespace Go.Proofs.Ytchjhcgkfglgiaa
open Go

theorem cmp_right {a b : Row} (ha : rightB a = true) (hb : rightB b = true) : row_Compare a b = some (cmpRow a b) := by
  rw [row_Compare_eq, ha, hb]; rfl
theorem check_right {a : Row} (ha : rightB a = true) : row_Check a = some 0 := by rw [row_Check_eq, ha]; rfl
theorem check_wrong {a : Row} (ha : rightB a = false) : row_Check a = some 150 := by rw [row_Check_eq, ha]; rfl
theorem right_take {a : Row} (k : Nat) (ha : rightB a = true) : rightB (a.take k) = true := by
  unfold rightB at *
  simp only [Bool.and_eq_true, decide_eq_true_eq, List.all_eq_true] at *
  exact ⟨by rw [List.length_take]; omega, fun v hv => ha.2 v (List.mem_of_mem_take hv)⟩
section
variable (x : List Row)
theorem ro3 (hx : x.length ≤ 100) {e e1 : Row} (he : rightB e = true) (he1 : rightB e1 = true) (nx : Int → Option Bool) (j : Nat) (hj : j < 1000) : ∀ n (i : Nat), i ≤ x.length → x.length < i + n → law05_RowOrder_l3 x e nx (j : Int) e1 n (i : Int) = nx ((j + 1 : Nat) : Int) := by
  intro n
  induction n with
  | zero => intro i h1 h2; omega
  | succ n ih =>
    intro i h1 h2
    conv => lhs; unfold law05_RowOrder_l3
    rcases Nat.lt_or_ge i x.length with hi | hi
    · have hg : x[i]? = some x[i] := List.getElem?_eq_getElem hi
      rw [if_pos (dec_lt hg), idx_get hg, wrap_succ (by omega)]
      simp only [Option.bind_some]
      rw [ih (i + 1) (by omega) (by omega)]
      cases hr : rightB x[i] with
      | false => rw [check_wrong hr]; simp
      | true =>
        rw [check_right hr, cmp_right he he1, cmp_right he1 hr, cmp_right he hr]
        have := cmpRow_Cmp.trans e e1 x[i]
        by_cases h3 : cmpRow e e1 ≤ 0
        · by_cases h4 : cmpRow e1 x[i] ≤ 0
          · have h5 := this h3 h4
            have h6 : ¬ (0 < cmpRow e x[i]) := by omega
            simp [h3, h4, h6]
          · simp [h3, h4]
        · simp [h3]
    · rw [if_neg (by rw [dec_ge hi]; decide)]
      unfold law05_RowOrder_k3
      rw [wrap_succ (by omega)]
theorem ro2 (hx : x.length ≤ 100) {e : Row} (he : rightB e = true) (nx : Int → Option Bool) (k : Nat) (hk : k < 1000) : ∀ n (j : Nat), j ≤ x.length → x.length < j + n → law05_RowOrder_l2 x nx (k : Int) e n (j : Int) = nx ((k + 1 : Nat) : Int) := by
  intro n
  induction n with
  | zero => intro i h1 h2; omega
  | succ n ih =>
    intro j h1 h2
    conv => lhs; unfold law05_RowOrder_l2
    rcases Nat.lt_or_ge j x.length with hj | hj
    · have hg : x[j]? = some x[j] := List.getElem?_eq_getElem hj
      rw [if_pos (dec_lt hg), idx_get hg]
      simp only [Option.bind_some]
      cases hr : rightB x[j] with
      | false =>
        rw [check_wrong hr]
        simp only [Option.bind_some]
        rw [if_pos (by decide)]
        unfold law05_RowOrder_k3
        rw [wrap_succ (by omega)]
        exact ih (j + 1) (by omega) (by omega)
      | true =>
        have hl := rightB_len he
        rw [check_right hr, cmp_right he hr, cmp_right hr he, row_Same_eq [e] [x[j]] (by simp) (fun r h => by simp at h; subst h; omega)]
        simp only [Option.bind_some]
        rw [if_neg (by decide)]
        have h3 := cmpRow_Cmp.anti e x[j]
        have h4 := cmpRow_Cmp.rng e x[j]
        have h5 : IntKind.i64.wrap (0 - cmpRow x[j] e) = cmpRow e x[j] := by rw [IntKind.wrap_i64]; omega
        have h6 := cmpRow_Cmp.eq e x[j]
        rw [h5]
        have h7 := ro3 x hx he hr (law05_RowOrder_l2 x nx (k : Int) e n) j (by omega) FUEL 0 (Nat.zero_le _) (by unfold FUEL; omega)
        have h8 := ih (j + 1) (by omega) (by omega)
        have h9 : law05_RowOrder_l3 x e (law05_RowOrder_l2 x nx (k : Int) e n) (j : Int) x[j] FUEL (0 : Int) = nx ((k + 1 : Nat) : Int) := by rw [← h8]; exact h7
        rw [h9]
        by_cases h10 : e = x[j]
        · have h11 := h6.2 h10
          have hd : decide ([e] = [x[j]]) = true := decide_eq_true (by rw [← h10])
          rw [h11, hd]
          rfl
        · have h11 : cmpRow e x[j] ≠ 0 := fun h => h10 (h6.1 h)
          simp [h11, h10]
    · rw [if_neg (by rw [dec_ge hj]; decide)]
      unfold law05_RowOrder_k2
      rw [wrap_succ (by omega)]
theorem ro1 (p : Int) (hx : x.length ≤ 100) : ∀ n (i : Nat), i ≤ x.length → x.length < i + n → law05_RowOrder_l1 p x n (i : Int) = some true := by
  intro n
  induction n with
  | zero => intro i h1 h2; omega
  | succ n ih =>
    intro i h1 h2
    conv => lhs; unfold law05_RowOrder_l1
    rcases Nat.lt_or_ge i x.length with hi | hi
    · have hg : x[i]? = some x[i] := List.getElem?_eq_getElem hi
      rw [if_pos (dec_lt hg), idx_get hg]
      simp only [Option.bind_some]
      cases hr : rightB x[i] with
      | false =>
        rw [check_wrong hr]
        simp only [Option.bind_some]
        rw [if_pos (by decide)]
        unfold law05_RowOrder_k2
        rw [wrap_succ (by omega)]
        exact ih (i + 1) (by omega) (by omega)
      | true =>
        have hl := rightB_len hr
        rw [check_right hr, wrap_succ (by omega)]
        simp only [Option.bind_some]
        rw [if_neg (by decide)]
        have hnz : nz (((x[i].length + 1 : Nat)) : Int) = some () := by unfold nz; rw [if_neg (by omega)]
        rw [hnz]
        simp only [Option.bind_some]
        obtain ⟨k, hk⟩ : ∃ k : Nat, (max p 0).tmod ((x[i].length + 1 : Nat) : Int) = (k : Int) := by
          have : 0 ≤ (max p 0).tmod ((x[i].length + 1 : Nat) : Int) := Int.tmod_nonneg _ (by omega)
          exact ⟨_, (Int.toNat_of_nonneg this).symm⟩
        rw [hk]
        have h7 := ro2 x hx hr (law05_RowOrder_l1 p x n) i (by omega) FUEL 0 (Nat.zero_le _) (by unfold FUEL; omega)
        have h8 := ih (i + 1) (by omega) (by omega)
        have h9 : law05_RowOrder_l2 x (law05_RowOrder_l1 p x n) (i : Int) x[i] FUEL (0 : Int) = some true := by rw [← h8]; exact h7
        rw [h9]
        by_cases hlt : k < x[i].length
        · have hs : sliceF x[i] 0 (k : Int) = some (x[i].take k) := by
            unfold sliceF
            rw [if_pos (by omega)]
            simp
          rw [hs]
          simp only [Option.bind_some]
          rw [cmp_right (right_take k hr) hr, cmpRow_take _ _ hlt]
          simp
        · have : ¬ ((k : Int) < (x[i].length : Int)) := by omega
          simp [this]
    · rw [if_neg (by rw [dec_ge hi]; decide)]
end
theorem rowOrder_k1 (p : Int) (x : List Row) : law05_RowOrder_k1 p x = some true := by
  unfold law05_RowOrder_k1
  rw [over_eq]
  cases h : overB x with
  | true => rfl
  | false =>
    obtain ⟨h1, _⟩ := over_len h
    have := ro1 x p h1 FUEL 0 (Nat.zero_le _) (by unfold FUEL; omega)
    simpa using this
theorem rowOrder_true (l : List Row) (p : Int) : law05_RowOrder l p = some true := by
  unfold law05_RowOrder
  rw [wakes_true]
  simp only [Option.bind_some, Bool.not_true, Bool.false_eq_true, if_false]
  split
  · rename_i h
    have hs : sliceF l 0 12 = some (l.take 12) := by
      unfold sliceF
      rw [if_pos (by simp at h; omega)]
      rfl
    rw [hs]
    exact rowOrder_k1 p _
  · exact rowOrder_k1 p l
end Go.Proofs.Ytchjhcgkfglgiaa
