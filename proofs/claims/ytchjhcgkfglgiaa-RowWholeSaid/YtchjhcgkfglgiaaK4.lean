/- What the functions over lists of rows come to: sorted, each once, merged; plainly. -/
import Derived.Test.YtchjhcgkfglgiaaK3
namespace Go.Proofs.Ytchjhcgkfglgiaa
open Go

abbrev rowC := cmpRow_Cmp
def lim (n : Nat) : Int := if 8000 < n then 3 else 0
def maxL : List (List Row) → Nat → Nat
  | [], n => n
  | l :: t, n => maxL t (max n l.length)
def allR (l : List Row) : Bool := l.all rightB
/-- Why nothing is asked of lists. -/
def whyL (ls : List (List Row)) : Int := if ls.all allR then lim (maxL ls 0) else 150
theorem row_lists_eq (ls : List (List Row)) : row_lists ls = some (whyL ls) := by
  have key2 : ∀ (l : List Row) (nx : Int → Option Int) (e : List Row) (n : Int), row_lists_l2 nx e n l = if allR l then nx (max n (e.length : Int)) else some 150 := by
    intro l
    induction l with
    | nil => intro nx e n; rfl
    | cons r t ih =>
      intro nx e n
      have ih' := ih nx e n
      unfold row_lists_l2
      rw [row_right_eq]
      simp only [Option.bind_some]
      rw [ih']
      unfold allR
      cases h : rightB r <;> simp [h]
  have key : ∀ (ls : List (List Row)) (n : Nat), row_lists_l1 ls (n : Int) = some (if ls.all allR then lim (maxL ls n) else 150) := by
    intro ls
    induction ls with
    | nil =>
      intro n
      show row_lists_l1 [] (n : Int) = some (lim n)
      unfold row_lists_l1 lim
      by_cases h : 8000 < n
      · rw [if_pos (by simp; omega), if_pos h]
      · rw [if_neg (by simp; omega), if_neg h]
    | cons l t ih =>
      intro n
      unfold row_lists_l1
      rw [key2, show max (n : Int) (l.length : Int) = ((max n l.length : Nat) : Int) from by omega, ih]
      show _ = some (if (allR l && t.all allR) = true then lim (maxL t (max n l.length)) else 150)
      cases h : allR l <;> simp
  exact key ls 0
theorem lim_zero {n : Nat} (h : n ≤ 8000) : lim n = 0 := by unfold lim; rw [if_neg (by omega)]
theorem why_one (l : List Row) (h : l.length ≤ 8000) : whyL [l] = if allR l then 0 else 150 := by
  show (if (allR l && true) = true then lim (max 0 l.length) else 150) = _
  rw [lim_zero (by omega), Bool.and_true]
theorem why_two (a b : List Row) (ha : a.length ≤ 8000) (hb : b.length ≤ 8000) : whyL [a, b] = if allR a && allR b then 0 else 150 := by
  show (if (allR a && (allR b && true)) = true then lim (max (max 0 a.length) b.length) else 150) = _
  rw [lim_zero (by omega), Bool.and_true]
theorem ref05_Error_eq (l : List Row) (h : l.length ≤ 8000) : ref05_Error l = some (if allR l then 0 else 150) := by
  have key : ∀ m : List Row, ref05_Error_l1 l m = some (if allR m then 0 else 150) := by
    intro m
    induction m with
    | nil => unfold ref05_Error_l1; rw [if_neg (by simp; omega)]; rfl
    | cons r t ih =>
      unfold ref05_Error_l1
      rw [ref05_Right_eq]
      simp only [Option.bind_some]
      rw [ih]
      unfold allR
      cases h : rightB r <;> simp [h]
  exact key l
/-- Rows that are not more than is gone through. -/
structure Small (l : List Row) : Prop where
  len : l.length ≤ 8000
  row : ∀ r ∈ l, r.length ≤ 1000
theorem Small.perm {a b : List Row} (h : Small a) (hp : a.Perm b) : Small b := ⟨by rw [← hp.length_eq]; exact h.len, fun r hr => h.row r (hp.mem_iff.2 hr)⟩
theorem small_over {l : List Row} (h : overB l = false) : Small l := by
  obtain ⟨h1, h2⟩ := over_len h
  exact ⟨by omega, fun r hr => by have := (h2 r hr).1; omega⟩
abbrev srtR (l : List Row) : List Row := srt cmpRow l
theorem row_sorted_eq {l : List Row} (h : Small l) : row_sorted l = some (srtR l) := by
  unfold row_sorted
  rw [row_copies_eq l (fun r hr => by have := h.row r hr; omega) (by have := h.len; omega)]
  simp only [Option.bind_some]
  rw [sortF_cmp rowC (fun x y => row_order_eq x y) (by have := h.len; omega)]
  rfl
theorem row_Sorted_eq {l : List Row} (h : Small l) : row_Sorted l = some (if allR l then (srtR l, 0) else ([], 150)) := by
  unfold row_Sorted
  rw [row_lists_eq, why_one l h.len, row_sorted_eq h]
  cases allR l <;> rfl
theorem row_Alike_eq {a b : List Row} (ha : Small a) (hb : Small b) : row_Alike a b = some (if allR a && allR b then (decide (srtR a = srtR b), 0) else (false, 150)) := by
  unfold row_Alike
  rw [row_lists_eq, why_two a b ha.len hb.len, row_sorted_eq ha, row_sorted_eq hb]
  simp only [Option.bind_some, row_Same_eq]
  cases allR a <;> cases allR b <;> rfl

/-! ### Each row once -/
theorem wrapI {n : Int} (h : -9223372036854775808 ≤ n) (h2 : n ≤ 9223372036854775807) : IntKind.i64.wrap n = n := by rw [IntKind.wrap_i64]; omega
theorem sliceF_ok {α : Type} {xs : List α} {l m : Nat} (h : l ≤ m) (h2 : m ≤ xs.length) : sliceF xs (l : Int) (m : Int) = some ((xs.take m).drop l) := by
  unfold sliceF
  rw [if_pos (by omega)]
  simp
theorem compact_l2 (p : List Row) (hp : p.length ≤ 8000) (i : Nat) (y : List Row) (hy : i + y.length = p.length) : ∀ (k i1 : Nat) (x : List Row) (x1 : Nat), i1 + k = y.length → 0 < i1 → x.length = p.length → x1 + 1 ≤ i + i1 → x.drop (i + i1 - 1) = p.drop (i + i1 - 1) →
    slices_CompactFunc_api_Row_api_Row_l2 row_equal i y k i1 x (x1 : Int) = some (x.take x1 ++ ddup ((p[i + i1 - 1]?).getD []) (p.drop (i + i1))) := by
  intro k
  induction k with
  | zero =>
    intro i1 x x1 h1 h0 hx h2 h3
    simp only [slices_CompactFunc_api_Row_api_Row_l2]
    have hx1 : x1 ≤ x.length := by omega
    rw [sliceF_ok hx1 (Nat.le_refl _)]
    simp only [Option.bind_some, List.take_length, Int.toNat_natCast]
    rw [show ((0 : Int)) = ((0 : Nat) : Int) from rfl, sliceF_ok (Nat.zero_le _) (by simp; omega)]
    simp only [Option.bind_some, List.drop_zero]
    have hn : p.drop (i + i1) = [] := List.drop_eq_nil_of_le (by omega)
    rw [hn, ddup_nil, List.append_nil, List.take_append_of_le_length (by simp; omega), List.take_take, Nat.min_self]
  | succ k ih =>
    intro i1 x x1 h1 h0 hx h2 h3
    have e1 : x[i + i1]? = p[i + i1]? := by
      have := congrArg (fun l : List Row => l[1]?) h3
      simp only [List.getElem?_drop] at this
      rwa [show i + i1 - 1 + 1 = i + i1 from by omega] at this
    have e0 : x[i + i1 - 1]? = p[i + i1 - 1]? := by
      have := congrArg (fun l : List Row => l[0]?) h3
      simpa only [List.getElem?_drop, Nat.add_zero] using this
    have hlt : i + i1 < p.length := by omega
    have g1 : idxV x (i : Int) y.length (i1 : Int) = some p[i + i1] := by
      unfold idxV
      rw [if_pos (by omega), show (i : Int) + (i1 : Int) = ((i + i1 : Nat) : Int) from by omega, idx_nat, e1, List.getElem?_eq_getElem hlt]
    have g0 : idxV x (i : Int) y.length (IntKind.i64.wrap ((i1 : Int) - 1)) = some p[i + i1 - 1] := by
      rw [wrapI (by omega) (by omega)]
      unfold idxV
      rw [if_pos (by omega), show (i : Int) + ((i1 : Int) - 1) = ((i + i1 - 1 : Nat) : Int) from by omega, idx_nat, e0, List.getElem?_eq_getElem (by omega)]
    have hd : p.drop (i + i1) = p[i + i1] :: p.drop (i + i1 + 1) := List.drop_eq_getElem_cons hlt
    have hp1 : (p[i + i1 - 1]?).getD [] = p[i + i1 - 1] := by rw [List.getElem?_eq_getElem (by omega)]; rfl
    simp only [slices_CompactFunc_api_Row_api_Row_l2, g1, g0, Option.bind_some, row_equal_eq]
    rw [hd, hp1]
    by_cases hx2 : p[i + i1] = p[i + i1 - 1]
    · rw [if_neg (by simp [hx2])]
      have h3' : x.drop (i + (i1 + 1) - 1) = p.drop (i + (i1 + 1) - 1) := by
        have := congrArg (List.drop 1) h3
        rwa [List.drop_drop, List.drop_drop, show i + i1 - 1 + 1 = i + (i1 + 1) - 1 from by omega] at this
      rw [ih (i1 + 1) x x1 (by omega) (by omega) hx (by omega) h3']
      rw [ddup_same hx2, show i + (i1 + 1) - 1 = i + i1 from by omega, List.getElem?_eq_getElem hlt, show i + (i1 + 1) = i + i1 + 1 from by omega]
      rfl
    · rw [if_pos (by simp [hx2]), idx_nat, List.getElem?_eq_getElem (by omega)]
      simp only [Option.bind_some, Int.toNat_natCast]
      rw [wrapI (by omega) (by omega), show ((x1 : Int) + 1) = ((x1 + 1 : Nat) : Int) from by omega]
      have h3' : (x.set x1 p[i + i1]).drop (i + (i1 + 1) - 1) = p.drop (i + (i1 + 1) - 1) := by
        rw [List.drop_set_of_lt (by omega)]
        have := congrArg (List.drop 1) h3
        rwa [List.drop_drop, List.drop_drop, show i + i1 - 1 + 1 = i + (i1 + 1) - 1 from by omega] at this
      rw [ih (i1 + 1) _ (x1 + 1) (by omega) (by omega) (by simpa using hx) (by omega) h3']
      rw [ddup_ne hx2, show i + (i1 + 1) - 1 = i + i1 from by omega, List.getElem?_eq_getElem hlt, show i + (i1 + 1) = i + i1 + 1 from by omega]
      have ht : (x.set x1 p[i + i1]).take (x1 + 1) = x.take x1 ++ [p[i + i1]] := by
        rw [List.take_succ_eq_append_getElem (by simp; omega), List.take_set_of_le (by omega)]
        simp
      rw [ht]
      simp
theorem compact_eq (p : List Row) (hp : p.length ≤ 8000) : slices_CompactFunc_api_Row_api_Row p row_equal = some (dedup p) := by
  unfold slices_CompactFunc_api_Row_api_Row
  by_cases h2 : p.length < 2
  · rw [if_pos (by simp; omega)]
    match p, h2 with
    | [], _ => rfl
    | [x], _ => rfl
  · rw [if_neg (by simp; omega)]
    have key : ∀ (l : List Row) (i : Nat), p.drop i = l → 0 < i → i ≤ p.length → dedup p = p.take i ++ ddup ((p[i - 1]?).getD []) (p.drop i) → slices_CompactFunc_api_Row_api_Row_l1 p row_equal l i = some (dedup p) := by
      intro l
      induction l with
      | nil =>
        intro i h1 h0 hle h3
        have := List.drop_eq_nil_iff.1 h1
        simp only [slices_CompactFunc_api_Row_api_Row_l1]
        rw [h3, h1, List.take_of_length_le (by omega), ddup_nil, List.append_nil]
      | cons x t ih =>
        intro i h1 h0 hle h3
        have hi : i < p.length := by
          rcases Nat.lt_or_ge i p.length with h | h
          · exact h
          · rw [List.drop_eq_nil_of_le h] at h1; cases h1
        have hx : x = p[i] := by rw [List.drop_eq_getElem_cons hi] at h1; exact (List.cons.inj h1).1.symm
        have ht : p.drop (i + 1) = t := by rw [← List.drop_drop, h1]; rfl
        have hp1 : (p[i - 1]?).getD [] = p[i - 1] := by rw [List.getElem?_eq_getElem (by omega)]; rfl
        simp only [slices_CompactFunc_api_Row_api_Row_l1]
        rw [wrapI (by omega) (by omega), show (i : Int) - 1 = ((i - 1 : Nat) : Int) from by omega, idx_nat, List.getElem?_eq_getElem (by omega)]
        simp only [Option.bind_some, row_equal_eq]
        by_cases he : x = p[i - 1]
        · rw [if_pos (by simp [he])]
          rw [sliceF_ok hle (Nat.le_refl _)]
          simp only [Option.bind_some, List.take_length]
          rw [compact_l2 p hp i (p.drop i) (by simp; omega) _ 1 p i (by simp; omega) (by omega) rfl (by omega) (by simp)]
          rw [h3, h1, hp1, ddup_same he, ← ht, hx]
          rw [show i + 1 - 1 = i from by omega, List.getElem?_eq_getElem hi]; rfl
        · rw [if_neg (by simp [he])]
          refine ih (i + 1) ht (by omega) (by omega) ?_
          rw [h3, h1, hp1, ddup_ne he, List.take_succ_eq_append_getElem hi, ← ht, hx, show i + 1 - 1 = i from by omega, List.getElem?_eq_getElem hi]
          rw [List.append_assoc]; rfl
    have hpc : p = p[0] :: p.drop 1 := by
      have := List.drop_eq_getElem_cons (l := p) (i := 0) (by omega)
      simpa using this
    refine key (p.drop 1) 1 rfl (by omega) (by omega) ?_
    have e : (p[1 - 1]?).getD [] = p[0] := by simp [List.getElem?_eq_getElem (show 0 < p.length by omega)]
    rw [e]
    conv => lhs; rw [hpc]
    have e2 : p.take 1 = [p[0]] := by
      conv => lhs; rw [hpc]
      rfl
    rw [e2]; rfl
theorem row_Distinct_eq {l : List Row} (h : Small l) : row_Distinct l = some (if allR l then (dedup (srtR l), 0) else ([], 150)) := by
  unfold row_Distinct
  rw [row_lists_eq, why_one l h.len, row_sorted_eq h]
  simp only [Option.bind_some]
  rw [compact_eq _ (by rw [srt_len]; exact h.len)]
  cases allR l <;> rfl

/-! ### The document's answer -/
theorem ref05_Same_eq (a b : List Row) (ha : ∀ r ∈ a, r.length ≤ 1000) : ref05_Same a b = some (decide (a = b)) := by
  unfold ref05_Same
  by_cases hl : a.length = b.length
  · rw [if_neg (by simp [hl])]
    have key : ∀ (l : List Row) (i : Nat), a.drop i = l → (∀ r ∈ l, r.length ≤ 1000) → ref05_Same_l1 b l i = some (decide (l = b.drop i)) := by
      intro l
      induction l with
      | nil =>
        intro i h1 _
        have h3 : a.length ≤ i := List.drop_eq_nil_iff.1 h1
        rw [List.drop_eq_nil_of_le (by omega)]; rfl
      | cons x t ih =>
        intro i h1 hr
        have hi : i < a.length := by
          rcases Nat.lt_or_ge i a.length with h | h
          · exact h
          · rw [List.drop_eq_nil_of_le h] at h1; cases h1
        have ht := ih (i + 1) (by rw [← List.drop_drop, h1]; rfl) (fun r hm => hr r (List.mem_cons_of_mem _ hm))
        simp only [ref05_Same_l1]
        rw [idx_nat, List.getElem?_eq_getElem (by omega), List.drop_eq_getElem_cons (by omega : i < b.length)]
        simp only [Option.bind_some, ht]
        rw [ref05_Compare_eq _ _ (by have := hr x (List.mem_cons_self ..); omega)]
        simp only [Option.bind_some]
        by_cases hx : x = b[i]
        · rw [if_neg (by rw [hx]; simp [rowC.self])]
          exact congrArg some (decide_eq_decide.2 ⟨fun h => by rw [hx, h], fun h => (List.cons.inj h).2⟩)
        · rw [if_pos (by simpa using fun h => hx ((rowC.eq x b[i]).1 h))]
          exact congrArg some (decide_eq_false (fun h => hx (List.cons.inj h).1)).symm
    have := key a 0 rfl ha
    rw [this]; simp
  · rw [if_pos (by simp; omega)]
    have : a ≠ b := fun e => hl (by rw [e])
    simp [this]
theorem ref05_Sorted_eq {l : List Row} (h : Small l) : ref05_Sorted l = some (srtR l) := by
  have key2 : ∀ (tl : List Row) (nx : List Row → Option (List Row)) (e : Row) (next : List Row) (done : Bool), e.length ≤ 1000 → next.length + tl.length + (if done then 0 else 1) ≤ 100000 →
      ref05_Sorted_l2 nx e tl next done = nx (next ++ if done then tl else put cmpRow e tl) := by
    intro tl
    induction tl with
    | nil =>
      intro nx e next done he hl
      cases done with
      | true => simp [ref05_Sorted_l2, ref05_Sorted_k1]
      | false => simp only [List.length_nil, Bool.false_eq_true, if_false] at hl; simp only [ref05_Sorted_l2, Bool.not_false, if_true]; rw [app_ok (by simp; omega)]; simp [ref05_Sorted_k1, put]
    | cons x t ih =>
      intro nx e next done he hl
      simp only [List.length_cons] at hl
      cases done with
      | true =>
        simp only [if_true] at hl
        simp only [ref05_Sorted_l2, Bool.not_true, Bool.false_eq_true, if_false, Option.bind_some, ref05_Sorted_k2]
        rw [app_ok (by simp; omega)]
        simp only [Option.bind_some]
        rw [ih nx e _ true he (by simp; omega)]
        simp
      | false =>
        simp only [Bool.false_eq_true, if_false] at hl
        simp only [ref05_Sorted_l2, Bool.not_false, if_true, ref05_Sorted_k2]
        rw [ref05_Compare_eq _ _ (by omega)]
        simp only [Option.bind_some, decide_eq_true_eq]
        by_cases hc : cmpRow e x < 0
        · rw [if_pos hc, app_ok (by simp; omega)]
          simp only [Option.bind_some]
          rw [app_ok (by simp; omega)]
          simp only [Option.bind_some]
          rw [ih nx e _ true he (by simp; omega)]
          simp [put, hc]
        · rw [if_neg hc, app_ok (by simp; omega)]
          simp only [Option.bind_some]
          rw [ih nx e _ false he (by simp; omega)]
          simp [put, hc]
  have key : ∀ (m out : List Row), (∀ r ∈ m, r.length ≤ 1000) → out.length + m.length ≤ 100000 → ref05_Sorted_l1 m out = some (putAll cmpRow m out) := by
    intro m
    induction m with
    | nil => intro out _ _; rfl
    | cons e t ih =>
      intro out h1 h2
      simp only [List.length_cons] at h2
      simp only [ref05_Sorted_l1]
      rw [key2 out _ e [] false (h1 e (List.mem_cons_self ..)) (by simp; omega)]
      simp only [List.nil_append, Bool.false_eq_true, if_false]
      rw [ih _ (fun r hr => h1 r (List.mem_cons_of_mem _ hr)) (by rw [(put_perm cmpRow e out).length_eq]; simp; omega)]
      rfl
  have := key l [] h.row (by have := h.len; simp; omega)
  unfold ref05_Sorted
  rw [this, putAll_eq rowC l (by have := h.len; omega)]
theorem ref05_Distinct_eq {l : List Row} (h : Small l) : ref05_Distinct l = some (dedup (srtR l)) := by
  unfold ref05_Distinct
  rw [ref05_Sorted_eq h]
  simp only [Option.bind_some]
  have hs : Small (srtR l) := h.perm (srt_perm cmpRow l).symm
  obtain ⟨s, hse⟩ : ∃ s, srtR l = s := ⟨_, rfl⟩
  rw [hse] at hs ⊢
  have key : ∀ (m : List Row) (i : Nat) (out : List Row), s.drop i = m → i + m.length = s.length → out.length ≤ i → ref05_Distinct_l1 s m i out = some (out ++ if i = 0 then dedup m else ddup ((s[i - 1]?).getD []) m) := by
    intro m
    induction m with
    | nil => intro i out _ _ _; simp only [ref05_Distinct_l1]; split <;> simp [dedup, ddup]
    | cons x t ih =>
      intro i out h1 h2 h3
      simp only [List.length_cons] at h2
      have hlen := hs.len
      have ht : s.drop (i + 1) = t := by rw [← List.drop_drop, h1]; rfl
      have hx : s[i]? = some x := by
        have := List.getElem?_drop (xs := s) (i := i) (j := 0)
        rw [h1] at this
        simpa using this.symm
      simp only [ref05_Distinct_l1]
      by_cases hi : i = 0
      · subst hi
        simp only [Int.ofNat_zero, beq_self_eq_true, Bool.not_true, Bool.false_eq_true, if_false, Option.bind_some, if_true]
        rw [app_ok (by simp only [List.length_cons, List.length_nil]; omega)]
        simp only [Option.bind_some]
        rw [ih 1 _ ht (by omega) (by simp only [List.length_append, List.length_cons, List.length_nil]; omega)]
        simp [dedup, hx]
      · have hlt : i - 1 < s.length := by omega
        rw [if_pos (by simp; omega), wrapI (by omega) (by omega), show (i : Int) - 1 = ((i - 1 : Nat) : Int) from by omega, idx_nat, List.getElem?_eq_getElem hlt]
        simp only [Option.bind_some]
        rw [ref05_Compare_eq _ _ (by have := hs.row _ (List.getElem_mem hlt); omega)]
        simp only [Option.bind_some, Option.getD_some]
        rw [if_neg hi]
        by_cases he : x = s[i - 1]
        · rw [if_neg (by rw [← he]; simp [rowC.self]), ih (i + 1) out ht (by omega) (by omega), if_neg (by omega)]
          rw [ddup_same (by simpa [List.getElem?_eq_getElem hlt] using he), show i + 1 - 1 = i from by omega, hx]; rfl
        · rw [if_pos (by simpa using fun h => he ((rowC.eq s[i - 1] x).1 h).symm), app_ok (by simp; omega)]
          simp only [Option.bind_some]
          rw [ih (i + 1) _ ht (by omega) (by simp; omega), if_neg (by omega)]
          rw [ddup_ne (by simpa [List.getElem?_eq_getElem hlt] using he), show i + 1 - 1 = i from by omega, hx]
          simp
  have := key s 0 [] rfl (by simp) (Nat.le_refl _)
  simpa using this
/-! ### Merged -/
theorem Grow_eq (n : Int) (h0 : 0 ≤ n) (h : n ≤ 68719476736) : slices_Grow_api_Row_api_Row n = some [] := by
  unfold slices_Grow_api_Row_api_Row slices_Grow_api_Row_api_Row_k1
  rw [if_neg (by simp; omega)]
  have e : IntKind.i64.wrap (n - IntKind.i64.wrap ((0 : Int) - 0)) = n := by
    rw [wrapI (n := (0 : Int) - 0) (by omega) (by omega), wrapI (by omega) (by omega)]; omega
  rw [e]
  by_cases hp : 0 < n
  · rw [if_pos (by simpa using hp)]
    unfold gt0 zerosF
    rw [if_pos hp]
    simp only [Option.bind_some]
    rw [if_pos ⟨h0, h⟩]
    simp only [Option.bind_some]
    rw [show sliceF (List.replicate n.toNat ([] : Row)) 0 0 = some [] from by unfold sliceF; rw [if_pos (by simp; omega)]; simp]
    rfl
  · rw [if_neg (by simpa using hp)]; rfl
theorem Concat_two (a b : List Row) (ha : a.length ≤ 8000) (hb : b.length ≤ 8000) : slices_Concat_api_Row_api_Row [a, b] = some (a ++ b) := by
  unfold slices_Concat_api_Row_api_Row
  simp only [slices_Concat_api_Row_api_Row_l1]
  rw [wrapI (n := (0 : Int) + (a.length : Int)) (by omega) (by omega), if_neg (by simp), wrapI (by omega) (by omega), if_neg (by simp; omega), Grow_eq _ (by omega) (by omega)]
  simp only [Option.bind_some, slices_Concat_api_Row_api_Row_l2]
  rw [app_ok (by simp; omega)]
  simp only [Option.bind_some, List.nil_append]
  rw [app_ok (by omega)]
  rfl
theorem row_Merge_two {a b : List Row} (ha : Small a) (hb : Small b) (hab : a.length + b.length ≤ 8000) : row_Merge [a, b] = some (if allR a && allR b then (srtR (a ++ b), 0) else ([], 150)) := by
  unfold row_Merge
  rw [row_lists_eq, why_two a b ha.len hb.len, Concat_two a b ha.len hb.len]
  simp only [Option.bind_some]
  have hs : Small (a ++ b) := ⟨by simp; omega, fun r hr => (List.mem_append.1 hr).elim (ha.row r) (hb.row r)⟩
  rw [row_Sorted_eq hs]
  have e : allR (a ++ b) = (allR a && allR b) := by simp [allR]
  rw [e]
  cases allR a <;> cases allR b <;> rfl
end Go.Proofs.Ytchjhcgkfglgiaa
