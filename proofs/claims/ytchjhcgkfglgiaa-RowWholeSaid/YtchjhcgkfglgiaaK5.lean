/- The laws RowSets and RowSorts, plainly: whatever the lists, they come to true. -/
import Derived.Test.YtchjhcgkfglgiaaK4
namespace Go.Proofs.Ytchjhcgkfglgiaa
open Go

theorem rightB_mem {l : List Row} (h : allR l = true) {r : Row} (hr : r ∈ l) : rightB r = true := by
  unfold allR at h
  exact List.all_eq_true.1 h r hr
theorem allR_perm {a b : List Row} (h : a.Perm b) : allR a = allR b := by
  unfold allR
  rw [Bool.eq_iff_iff, List.all_eq_true, List.all_eq_true]
  exact ⟨fun k r hr => k r (h.mem_iff.2 hr), fun k r hr => k r (h.mem_iff.1 hr)⟩
theorem Compare_right {a b : Row} (ha : rightB a = true) (hb : rightB b = true) : row_Compare a b = some (cmpRow a b) := by rw [row_Compare_eq, ha, hb]; rfl
theorem rs4 (nx : Option Bool) (e : Row) (he : rightB e = true) : ∀ (l : List Row) (n : Nat), (∀ r ∈ l, rightB r = true) → n + l.length ≤ 100000 → law05_RowSets_l4 nx e l (n : Int) = if n + l.countP (fun r => decide (e = r)) = 1 then nx else some false := by
  intro l
  induction l with
  | nil =>
    intro n _ _
    unfold law05_RowSets_l4
    by_cases h : n = 1
    · subst h; simp
    · rw [if_pos (by simp; omega), if_neg (by simpa using h)]
  | cons x t ih =>
    intro n hr hl
    simp only [List.length_cons] at hl
    unfold law05_RowSets_l4
    rw [Compare_right he (hr x (List.mem_cons_self ..))]
    simp only [Option.bind_some]
    by_cases hx : e = x
    · rw [if_pos (by simpa using (rowC.eq e x).2 hx), wrapI (by omega) (by omega), show (n : Int) + 1 = ((n + 1 : Nat) : Int) from by omega, ih _ (fun r hm => hr r (List.mem_cons_of_mem _ hm)) (by omega), List.countP_cons_of_pos (by simpa using hx)]
      have : n + 1 + List.countP (fun r => decide (e = r)) t = n + (List.countP (fun r => decide (e = r)) t + 1) := by omega
      rw [this]
    · rw [if_neg (by simpa using fun h => hx ((rowC.eq e x).1 h)), ih _ (fun r hm => hr r (List.mem_cons_of_mem _ hm)) (by omega), List.countP_cons_of_neg (by simpa using hx)]
theorem nodup_count {α : Type} [DecidableEq α] {e : α} : ∀ {l : List α}, l.Nodup → e ∈ l → l.countP (fun r => decide (e = r)) = 1
  | x :: t, h, he => by
    have h' := List.nodup_cons.1 h
    by_cases hx : e = x
    · subst hx
      rw [List.countP_cons_of_pos (by simp)]
      have : t.countP (fun r => decide (e = r)) = 0 := List.countP_eq_zero.2 fun r hr => by
        have : ¬ e = r := fun k => h'.1 (by rw [k]; exact hr)
        simpa using this
      rw [this]
    · rw [List.countP_cons_of_neg (by simpa using hx)]
      exact nodup_count h'.2 ((List.mem_cons.1 he).resolve_left hx)
theorem rowSets_true (p : List Row) : law05_RowSets p = some true := by
  unfold law05_RowSets
  rw [wakes_true, over_eq]
  simp only [Option.bind_some, Bool.not_true, Bool.false_eq_true, if_false]
  cases hp : overB p with
  | true => rfl
  | false =>
    simp only [Bool.false_eq_true, if_false]
    have hs := small_over hp
    have hs2 : Small (srtR p) := hs.perm (srt_perm cmpRow p).symm
    have hall : allR (srtR p) = allR p := allR_perm (srt_perm cmpRow p)
    have hlen : p.length ≤ 1099511627776 := by have := hs.len; omega
    rw [row_Sorted_eq hs]
    cases ha : allR p with
    | false => rfl
    | true =>
      simp only [Option.bind_some, if_true]
      rw [row_Sorted_eq hs2, row_Alike_eq hs hs2, row_Distinct_eq hs, hall, ha]
      have hss : SortedL cmpRow (srtR p) := srt_sorted rowC p hlen
      have hid : srtR (srtR p) = srtR p := srt_id rowC hss (by rw [srt_len]; exact hlen)
      simp only [Option.bind_some, if_true, Bool.and_true, row_Same_eq, hid]
      have hdl : (dedup (srtR p)).length ≤ p.length := by have := dedup_len (srtR p); rwa [srt_len] at this
      have hright : ∀ r ∈ srtR p, rightB r = true := fun r hr => rightB_mem (by rw [hall]; exact ha) hr
      have hdr : ∀ r ∈ dedup (srtR p), rightB r = true := fun r hr => hright r ((mem_dedup _ r).1 hr)
      have hst : (dedup (srtR p)).Pairwise (fun a b => cmpRow a b < 0) := dedup_strict rowC hss
      have hnd : (dedup (srtR p)).Nodup := hst.imp fun {a b} hab e => by subst e; rw [rowC.self] at hab; omega
      obtain ⟨d, hd⟩ : ∃ d, dedup (srtR p) = d := ⟨_, rfl⟩
      have hmem : ∀ r ∈ p, r ∈ d := fun r hr => by rw [← hd]; exact (mem_dedup _ r).2 ((srt_perm cmpRow p).mem_iff.2 hr)
      obtain ⟨s, hse⟩ : ∃ s, srtR p = s := ⟨_, rfl⟩
      rw [hse] at hss hright hs2
      rw [hd] at hdl hdr hst hnd ⊢
      have hsl : s.length = p.length := by rw [← hse]; exact srt_len _ _
      rw [hse]
      simp only [decide_true, Bool.not_true, bne_self_eq_false, Bool.or_false, Bool.not_false, if_true, Option.bind_some]
      rw [if_neg (by simp)]
      have hcc : (false || (s.length : Int) != (p.length : Int) || decide ((p.length : Int) < (d.length : Int))) = false := by simp [hsl]; omega
      rw [if_neg (by rw [hcc]; decide)]
      have h3 : ∀ m : List Row, (∀ r ∈ m, rightB r = true ∧ r ∈ d) → law05_RowSets_l3 (d, 0) m = some true := by
        intro m
        induction m with
        | nil => intro _; rfl
        | cons e t ih =>
          intro hm
          obtain ⟨h1, h2⟩ := hm e (List.mem_cons_self ..)
          unfold law05_RowSets_l3
          have h4 := rs4 (law05_RowSets_l3 (d, 0) t) e h1 d 0 hdr (by have := hs.len; omega)
          rw [nodup_count hnd h2] at h4
          refine h4.trans ?_
          rw [if_pos rfl]
          exact ih fun r hr => hm r (List.mem_cons_of_mem _ hr)
      have hpr : ∀ r ∈ p, rightB r = true ∧ r ∈ d := fun r hr => ⟨rightB_mem ha hr, hmem r hr⟩
      have h2 : ∀ (m : List Row) (i : Nat), d.drop i = m → 0 < i → law05_RowSets_l2 p (d, 0) m i = some true := by
        intro m
        induction m with
        | nil => intro i _ _; exact h3 p hpr
        | cons x t ih =>
          intro i h1 h0
          have hi : i < d.length := by
            rcases Nat.lt_or_ge i d.length with h | h
            · exact h
            · rw [List.drop_eq_nil_of_le h] at h1; cases h1
          have hx : x = d[i] := by rw [List.drop_eq_getElem_cons hi] at h1; exact (List.cons.inj h1).1.symm
          unfold law05_RowSets_l2
          have hl8 := hs.len
          rw [wrapI (by omega) (by omega), show (i : Int) - 1 = ((i - 1 : Nat) : Int) from by omega, idx_nat, List.getElem?_eq_getElem (by show i - 1 < d.length; omega)]
          simp only [Option.bind_some]
          rw [Compare_right (hdr _ (List.getElem_mem _)) (by rw [hx]; exact hdr _ (List.getElem_mem _))]
          simp only [Option.bind_some]
          have hlt := List.pairwise_iff_getElem.1 hst (i - 1) i (by omega) hi (by omega)
          rw [if_neg (by rw [hx]; simp; omega)]
          exact ih (i + 1) (by rw [← List.drop_drop, h1]; rfl) (by omega)
      have h1 : ∀ (m : List Row) (i : Nat), s.drop i = m → 0 < i → law05_RowSets_l1 p (s, 0) (d, 0) m i = some true := by
        intro m
        induction m with
        | nil => intro i _ _; exact h2 _ 1 rfl (by omega)
        | cons x t ih =>
          intro i h1 h0
          have hi : i < s.length := by
            rcases Nat.lt_or_ge i s.length with h | h
            · exact h
            · rw [List.drop_eq_nil_of_le h] at h1; cases h1
          have hx : x = s[i] := by rw [List.drop_eq_getElem_cons hi] at h1; exact (List.cons.inj h1).1.symm
          unfold law05_RowSets_l1
          have hl8 := hs.len
          rw [wrapI (by omega) (by omega), show (i : Int) - 1 = ((i - 1 : Nat) : Int) from by omega, idx_nat, List.getElem?_eq_getElem (by show i - 1 < s.length; omega)]
          simp only [Option.bind_some]
          rw [Compare_right (hright _ (List.getElem_mem _)) (by rw [hx]; exact hright _ (List.getElem_mem _))]
          simp only [Option.bind_some]
          have hle := List.pairwise_iff_getElem.1 hss (i - 1) i (by omega) hi (by omega)
          rw [if_neg (by rw [hx]; simp; omega)]
          exact ih (i + 1) (by rw [← List.drop_drop, h1]; rfl) (by omega)
      exact h1 _ 1 rfl (by omega)
theorem rowSorts_true (p q : List Row) : law05_RowSorts p q = some true := by
  unfold law05_RowSorts
  rw [wakes_true, over_eq, over_eq]
  simp only [Option.bind_some, Bool.not_true, Bool.false_eq_true, if_false]
  cases hp : overB p with
  | true => rfl
  | false =>
    cases hq : overB q with
    | true => rfl
    | false =>
      simp only [Bool.not_false, if_true, Bool.false_eq_true, if_false, Option.bind_some]
      have hs := small_over hp
      have hs2 := small_over hq
      have hpl := (over_len hp).1
      have hql := (over_len hq).1
      have hpq : Small (p ++ q) := ⟨by simp; omega, fun r hr => (List.mem_append.1 hr).elim (hs.row r) (hs2.row r)⟩
      rw [copied_eq p (fun r hr => by have := hs.row r hr; omega) (by omega)]
      simp only [Option.bind_some]
      rw [row_Sorted_eq hs, row_Distinct_eq hs, row_Alike_eq hs hs2, row_Merge_two hs hs2 (by omega), row_Same_eq, ref05_Error_eq p hs.len, ref05_Sorted_eq hs, ref05_Distinct_eq hs, ref05_Error_eq q hs2.len, ref05_Sorted_eq hs2, app_ok (by omega)]
      simp only [Option.bind_some, decide_true, Bool.not_true, Bool.false_eq_true, if_false]
      rw [ref05_Sorted_eq hpq]
      have hrow : ∀ {l m : List Row}, Small l → (∀ r ∈ m, r ∈ l) → ∀ r ∈ m, r.length ≤ 1000 := fun hl hm r hr => hl.row r (hm r hr)
      have hm1 : ∀ r ∈ srtR p, r.length ≤ 1000 := hrow hs fun r hr => (srt_perm cmpRow p).mem_iff.1 hr
      have hm2 : ∀ r ∈ dedup (srtR p), r.length ≤ 1000 := fun r hr => hm1 r ((mem_dedup _ r).1 hr)
      have hm3 : ∀ r ∈ srtR (p ++ q), r.length ≤ 1000 := hrow hpq fun r hr => (srt_perm cmpRow (p ++ q)).mem_iff.1 hr
      cases ha : allR p with
      | false => rfl
      | true =>
        cases hb : allR q with
        | false =>
          simp only [if_true, Option.bind_some, Bool.and_false, Bool.false_eq_true, if_false]
          rw [ref05_Same_eq _ _ hm1, ref05_Same_eq _ _ hm2]
          simp
        | true =>
          simp only [if_true, Option.bind_some, Bool.and_true]
          rw [ref05_Same_eq _ _ hm1, ref05_Same_eq _ _ hm2, ref05_Same_eq _ _ hm3, ref05_Same_eq _ _ hm1]
          simp
end Go.Proofs.Ytchjhcgkfglgiaa
