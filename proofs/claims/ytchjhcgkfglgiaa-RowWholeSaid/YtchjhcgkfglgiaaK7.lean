/- The law RowTakes, plainly. -/
import Derived.Test.YtchjhcgkfglgiaaK5
import Derived.Test.YtchjhcgkfglgiaaK6
import Derived.Test.YtchjhcgkfglgiaaA0
namespace Go.Proofs.Ytchjhcgkfglgiaa
open Go

/-! ### Which columns may be asked -/
def okCols (r : Row) (c : List Int) : Bool := decide (c.length ≤ 16) && c.all fun e => decide (0 ≤ e) && decide (e < (r.length : Int))
theorem IndexFunc_int_eq {f : Int → Option Bool} {g : Int → Bool} (hf : ∀ v, f v = some (g v)) : ∀ (l : List Int) (i : Nat), ∃ j : Int, slices_IndexFunc_int_int_l1 f l i = some j ∧ decide (0 ≤ j) = l.any g
  | [], i => ⟨-1, rfl, rfl⟩
  | e :: l, i => by
    unfold slices_IndexFunc_int_int_l1
    rw [hf, Option.bind_some]
    cases h : g e with
    | true => exact ⟨(i : Int), by simp, by simp [h]⟩
    | false =>
      obtain ⟨j, h1, h2⟩ := IndexFunc_int_eq hf l (i + 1)
      exact ⟨j, by simpa using h1, by rw [h2]; simp [h]⟩
theorem ContainsFunc_int_eq {f : Int → Option Bool} {g : Int → Bool} (hf : ∀ v, f v = some (g v)) (l : List Int) : slices_ContainsFunc_int_int l f = some (l.any g) := by
  unfold slices_ContainsFunc_int_int slices_IndexFunc_int_int
  obtain ⟨j, h1, h2⟩ := IndexFunc_int_eq hf l 0
  rw [h1, Option.bind_some, h2]
theorem row_has_eq (r : Row) (c : List Int) : row_has r c = some (okCols r c) := by
  unfold row_has okCols
  rw [ContainsFunc_int_eq (f := row_has_1 r) (g := fun c => (decide (c < (0 : Int))) || (decide ((r.length : Int) ≤ c))) (fun v => rfl)]
  by_cases h : c.length ≤ 16
  · rw [if_pos (by rw [decide_eq_true_eq]; omega), Option.bind_some, Option.bind_some, decide_eq_true h, Bool.true_and]
    congr 1
    induction c with
    | nil => rfl
    | cons e c ih =>
      rw [List.any_cons, List.all_cons, Bool.not_or, ih (by simp at h; omega)]
      congr 1
      rw [Bool.eq_iff_iff]; simp only [Bool.not_eq_true', Bool.or_eq_false_iff, Bool.and_eq_true, decide_eq_true_eq, decide_eq_false_iff_not]; omega
  · rw [if_neg (by rw [decide_eq_true_eq]; omega), Option.bind_some, decide_eq_false h, Bool.false_and]
theorem ref05_Columns_l1_eq (r : Row) : ∀ c : List Int, ref05_Columns_l1 [r] c = some (c.all fun e => decide (0 ≤ e) && decide (e < (r.length : Int)))
  | [] => rfl
  | e :: c => by
    unfold ref05_Columns_l1
    by_cases h : e < 0
    · rw [if_pos (by rw [decide_eq_true_eq]; exact h), List.all_cons, decide_eq_false (show ¬ 0 ≤ e by omega)]; rfl
    · rw [if_neg (by rw [decide_eq_true_eq]; exact h)]
      unfold ref05_Columns_l2
      by_cases h2 : (r.length : Int) ≤ e
      · rw [if_pos (by rw [decide_eq_true_eq]; exact h2), List.all_cons, decide_eq_false (show ¬ e < (r.length : Int) by omega), Bool.and_false]; rfl
      · rw [if_neg (by rw [decide_eq_true_eq]; exact h2)]
        unfold ref05_Columns_l2
        rw [ref05_Columns_l1_eq r c, List.all_cons, decide_eq_true (show e < (r.length : Int) by omega), decide_eq_true (show 0 ≤ e by omega)]; rfl
theorem ref05_Columns_eq (r : Row) (c : List Int) : ref05_Columns [r] c = some (okCols r c) := by
  unfold ref05_Columns okCols
  by_cases h : c.length ≤ 16
  · rw [if_neg (by rw [decide_eq_true_eq]; omega), ref05_Columns_l1_eq, decide_eq_true h, Bool.true_and]
  · rw [if_pos (by rw [decide_eq_true_eq]; omega), decide_eq_false h, Bool.false_and]
def asked (r : Row) (c : List Int) : Int := if rightB r then (if okCols r c then 0 else 2) else 150
theorem ref05_Asked_eq (r : Row) (c : List Int) : ref05_Asked [r] c = some (asked r c) := by
  unfold ref05_Asked asked
  rw [ref05_Error_eq [r] (by simp), Option.bind_some, show allR [r] = rightB r by simp [allR]]
  cases rightB r with
  | false => simp
  | true =>
    rw [if_pos rfl, if_neg (by decide), ref05_Columns_eq, Option.bind_some, if_pos rfl]
    cases okCols r c <;> rfl
theorem row_asked_eq (r : Row) (c : List Int) : row_asked [r] c = some (asked r c) := by
  unfold row_asked asked
  rw [row_lists_eq, why_one [r] (by simp), Option.bind_some, show allR [r] = rightB r by simp [allR]]
  cases rightB r with
  | false => simp
  | true =>
    rw [if_pos rfl, if_neg (by decide), ContainsFunc_int_eq (f := row_asked_1) (g := fun c => decide (c < (0 : Int))) (fun v => rfl), if_pos rfl]
    by_cases h : c.length ≤ 16
    · rw [if_pos (by simp; omega), Option.bind_some, Option.bind_some]
      cases hn : c.any (fun c => decide (c < (0 : Int))) with
      | true =>
        rw [if_pos rfl]
        have : okCols r c = false := by
          unfold okCols
          rw [Bool.and_eq_false_iff]; right
          rw [List.all_eq_false]
          obtain ⟨e, h1, h2⟩ := List.any_eq_true.1 hn
          exact ⟨e, h1, by simp at h2 ⊢; omega⟩
        rw [this]; rfl
      | false =>
        rw [if_neg (by decide)]
        unfold row_asked_l1
        rw [row_has_eq, Option.bind_some]
        cases okCols r c <;> rfl
    · rw [if_neg (by simp; omega), Option.bind_some, if_pos rfl]
      unfold okCols
      rw [decide_eq_false h]; rfl
/-! ### What is taken -/
theorem take_l1_eq (r : Row) : ∀ (c : List Int) (out : Row), (∀ e ∈ c, 0 ≤ e ∧ e < (r.length : Int)) → out.length + c.length ≤ 1000 →
    ∃ t : Row, t.length = out.length + c.length ∧ (∀ v ∈ t, v ∈ out ∨ v ∈ r) ∧ row_take_l1 r c out = some t ∧ ref05_Take_l1 r c out = some t
  | [], out, _, _ => ⟨out, rfl, fun v hv => .inl hv, rfl, rfl⟩
  | e :: c, out, h, hl => by
    obtain ⟨h1, h2⟩ := h e (List.mem_cons_self ..)
    obtain ⟨n, rfl⟩ := Int.eq_ofNat_of_zero_le h1
    have hn : n < r.length := by omega
    rw [List.length_cons] at hl
    obtain ⟨t, g1, g2, g3, g4⟩ := take_l1_eq r c (out ++ [r[n]]) (fun e he => h e (List.mem_cons_of_mem _ he)) (by simp; omega)
    have hi : idx r (n : Int) = some r[n] := by rw [idx_nat]; exact List.getElem?_eq_getElem hn
    refine ⟨t, by rw [g1]; simp; omega, fun v hv => ?_, ?_, ?_⟩
    · rcases g2 v hv with g | g
      · rcases List.mem_append.1 g with g | g
        · exact .inl g
        · rw [List.mem_singleton.1 g]; exact .inr (List.getElem_mem hn)
      · exact .inr g
    · unfold row_take_l1
      rw [hi, Option.bind_some, app_ok (by simp; omega), Option.bind_some]
      exact g3
    · unfold ref05_Take_l1
      rw [hi, Option.bind_some, app_ok (by simp; omega), Option.bind_some]
      exact g4
/-! ### Hashes -/
theorem hash_l1_eq : ∀ (t : Row) (b : List Int), byt b → (∀ v ∈ t, v.S.length ≤ 200 ∧ 0 ≤ v.U ∧ v.U < 18446744073709551616) → b.length + 300 * t.length ≤ 9000 →
    ∃ n : Nat, n < 4294967296 ∧ row_hash_l1 t b = some (n : Int) ∧ ref05_Hash_l1 t b = some (n : Int)
  | [], b, hb, _, _ => by
    obtain ⟨n, h0, h1, h2⟩ := sums_same b hb
    exact ⟨n, h0, by unfold row_hash_l1; rw [h1]; rfl, by unfold ref05_Hash_l1; rw [h2]; rfl⟩
  | v :: t, b, hb, hv, hl => by
    obtain ⟨h1, h2, h3⟩ := hv v (List.mem_cons_self ..)
    rw [List.length_cons] at hl
    obtain ⟨u, hu⟩ := Int.eq_ofNat_of_zero_le h2
    obtain ⟨m, hm⟩ : ∃ m : Nat, IntKind.u64.wrap v.N = (m : Int) := ⟨(IntKind.u64.wrap v.N).toNat, by rw [IntKind.wrap_u64]; omega⟩
    have hm2 : m < 18446744073709551616 := by rw [IntKind.wrap_u64] at hm; omega
    have hbl : (bytesOf v.S).length = v.S.length := by simp [bytesOf]
    have hb' : byt (b ++ [IntKind.u8.wrap v.Kind] ++ bytesN m 8 ++ bytesN u 8 ++ [IntKind.u8.wrap (v.S.length : Int)] ++ bytesOf v.S) :=
      byt_append (byt_append (byt_append (byt_append (byt_append hb (byt_one _)) (byt_bytesN _ _)) (byt_bytesN _ _)) (byt_one _)) (byt_bytes _)
    obtain ⟨n, g0, g1, g2⟩ := hash_l1_eq t _ hb' (fun w hw => hv w (List.mem_cons_of_mem _ hw)) (by simp only [List.length_append, bytesN_len, hbl, List.length_cons, List.length_nil]; omega)
    refine ⟨n, g0, ?_, ?_⟩
    · unfold row_hash_l1
      rw [app_ok (by simp; omega), Option.bind_some, hm, row_number_eq _ _ (by simp; omega), Option.bind_some, hu, row_number_eq _ _ (by simp [bytesN_len]; omega), Option.bind_some,
        app_ok (by simp [bytesN_len]; omega), Option.bind_some, app_ok (by simp [bytesN_len, hbl]; omega), Option.bind_some]
      exact g1
    · unfold ref05_Hash_l1
      rw [app_ok (by simp; omega), Option.bind_some, hm, ref05_number_eq m hm2, Option.bind_some, app_ok (by simp [bytesN_len]; omega), Option.bind_some, hu, ref05_number_eq u (by omega), Option.bind_some,
        app_ok (by simp [bytesN_len]; omega), Option.bind_some, app_ok (by simp [bytesN_len]; omega), Option.bind_some, show fits v.S.length = some () from if_pos (by omega), Option.bind_some,
        app_ok (by simp [bytesN_len, hbl]; omega), Option.bind_some]
      exact g2
theorem app_nil {α : Type} {xs : List α} (h : xs.length ≤ 68719476736) : app [] xs = some xs := by rw [app_ok (by simpa using h)]; rfl
theorem rowTakes_true (p : Row) (hp : ∀ v ∈ p, 0 ≤ v.U ∧ v.U < 18446744073709551616) (c : List Int) : law05_RowTakes p c = some true := by
  unfold law05_RowTakes
  rw [wakes_true, Option.bind_some, if_neg (by decide), large_eq, Option.bind_some]
  cases hL : largeB p with
  | true => rfl
  | false =>
    rw [Bool.false_or]
    by_cases hc : 40 < c.length
    · rw [if_pos (by rw [decide_eq_true_eq]; omega)]
    rw [if_neg (by rw [decide_eq_true_eq]; omega)]
    obtain ⟨hl, hs⟩ := large_len hL
    have hT : row_Take p c = if asked p c != 0 then some ([], asked p c) else (row_take p c).bind fun r2 => some (r2, (0 : Int)) := by
      unfold row_Take
      rw [row_asked_eq, Option.bind_some]
    rw [app_nil (show p.length ≤ 68719476736 by omega), Option.bind_some, app_nil (show c.length ≤ 68719476736 by omega), Option.bind_some, hT]
    have hH : row_Hash p c = if asked p c != 0 then some ((0 : Int), asked p c) else (row_take p c).bind fun r => (row_hash r).bind fun r2 => some (r2, (0 : Int)) := by
      unfold row_Hash
      rw [hT]
      by_cases ha : asked p c = 0
      · simp [ha]; cases row_take p c <;> rfl
      · simp [ha]
    simp only [Option.bind_some, hH]
    by_cases ha : asked p c = 0
    · have hok : okCols p c = true := by
        unfold asked at ha
        cases h1 : okCols p c with
        | true => rfl
        | false => rw [h1] at ha; split at ha <;> simp at ha
      unfold okCols at hok
      rw [Bool.and_eq_true, decide_eq_true_eq, List.all_eq_true] at hok
      obtain ⟨t, g1, g2, g3, g4⟩ := take_l1_eq p c [] (fun e he => by have := hok.2 e he; rw [Bool.and_eq_true, decide_eq_true_eq, decide_eq_true_eq] at this; exact this) (by simp; omega)
      have ht : ∀ v ∈ t, v ∈ p := fun v hv => (g2 v hv).elim (fun h => by cases h) id
      obtain ⟨n, _, k1, k2⟩ := hash_l1_eq t [] (fun x hx => by cases hx) (fun v hv => ⟨hs v (ht v hv), hp v (ht v hv)⟩) (by rw [g1]; simp; omega)
      have e1 : row_take p c = some t := g3
      have e2 : ref05_Take p c = some t := g4
      have e3 : row_hash t = some (n : Int) := k1
      have e4 : ref05_Hash p c = some (n : Int) := by unfold ref05_Hash; rw [e2, Option.bind_some]; exact k2
      rw [ref05_Asked_eq, ha, e1]
      simp only [Option.bind_some, e2, e3, e4, bne_self_eq_false, Bool.false_eq_true, if_false, BEq.rfl, if_true, ref05_Compare_eq t t (by rw [g1]; simp; omega), (cmpRow_Cmp.eq t t).2 rfl, Bool.and_self]
    · rw [ref05_Asked_eq]
      simp [ha]
theorem rowTakes_holds (p : Row) (h : inL okDValue p) (c : List Int) : law05_RowTakes p c = some true :=
  rowTakes_true p (fun v hv => by
    obtain ⟨_, _, ⟨h1, h2⟩, _⟩ := h.2 v hv
    have e1 : IntKind.u64.min = 0 := rfl
    have e2 : IntKind.u64.max = 18446744073709551615 := rfl
    rw [e1] at h1
    rw [e2] at h2
    omega) c
end Go.Proofs.Ytchjhcgkfglgiaa
