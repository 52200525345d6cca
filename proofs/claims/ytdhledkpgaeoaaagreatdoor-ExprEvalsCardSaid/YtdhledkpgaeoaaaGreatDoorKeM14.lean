/- Facts of this claim: M14. -/
import Derived.Test.YtdhledkpgaeoaaaGreatDoorKeM13
namespace Go.Proofs.YtdhledkpgaeoaaaGreatDoor
open Go

theorem idxS_drop {s : Str} {i : Nat} {x : UInt8} {xs : List UInt8} (h : s.drop i = x :: xs) : idxS s (i : Int) = some (x.toNat : Int) := by
  unfold idxS
  rw [idx_nat]
  have : s[i]? = some x := by
    have h2 : (s.drop i)[0]? = some x := by rw [h]; rfl
    rw [List.getElem?_drop] at h2
    exact h2
  rw [this]; rfl
theorem drop_next {α : Type} {s : List α} {i : Nat} {x : α} {xs : List α} (h : s.drop i = x :: xs) : s.drop (i + 1) = xs := by
  rw [← List.drop_drop, h]; rfl
theorem cmp_l1 (a b : DValue) : ∀ (xs ys : List UInt8) (i n : Nat), a.S.drop i = xs → b.S.drop i = ys → a.S.length = i + xs.length → b.S.length = i + ys.length → xs.length < n → a.S.length ≤ 100000 → ref02_Compare_l1 a b n (i : Int) = some (Lib.compareBytes xs ys) := by
  intro xs
  induction xs with
  | nil =>
    intro ys i n h1 h2 l1 l2 hn _
    obtain ⟨m, rfl⟩ : ∃ m, n = m + 1 := ⟨n - 1, by simp at hn; omega⟩
    simp only [List.length_nil, Nat.add_zero] at l1
    unfold ref02_Compare_l1
    have e1 : decide ((i : Int) < (a.S.length : Int)) = false := by simp; omega
    rw [e1, Bool.false_and, if_neg (by decide)]
    cases ys with
    | nil =>
      simp only [List.length_nil, Nat.add_zero] at l2
      rw [if_neg (by simp; omega)]; rfl
    | cons y ys =>
      simp only [List.length_cons] at l2
      rw [if_pos (by simp; omega), if_pos (by simp; omega)]; rfl
  | cons x xs ih =>
    intro ys i n h1 h2 l1 l2 hn hl
    obtain ⟨m, rfl⟩ : ∃ m, n = m + 1 := ⟨n - 1, by simp at hn; omega⟩
    simp only [List.length_cons] at l1 hn
    unfold ref02_Compare_l1
    have e1 : decide ((i : Int) < (a.S.length : Int)) = true := by simp; omega
    rw [e1, Bool.true_and]
    cases ys with
    | nil =>
      simp only [List.length_nil, Nat.add_zero] at l2
      rw [if_neg (by simp; omega), if_pos (by simp; omega), if_neg (by simp; omega)]; rfl
    | cons y ys =>
      simp only [List.length_cons] at l2
      rw [if_pos (by simp; omega), idxS_drop h1, idxS_drop h2]
      simp only [Option.bind_some]
      unfold Lib.compareBytes
      by_cases h : x = y
      · subst h
        have hlt : ¬ x < x := by rw [UInt8.lt_iff_toNat_lt]; omega
        rw [if_neg (by simp), if_neg hlt, if_neg hlt, wrapI (by omega) (by omega)]
        exact ih ys (i + 1) m (drop_next h1) (drop_next h2) (by omega) (by omega) (by omega) hl
      · have hne : x.toNat ≠ y.toNat := fun hh => h (UInt8.toNat_inj.1 hh)
        rw [if_pos (by simp; omega)]
        by_cases hlt : x < y
        · have := UInt8.lt_iff_toNat_lt.1 hlt
          rw [if_pos hlt, if_pos (by simp; omega)]
        · have h3 : ¬ x.toNat < y.toNat := fun hh => hlt (UInt8.lt_iff_toNat_lt.2 hh)
          have h4 : y < x := UInt8.lt_iff_toNat_lt.2 (by omega)
          rw [if_neg hlt, if_pos h4, if_neg (by simp; omega)]
theorem Pl.short {v : DValue} (h : Pl v) : v.S.length ≤ 40 := by
  cases h with
  | z => simp [zV]
  | b b => simp [bV]
  | i n h => simp [iV]
  | s s h => exact h
def sg (x y : Int) : Int := if x < y then -1 else if y < x then 1 else 0
theorem cmp_int_eq (x y : Int) : cmp_Compare_int x y = some (sg x y) := by
  unfold cmp_Compare_int cmp_isNaN_int sg
  simp only [bne_self_eq_false, Option.bind_some, Bool.false_eq_true, if_false, decide_eq_true_eq]
  by_cases h1 : x < y
  · rw [if_pos h1, if_pos h1]
  · rw [if_neg h1, if_neg h1]
    by_cases h2 : y < x
    · rw [if_pos h2, if_pos h2]
    · rw [if_neg h2, if_neg h2]
theorem cmp_int64_eq (x y : Int) : cmp_Compare_int64 x y = some (sg x y) := by
  unfold cmp_Compare_int64 cmp_isNaN_int64 sg
  simp only [bne_self_eq_false, Option.bind_some, Bool.false_eq_true, if_false, decide_eq_true_eq]
  by_cases h1 : x < y
  · rw [if_pos h1, if_pos h1]
  · rw [if_neg h1, if_neg h1]
    by_cases h2 : y < x
    · rw [if_pos h2, if_pos h2]
    · rw [if_neg h2, if_neg h2]
theorem cmp_or3 (x y z : Int) : cmp_Or_int [x, y, z] = some (if x ≠ 0 then x else if y ≠ 0 then y else z) := by
  unfold cmp_Or_int cmp_Or_int_l1 cmp_Or_int_l1 cmp_Or_int_l1 cmp_Or_int_l1
  by_cases h1 : x = 0 <;> by_cases h2 : y = 0 <;> by_cases h3 : z = 0 <;> simp [h1, h2, h3]
theorem cmpV_is {a b : DValue} (ha : Pl a) (hb : Pl b) : cmpV a b = if sg a.Kind b.Kind ≠ 0 then sg a.Kind b.Kind else if sg a.N b.N ≠ 0 then sg a.N b.N else Lib.compareBytes a.S b.S := by
  unfold cmpV value_Compare
  rw [ha.plain_eq, hb.plain_eq, Option.bind_some, if_pos (by decide), Option.bind_some, Option.bind_some, if_neg (by decide), cmp_int_eq, cmp_int64_eq, Option.bind_some, Option.bind_some]
  have : strings_Compare a.S b.S = some (Lib.compareBytes a.S b.S) := rfl
  rw [this, Option.bind_some, cmp_or3]; rfl
theorem sg_eq (x : Int) : sg x x = 0 := by unfold sg; rw [if_neg (by omega), if_neg (by omega)]
theorem sg_ne {x y : Int} (h : x ≠ y) : sg x y = (if x < y then -1 else 1) ∧ sg x y ≠ 0 := by
  unfold sg
  by_cases h1 : x < y
  · rw [if_pos h1, if_pos h1]; exact ⟨rfl, by decide⟩
  · rw [if_neg h1, if_neg h1, if_pos (by omega)]; exact ⟨rfl, by decide⟩
theorem cmpV_k {a b : DValue} (ha : Pl a) (hb : Pl b) (h : a.Kind ≠ b.Kind) : cmpV a b = if a.Kind < b.Kind then -1 else 1 := by
  rw [cmpV_is ha hb, if_pos (sg_ne h).2, (sg_ne h).1]
theorem cmpV_n {a b : DValue} (ha : Pl a) (hb : Pl b) (h : a.Kind = b.Kind) (h2 : a.N ≠ b.N) : cmpV a b = if a.N < b.N then -1 else 1 := by
  rw [cmpV_is ha hb, h, sg_eq, if_neg (by decide), if_pos (sg_ne h2).2, (sg_ne h2).1]
theorem cmpV_s {a b : DValue} (ha : Pl a) (hb : Pl b) (h : a.Kind = b.Kind) (h2 : a.N = b.N) : cmpV a b = Lib.compareBytes a.S b.S := by
  rw [cmpV_is ha hb, h, sg_eq, if_neg (by decide), h2, sg_eq, if_neg (by decide)]
theorem ref02_Compare_eq {a b : DValue} (ha : Pl a) (hb : Pl b) : ref02_Compare a b = some (cmpV a b) := by
  unfold ref02_Compare
  rw [ref02_Plain_eq, ref02_Plain_eq, ha.plain, hb.plain, Option.bind_some, if_pos (by decide), Option.bind_some, Option.bind_some, if_neg (by decide)]
  by_cases h1 : a.Kind = b.Kind
  · rw [if_neg (by simpa using h1)]
    by_cases h2 : a.N = b.N
    · rw [if_neg (by simpa using h2), cmpV_s ha hb h1 h2]
      have h4 := ha.short
      have h5 := fuel_ge (n := 41) (by omega)
      exact cmp_l1 a b a.S b.S 0 FUEL rfl rfl (by omega) (by omega) (by omega) (by omega)
    · rw [if_pos (by simpa using h2), cmpV_n ha hb h1 h2]
      by_cases h3 : a.N < b.N
      · rw [if_pos h3, if_pos (by simpa using h3)]
      · rw [if_neg h3, if_neg (by simpa using h3)]
  · rw [if_pos (by simpa using h1), cmpV_k ha hb h1]
    by_cases h3 : a.Kind < b.Kind
    · rw [if_pos h3, if_pos (by simpa using h3)]
    · rw [if_neg h3, if_neg (by simpa using h3)]
theorem ref02_Bool_eq (b : Bool) : ref02_Bool b = some (bV b) := by cases b <;> rfl
theorem both_eq {a b : DValue} (ha : Pl a) (hb : Pl b) : ref02_both a b = some (if a.Kind ≠ 0 ∧ b.Kind ≠ 0 ∧ a.Kind ≠ b.Kind then 2 else 0) := by
  unfold ref02_both
  rw [ref02_Right_eq, ref02_Right_eq, ha.right, hb.right, Option.bind_some, if_pos (by decide), Option.bind_some, Option.bind_some, if_neg (by decide)]
  rw [ref02_Plain_eq, ref02_Plain_eq, ha.plain, hb.plain, Option.bind_some, if_pos (by decide), Option.bind_some, Option.bind_some]
  by_cases h : a.Kind ≠ 0 ∧ b.Kind ≠ 0 ∧ a.Kind ≠ b.Kind
  · rw [if_pos h, if_pos (by simp [h])]
  · rw [if_neg h, if_neg (by simp; intro h1 h2; exact Classical.byContradiction fun h3 => h ⟨h1, h2, h3⟩)]
theorem ref_held {a b : DValue} (ha : Pl a) (hb : Pl b) (f : Int → Bool) : ((ref02_both a b).bind fun r => if (((r != (0 : Int)) || (a.Kind == (0 : Int))) || (b.Kind == (0 : Int))) = true then some ((⟨(0 : Int), (0 : Int), (0 : Int), []⟩ : DValue), r) else (ref02_Compare a b).bind fun r1 => (ref02_Bool (f r1)).bind fun r2 => some (r2, (0 : Int))) = some (heldV f a b) := by
  rw [both_eq ha hb, Option.bind_some]
  by_cases h0 : a.Kind = 0 ∨ b.Kind = 0
  · have hne : ¬ (a.Kind ≠ 0 ∧ b.Kind ≠ 0 ∧ a.Kind ≠ b.Kind) := fun h => h0.elim h.1 h.2.1
    have e : heldV f a b = (zV, 0) := if_pos h0
    rw [if_neg hne, e, if_pos (by rcases h0 with h | h <;> simp [h])]; rfl
  · have h1 : a.Kind ≠ 0 := fun h => h0 (.inl h)
    have h2 : b.Kind ≠ 0 := fun h => h0 (.inr h)
    by_cases h3 : a.Kind = b.Kind
    · have hne : ¬ (a.Kind ≠ 0 ∧ b.Kind ≠ 0 ∧ a.Kind ≠ b.Kind) := fun h => h.2.2 h3
      have e : heldV f a b = (bV (f (cmpV a b)), 0) := by unfold heldV; rw [if_neg h0, if_pos h3]
      rw [if_neg hne, e, if_neg (by simp [h1, h2]), ref02_Compare_eq ha hb, Option.bind_some, ref02_Bool_eq]; rfl
    · have hp : a.Kind ≠ 0 ∧ b.Kind ≠ 0 ∧ a.Kind ≠ b.Kind := ⟨h1, h2, h3⟩
      have e : heldV f a b = (zV, 2) := by unfold heldV; rw [if_neg h0, if_neg h3]
      rw [if_pos hp, e, if_pos (by simp)]; rfl
theorem ref02_Equal_eq {a b : DValue} (ha : Pl a) (hb : Pl b) : ref02_Equal a b = some (heldV (fun c => c == 0) a b) := ref_held ha hb _
theorem ref02_Less_eq {a b : DValue} (ha : Pl a) (hb : Pl b) : ref02_Less a b = some (heldV (fun c => decide (c < 0)) a b) := ref_held ha hb _
theorem truths_eq {a b : DValue} (ha : Pl a) (hb : Pl b) : ref02_truths a b = some (if a.Kind ≤ 1 ∧ b.Kind ≤ 1 then 0 else 2) := by
  unfold ref02_truths
  rw [ref02_Right_eq, ref02_Right_eq, ha.right, hb.right, Option.bind_some, if_pos (by decide), Option.bind_some, Option.bind_some, if_neg (by decide)]
  by_cases h : a.Kind ≤ 1 ∧ b.Kind ≤ 1
  · rw [if_pos h, if_neg (by simp; omega)]
  · rw [if_neg h, if_pos (by simp; omega)]
theorem ref02_Not_tu {a : DValue} (h : Tu a) : ref02_Not a = some (notV a, 0) := by
  cases h with
  | z => rfl
  | b b => cases b <;> rfl
theorem ref02_And_tu {a b : DValue} (ha : Tu a) (hb : Tu b) : ref02_And a b = some (andV a b, 0) := by
  cases ha with
  | z => cases hb with
    | z => rfl
    | b b => cases b <;> rfl
  | b x => cases hb with
    | z => cases x <;> rfl
    | b b => cases x <;> cases b <;> rfl
theorem ref02_Or_tu {a b : DValue} (ha : Tu a) (hb : Tu b) : ref02_Or a b = some (orV a b, 0) := by
  cases ha with
  | z => cases hb with
    | z => rfl
    | b b => cases b <;> rfl
  | b x => cases hb with
    | z => cases x <;> rfl
    | b b => cases x <;> cases b <;> rfl
theorem ref02_Not_eq {a : DValue} (ha : Pl a) : ref02_Not a = some (if a.Kind ≤ 1 then (notV a, 0) else (zV, 2)) := by
  by_cases h : a.Kind ≤ 1
  · rw [if_pos h]; exact ref02_Not_tu ((tu_iff ha).2 h)
  · rw [if_neg h]
    unfold ref02_Not
    rw [truths_eq ha ha, if_neg (fun k => h k.1)]; rfl
theorem ref02_And_eq {a b : DValue} (ha : Pl a) (hb : Pl b) : ref02_And a b = some (if a.Kind ≤ 1 ∧ b.Kind ≤ 1 then (andV a b, 0) else (zV, 2)) := by
  by_cases h : a.Kind ≤ 1 ∧ b.Kind ≤ 1
  · rw [if_pos h]; exact ref02_And_tu ((tu_iff ha).2 h.1) ((tu_iff hb).2 h.2)
  · rw [if_neg h]
    unfold ref02_And
    rw [truths_eq ha hb, if_neg h]; rfl
theorem ref02_Or_eq {a b : DValue} (ha : Pl a) (hb : Pl b) : ref02_Or a b = some (if a.Kind ≤ 1 ∧ b.Kind ≤ 1 then (orV a b, 0) else (zV, 2)) := by
  by_cases h : a.Kind ≤ 1 ∧ b.Kind ≤ 1
  · rw [if_pos h]; exact ref02_Or_tu ((tu_iff ha).2 h.1) ((tu_iff hb).2 h.2)
  · rw [if_neg h]
    unfold ref02_Or
    rw [truths_eq ha hb, if_neg h]; rfl
theorem not_bind {f : Int → Bool} {x y : DValue} : ((ref02_Not (heldV f x y).1).bind fun r => some (r.1, (heldV f x y).2)) = some (noV (heldV f x y)) := by
  unfold noV
  by_cases h0 : (heldV f x y).2 = 0
  · rw [if_pos h0, ref02_Not_tu (heldV_tu f x y h0), Option.bind_some, h0]
  · rw [if_neg h0, heldV_err f x y h0]; rfl
theorem ref10_does_eq {tag : Int} {k : Nat} (h : pk tag = some k) (hk : k ≠ 0) {a b : DValue} (ha : Pl a) (hb : Pl b) : ref10_does tag a b = some (raw tag a b) := by
  have op : ∀ t, t = 12 ∨ t = 13 ∨ t = 14 ∨ t = 15 → ref04_Do (opOf t) a b = some (arV t a b) := fun t ht => Do_eq ht ha hb
  rcases pk12 h hk with rfl | rfl | rfl | rfl | rfl | rfl | rfl | rfl | rfl | rfl | rfl | rfl | rfl | rfl | rfl | rfl
  · have h2 : ref04_Do 45 (iV 0) a = some (arV 13 (iV 0) a) := Do_eq (tag := 13) (.inr (.inl rfl)) (.i 0 ⟨by decide, by decide⟩) ha
    show (ref04_Do 45 (iV 0) a).bind _ = _
    rw [h2]; rfl
  · show (ref02_Not a).bind _ = some (if a.Kind ≤ 1 then (notV a, 0) else (zV, 2))
    rw [ref02_Not_eq ha]; rfl
  · show (ref02_Bool (a.Kind == 0)).bind _ = some (bV (a.Kind == 0), 0)
    rw [ref02_Bool_eq]; rfl
  · show (ref02_Bool (a.Kind != 0)).bind _ = some (bV (a.Kind != 0), 0)
    rw [ref02_Bool_eq]; rfl
  · show (ref04_Do 43 a b).bind _ = some (arV 12 a b)
    rw [show ref04_Do 43 a b = some (arV 12 a b) from op 12 (.inl rfl)]; rfl
  · show (ref04_Do 45 a b).bind _ = some (arV 13 a b)
    rw [show ref04_Do 45 a b = some (arV 13 a b) from op 13 (.inr (.inl rfl))]; rfl
  · show (ref04_Do 42 a b).bind _ = some (arV 14 a b)
    rw [show ref04_Do 42 a b = some (arV 14 a b) from op 14 (.inr (.inr (.inl rfl)))]; rfl
  · show (ref04_Do 47 a b).bind _ = some (arV 15 a b)
    rw [show ref04_Do 47 a b = some (arV 15 a b) from op 15 (.inr (.inr (.inr rfl)))]; rfl
  · show ((ref02_Equal a b).bind fun r => some (r.1, r.2)).bind _ = some (heldV (fun c => c == 0) a b)
    rw [ref02_Equal_eq ha hb]; rfl
  · show ((ref02_Equal a b).bind fun r => (ref02_Not r.1).bind fun r4 => some (r4.1, r.2)).bind _ = some (noV (heldV (fun c => c == 0) a b))
    rw [ref02_Equal_eq ha hb, Option.bind_some, not_bind]; rfl
  · show ((ref02_Less a b).bind fun r => some (r.1, r.2)).bind _ = some (heldV (fun c => decide (c < 0)) a b)
    rw [ref02_Less_eq ha hb]; rfl
  · show ((ref02_Less b a).bind fun r => (ref02_Not r.1).bind fun r4 => some (r4.1, r.2)).bind _ = some (noV (heldV (fun c => decide (c < 0)) b a))
    rw [ref02_Less_eq hb ha, Option.bind_some, not_bind]; rfl
  · show ((ref02_Less b a).bind fun r => some (r.1, r.2)).bind _ = some (heldV (fun c => decide (c < 0)) b a)
    rw [ref02_Less_eq hb ha]; rfl
  · show ((ref02_Less a b).bind fun r => (ref02_Not r.1).bind fun r4 => some (r4.1, r.2)).bind _ = some (noV (heldV (fun c => decide (c < 0)) a b))
    rw [ref02_Less_eq ha hb, Option.bind_some, not_bind]; rfl
  · show (ref02_And a b).bind _ = some (if a.Kind ≤ 1 ∧ b.Kind ≤ 1 then (andV a b, 0) else (zV, 2))
    rw [ref02_And_eq ha hb]; rfl
  · show (ref02_Or a b).bind _ = some (if a.Kind ≤ 1 ∧ b.Kind ≤ 1 then (orV a b, 0) else (zV, 2))
    rw [ref02_Or_eq ha hb]; rfl
end Go.Proofs.YtdhledkpgaeoaaaGreatDoor

