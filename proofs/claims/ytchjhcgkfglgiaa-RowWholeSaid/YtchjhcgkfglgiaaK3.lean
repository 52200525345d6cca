/- Lists of rows, sorted, and each row once; plainly. -/
import Derived.Test.YtchjhcgkfglgiaaK2
namespace Go.Proofs.Ytchjhcgkfglgiaa
open Go

/-! ### Sorted lists over one order -/
section
variable {α : Type} {f : α → α → Int}
def ltB (f : α → α → Int) (x y : α) : Bool := decide (f x y < 0)
theorem Cmp.self (h : Cmp f) (x : α) : f x x = 0 := (h.eq x x).2 rfl
theorem Cmp.lt_iff (h : Cmp f) {x y : α} : f x y < 0 ↔ 0 < f y x := by rw [h.anti x y]; omega
def SortedL (f : α → α → Int) (l : List α) : Prop := l.Pairwise (fun a b => f a b ≤ 0)
/-- Sorted lists of the same elements are the same. -/
theorem sorted_unique (h : Cmp f) {a b : List α} (ha : SortedL f a) (hb : SortedL f b) (hp : a.Perm b) : a = b :=
  List.Perm.eq_of_pairwise (le := fun x y => f x y ≤ 0) (fun x y _ _ h1 h2 => (h.eq x y).1 (by have := h.anti x y; omega)) ha hb hp
theorem Good.of_cmp (h : Cmp f) {c : α × α → Option Int} (hc : ∀ x y, c (x, y) = some (f x y)) {l : List α} (hl : l.length ≤ 1099511627776) : Good c l := by
  have hlt : ∀ x y, ltF c x y = ltB f x y := fun x y => by unfold ltF ltB; rw [hc]
  refine ⟨hl, fun x _ y _ => by rw [hc]; rfl, fun x _ => by rw [hlt]; unfold ltB; rw [h.self]; rfl, fun x _ y _ z _ h1 h2 => ?_, fun x _ y _ h1 h2 => ?_⟩
  · rw [hlt] at *
    unfold ltB at *
    have h1' := of_decide_eq_true h1
    have h2' := of_decide_eq_true h2
    exact decide_eq_true (h.lt (by omega) (by omega) (.inl h1'))
  · rw [hlt] at *
    unfold ltB at *
    have h1' := of_decide_eq_false h1
    have h2' := of_decide_eq_false h2
    have := h.anti x y
    exact (h.eq x y).1 (by omega)
/-- A list, sorted. -/
def srt (f : α → α → Int) (l : List α) : List α := isort (ltB f) l
theorem srt_perm (f : α → α → Int) (l : List α) : (srt f l).Perm l := isort_perm _ l
theorem srt_sorted (h : Cmp f) (l : List α) (hl : l.length ≤ 1099511627776) : SortedL f (srt f l) := by
  have hg := Good.of_cmp h (c := fun p => some (f p.1 p.2)) (fun _ _ => rfl) hl
  have := isort_sorted hg l (fun y hy => hy)
  have e : ltF (fun p : α × α => some (f p.1 p.2)) = ltB f := by funext x y; rfl
  rw [e] at this
  refine this.imp fun {a b} hab => ?_
  unfold ltB at hab
  have h1 := of_decide_eq_false hab
  have := h.anti b a
  omega
theorem sortF_cmp [DecidableEq α] (h : Cmp f) {c : α × α → Option Int} (hc : ∀ x y, c (x, y) = some (f x y)) {l : List α} (hl : l.length ≤ 1099511627776) : sortF c l = some (srt f l) := by
  rw [sortF_good (Good.of_cmp h hc hl)]
  have e : ltF c = ltB f := by funext x y; unfold ltF ltB; rw [hc]
  rw [e]; rfl
/-- A row is put ahead of the first one that it stands ahead of. -/
def put (f : α → α → Int) (x : α) : List α → List α
  | [] => [x]
  | y :: l => if f x y < 0 then x :: y :: l else y :: put f x l
theorem put_perm (f : α → α → Int) (x : α) : ∀ l : List α, (put f x l).Perm (x :: l)
  | [] => .refl _
  | y :: l => by
    unfold put
    split
    · exact .refl _
    · exact ((put_perm f x l).cons y).trans (.swap ..)
theorem put_sorted (h : Cmp f) (x : α) : ∀ l : List α, SortedL f l → SortedL f (put f x l)
  | [], _ => List.pairwise_singleton _ _
  | y :: l, hl => by
    have hl' := List.pairwise_cons.1 hl
    unfold put
    split
    · rename_i hlt
      refine List.pairwise_cons.2 ⟨fun z hz => ?_, hl⟩
      rcases List.mem_cons.1 hz with rfl | hz
      · omega
      · exact h.trans x y z (by omega) (hl'.1 z hz)
    · rename_i hlt
      refine List.pairwise_cons.2 ⟨fun z hz => ?_, put_sorted h x l hl'.2⟩
      rcases List.mem_cons.1 ((put_perm f x l).mem_iff.1 hz) with rfl | hz
      · have := h.anti z y; omega
      · exact hl'.1 z hz
def putAll (f : α → α → Int) : List α → List α → List α
  | [], out => out
  | x :: l, out => putAll f l (put f x out)
theorem putAll_perm (f : α → α → Int) : ∀ l out : List α, (putAll f l out).Perm (out ++ l)
  | [], out => by simp [putAll]
  | x :: l, out => (putAll_perm f l _).trans (((put_perm f x out).append_right l).trans (by simpa using (List.perm_middle (a := x) (l₁ := out) (l₂ := l)).symm))
theorem putAll_sorted (h : Cmp f) : ∀ l out : List α, SortedL f out → SortedL f (putAll f l out)
  | [], _, ho => ho
  | x :: l, out, ho => putAll_sorted h l _ (put_sorted h x out ho)
theorem putAll_eq (h : Cmp f) (l : List α) (hl : l.length ≤ 1099511627776) : putAll f l [] = srt f l :=
  sorted_unique h (putAll_sorted h l [] List.Pairwise.nil) (srt_sorted h l hl) ((putAll_perm f l []).trans (by simpa using (srt_perm f l).symm))
theorem srt_of_perm (h : Cmp f) {a b : List α} (hp : a.Perm b) (ha : a.length ≤ 1099511627776) : srt f a = srt f b :=
  sorted_unique h (srt_sorted h a ha) (srt_sorted h b (by rw [← hp.length_eq]; exact ha)) ((srt_perm f a).trans (hp.trans (srt_perm f b).symm))
theorem srt_id (h : Cmp f) {a : List α} (hs : SortedL f a) (ha : a.length ≤ 1099511627776) : srt f a = a := sorted_unique h (srt_sorted h a ha) hs (srt_perm f a)
theorem srt_iff (h : Cmp f) {a b : List α} (ha : a.length ≤ 1099511627776) (hb : b.length ≤ 1099511627776) : srt f a = srt f b ↔ a.Perm b :=
  ⟨fun e => (srt_perm f a).symm.trans (by rw [e]; exact srt_perm f b), fun hp => srt_of_perm h hp ha⟩
theorem srt_len (f : α → α → Int) (l : List α) : (srt f l).length = l.length := (srt_perm f l).length_eq
end
/-- Each element once, of those that stand one behind the other. -/
def ddup {α : Type} [DecidableEq α] : α → List α → List α
  | _, [] => []
  | p, x :: t => if x = p then ddup x t else x :: ddup x t
theorem ddup_nil {α : Type} [DecidableEq α] (p : α) : ddup p [] = [] := by unfold ddup; rfl
theorem ddup_same {α : Type} [DecidableEq α] {p x : α} (h : x = p) (t : List α) : ddup p (x :: t) = ddup x t := by conv => lhs; unfold ddup
                                                                                                                   rw [if_pos h]
theorem ddup_ne {α : Type} [DecidableEq α] {p x : α} (h : ¬ x = p) (t : List α) : ddup p (x :: t) = x :: ddup x t := by conv => lhs; unfold ddup
                                                                                                                        rw [if_neg h]
def dedup {α : Type} [DecidableEq α] : List α → List α
  | [] => []
  | x :: t => x :: ddup x t
theorem ddup_len {α : Type} [DecidableEq α] : ∀ (p : α) (l : List α), (ddup p l).length ≤ l.length
  | _, [] => Nat.le_refl _
  | p, x :: t => by
    unfold ddup
    have := ddup_len x t
    split <;> simp <;> omega
theorem dedup_len {α : Type} [DecidableEq α] (l : List α) : (dedup l).length ≤ l.length := by
  cases l with
  | nil => exact Nat.le_refl _
  | cons x t => have := ddup_len x t; simp [dedup]; omega
theorem ddup_mem {α : Type} [DecidableEq α] : ∀ (p : α) (l : List α) (z : α), z ∈ ddup p l → z ∈ l
  | p, x :: t, z, h => by
    unfold ddup at h
    split at h
    · exact List.mem_cons_of_mem _ (ddup_mem x t z h)
    · rcases List.mem_cons.1 h with rfl | h
      · exact List.mem_cons_self ..
      · exact List.mem_cons_of_mem _ (ddup_mem x t z h)
theorem mem_ddup {α : Type} [DecidableEq α] : ∀ (p : α) (l : List α) (z : α), z ∈ l → z = p ∨ z ∈ ddup p l
  | p, x :: t, z, h => by
    unfold ddup
    by_cases hx : x = p
    · rw [if_pos hx]
      rcases List.mem_cons.1 h with rfl | h
      · exact .inl hx
      · rcases mem_ddup x t z h with h | h
        · exact .inl (h.trans hx)
        · exact .inr h
    · rw [if_neg hx]
      rcases List.mem_cons.1 h with rfl | h
      · exact .inr (List.mem_cons_self ..)
      · rcases mem_ddup x t z h with h | h
        · exact .inr (by rw [h]; exact List.mem_cons_self ..)
        · exact .inr (List.mem_cons_of_mem _ h)
theorem mem_dedup {α : Type} [DecidableEq α] (l : List α) (z : α) : z ∈ dedup l ↔ z ∈ l := by
  cases l with
  | nil => exact Iff.rfl
  | cons x t =>
    constructor
    · intro h
      rcases List.mem_cons.1 h with rfl | h
      · exact List.mem_cons_self ..
      · exact List.mem_cons_of_mem _ (ddup_mem x t z h)
    · intro h
      rcases List.mem_cons.1 h with rfl | h
      · exact List.mem_cons_self ..
      · rcases mem_ddup x t z h with rfl | h
        · exact List.mem_cons_self ..
        · exact List.mem_cons_of_mem _ h
theorem ddup_strict {α : Type} [DecidableEq α] {f : α → α → Int} (hf : Cmp f) : ∀ (p : α) (l : List α), SortedL f (p :: l) → (p :: ddup p l).Pairwise (fun a b => f a b < 0)
  | p, [], _ => List.pairwise_singleton _ _
  | p, x :: t, h => by
    have h1 := List.pairwise_cons.1 h
    unfold ddup
    by_cases hx : x = p
    · rw [if_pos hx]
      subst hx
      exact ddup_strict hf x t h1.2
    · rw [if_neg hx]
      have h2 := ddup_strict hf x t h1.2
      have hlt : f p x < 0 := by
        have := h1.1 x (List.mem_cons_self ..)
        rcases Int.lt_or_eq_of_le this with h | h
        · exact h
        · exact absurd ((hf.eq p x).1 h).symm hx
      refine List.pairwise_cons.2 ⟨fun z hz => ?_, h2⟩
      rcases List.mem_cons.1 hz with rfl | hz
      · exact hlt
      · exact hf.lt (by omega) (by have := (List.pairwise_cons.1 h2).1 z hz; omega) (.inl hlt)
theorem dedup_strict {α : Type} [DecidableEq α] {f : α → α → Int} (hf : Cmp f) {l : List α} (h : SortedL f l) : (dedup l).Pairwise (fun a b => f a b < 0) := by
  cases l with
  | nil => exact List.Pairwise.nil
  | cons x t => exact ddup_strict hf x t h
end Go.Proofs.Ytchjhcgkfglgiaa
