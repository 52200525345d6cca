/- How rows stand to one another is one order; plainly. -/
import Derived.Test.YtchjhcgkfglgiaaK1
namespace Go.Proofs.Ytchjhcgkfglgiaa
open Go

structure Cmp {α : Type} (f : α → α → Int) : Prop where
  rng : ∀ x y, f x y = -1 ∨ f x y = 0 ∨ f x y = 1
  anti : ∀ x y, f y x = - f x y
  eq : ∀ x y, f x y = 0 ↔ x = y
  trans : ∀ x y z, f x y ≤ 0 → f y z ≤ 0 → f x z ≤ 0
theorem Cmp.lt {α : Type} {f : α → α → Int} (h : Cmp f) {x y z : α} (h1 : f x y ≤ 0) (h2 : f y z ≤ 0) (h3 : f x y < 0 ∨ f y z < 0) : f x z < 0 := by
  have h4 := h.trans x y z h1 h2
  rcases h.rng x z with h5 | h5 | h5
  · omega
  · have e := (h.eq x z).1 h5
    subst e
    have := h.anti x y
    omega
  · omega
def cmb (c d : Int) : Int := if c != 0 then c else d
theorem Cmp.lex {α β : Type} {f : α → α → Int} {g : β → β → Int} (hf : Cmp f) (hg : Cmp g) : Cmp (fun (p q : α × β) => cmb (f p.1 q.1) (g p.2 q.2)) where
  rng := fun x y => by
    unfold cmb
    split
    · exact hf.rng _ _
    · exact hg.rng _ _
  anti := fun x y => by
    have h1 := hf.anti x.1 y.1
    have h2 := hg.anti x.2 y.2
    unfold cmb
    by_cases h : f x.1 y.1 = 0
    · have : f y.1 x.1 = 0 := by omega
      simp [h, this, h2]
    · have : f y.1 x.1 ≠ 0 := by omega
      simp [h, h1]
  eq := fun x y => by
    unfold cmb
    by_cases h : f x.1 y.1 = 0
    · have e := (hf.eq _ _).1 h
      simp only [h, bne_self_eq_false, Bool.false_eq_true, if_false]
      rw [hg.eq]
      exact ⟨fun h2 => Prod.ext e h2, fun h2 => by rw [h2]⟩
    · simp only [bne_iff_ne, ne_eq, h, not_false_eq_true, if_true, false_iff]
      intro e
      exact h ((hf.eq _ _).2 (by rw [e]))
  trans := fun x y z => by
    unfold cmb
    by_cases h1 : f x.1 y.1 = 0
    · have e := (hf.eq _ _).1 h1
      simp only [h1, bne_self_eq_false, Bool.false_eq_true, if_false]
      rw [← e]
      by_cases h2 : f x.1 z.1 = 0
      · simp only [h2, bne_self_eq_false, Bool.false_eq_true, if_false]
        exact hg.trans _ _ _
      · simp only [bne_iff_ne, ne_eq, h2, not_false_eq_true, if_true]
        exact fun _ h => h
    · simp only [bne_iff_ne, ne_eq, h1, not_false_eq_true, if_true]
      by_cases h2 : f y.1 z.1 = 0
      · have e := (hf.eq _ _).1 h2
        have h5 : f x.1 z.1 ≠ 0 := by rw [← e]; exact h1
        simp only [h5, not_false_eq_true, if_true]
        intro h _
        rw [← e]; exact h
      · simp only [h2, not_false_eq_true, if_true]
        intro h3 h4
        have := hf.lt h3 h4 (by omega)
        simp only [show f x.1 z.1 ≠ 0 from by omega, not_false_eq_true, if_true]
        omega
def cmpI (p y : Int) : Int := if p < y then -1 else if y < p then 1 else 0
theorem cmpI_cmp : Cmp cmpI where
  rng := fun x y => by
    unfold cmpI
    repeat' split
    all_goals omega
  anti := fun x y => by unfold cmpI; repeat' split; all_goals omega
  eq := fun x y => by
    unfold cmpI
    constructor
    · intro h; repeat' split at h
      all_goals omega
    · intro h; subst h; simp
  trans := fun x y z => by
    unfold cmpI
    repeat' split
    all_goals omega
theorem bytesLess_tri : ∀ a b : Str, Op.bytesLess a b = false → Op.bytesLess b a = false → a = b
  | [], [], _, _ => rfl
  | [], _ :: _, h, _ => by simp [Op.bytesLess] at h
  | _ :: _, [], _, h => by simp [Op.bytesLess] at h
  | x :: a, y :: b, h, k => by
    simp only [Op.bytesLess, Bool.or_eq_false_iff, decide_eq_false_iff_not, Bool.and_eq_false_imp, beq_iff_eq] at h k
    have e : x = y := by
      have h1 := h.1
      have h2 := k.1
      exact UInt8.le_antisymm (UInt8.not_lt.1 h2) (UInt8.not_lt.1 h1)
    subst e
    rw [bytesLess_tri a b (h.2 rfl) (k.2 rfl)]
theorem bytesLess_trans : ∀ a b c : Str, Op.bytesLess a b = true → Op.bytesLess b c = true → Op.bytesLess a c = true
  | _, [], _, h, _ => by cases ‹List UInt8› <;> simp [Op.bytesLess] at h
  | _, _ :: _, [], _, h => by simp [Op.bytesLess] at h
  | [], _ :: _, _ :: _, _, _ => rfl
  | x :: a, y :: b, z :: c, h, k => by
    simp only [Op.bytesLess, Bool.or_eq_true, decide_eq_true_eq, Bool.and_eq_true, beq_iff_eq] at h k ⊢
    rcases h with h | ⟨h1, h2⟩
    · rcases k with k | ⟨k1, _⟩
      · exact .inl (UInt8.lt_trans h k)
      · subst k1; exact .inl h
    · subst h1
      rcases k with k | ⟨k1, k2⟩
      · exact .inl k
      · exact .inr ⟨k1, bytesLess_trans a b c h2 k2⟩
def cmpS (p y : Str) : Int := if Op.bytesLess p y then -1 else if p = y then 0 else 1
theorem bytesLess_asym {a b : Str} (h : Op.bytesLess a b = true) : Op.bytesLess b a = false := by
  cases k : Op.bytesLess b a with
  | false => rfl
  | true => have := bytesLess_trans a b a h k; rw [bytesLess_irr] at this; cases this
theorem cmpS_cmp : Cmp cmpS where
  rng := fun x y => by
    unfold cmpS
    split
    · exact .inl rfl
    split
    · exact .inr (.inl rfl)
    · exact .inr (.inr rfl)
  anti := fun x y => by
    unfold cmpS
    cases h : Op.bytesLess x y with
    | true =>
      have h2 := bytesLess_asym h
      have : y ≠ x := fun e => by rw [e, bytesLess_irr] at h; cases h
      simp [h2, this]
    | false =>
      cases k : Op.bytesLess y x with
      | true =>
        have : x ≠ y := fun e => by rw [e, bytesLess_irr] at k; cases k
        simp [this]
      | false => have := bytesLess_tri x y h k; simp [this]
  eq := fun x y => by
    unfold cmpS
    constructor
    · intro h; repeat' split at h
      all_goals simp_all
    · intro h; subst h; simp [bytesLess_irr]
  trans := fun x y z => by
    unfold cmpS
    intro h1 h2
    cases hxy : Op.bytesLess x y with
    | true =>
      cases hyz : Op.bytesLess y z with
      | true => simp [bytesLess_trans x y z hxy hyz]
      | false =>
        rw [hyz] at h2
        by_cases e : y = z
        · subst e; simp [hxy]
        · simp [e] at h2
    | false =>
      rw [hxy] at h1
      by_cases e : x = y
      · subst e; exact h2
      · simp [e] at h1
def key (v : DValue) : Int × Int × Int × Str := (v.Kind, v.N, v.U, v.S)
theorem orL4 (a b c d : Int) : orL [a, b, c, d] = cmb a (cmb b (cmb c d)) := by
  simp only [orL, cmb]
  by_cases h : d = 0
  · simp [h]
  · simp [h]
theorem val_cmp4 (x y : DValue) : val x y = cmb (cmpI x.Kind y.Kind) (cmb (cmpI x.N y.N) (cmb (cmpI x.U y.U) (cmpS x.S y.S))) := by
  have h := row_values_eq x y
  unfold row_values at h
  rw [cmpI_eq, cmpI64_eq, cmpU64_eq, cmpS_eq] at h
  simp only [Option.bind_some] at h
  rw [cmp_Or_eq] at h
  simp only [Option.bind_some, Option.some.injEq] at h
  rw [← h, orL4]
  rfl
theorem val_Cmp : Cmp val where
  rng := fun x y => by rw [val_cmp4]; exact (cmpI_cmp.lex (cmpI_cmp.lex (cmpI_cmp.lex cmpS_cmp))).rng (key x) (key y)
  anti := fun x y => by rw [val_cmp4, val_cmp4]; exact (cmpI_cmp.lex (cmpI_cmp.lex (cmpI_cmp.lex cmpS_cmp))).anti (key x) (key y)
  eq := fun x y => by
    rw [val_cmp4]
    refine ((cmpI_cmp.lex (cmpI_cmp.lex (cmpI_cmp.lex cmpS_cmp))).eq (key x) (key y)).trans ⟨fun h => ?_, fun h => by rw [h]⟩
    cases x; cases y
    simp only [key, Prod.mk.injEq] at h
    simp [h]
  trans := fun x y z => by rw [val_cmp4, val_cmp4, val_cmp4]; exact (cmpI_cmp.lex (cmpI_cmp.lex (cmpI_cmp.lex cmpS_cmp))).trans (key x) (key y) (key z)
theorem cmpRow_Cmp : Cmp cmpRow where
  rng := by
    intro x
    induction x with
    | nil => intro y; cases y <;> simp [cmpRow]
    | cons a x ih =>
      intro y
      cases y with
      | nil => simp [cmpRow]
      | cons b y =>
        simp only [cmpRow]
        split
        · exact val_Cmp.rng a b
        · exact ih y
  anti := by
    intro x
    induction x with
    | nil => intro y; cases y <;> simp [cmpRow]
    | cons a x ih =>
      intro y
      cases y with
      | nil => simp [cmpRow]
      | cons b y =>
        simp only [cmpRow]
        have h := val_Cmp.anti a b
        by_cases h1 : val a b = 0
        · have h2 : val b a = 0 := by omega
          simp [h1, h2, ih y]
        · have h2 : val b a ≠ 0 := by omega
          simp [h1, h]
  eq := by
    intro x
    induction x with
    | nil => intro y; cases y <;> simp [cmpRow]
    | cons a x ih =>
      intro y
      cases y with
      | nil => simp [cmpRow]
      | cons b y =>
        simp only [cmpRow]
        by_cases h1 : val a b = 0
        · have e := (val_Cmp.eq a b).1 h1
          subst e
          simp [h1, ih y]
        · have e : a ≠ b := fun e => h1 ((val_Cmp.eq a b).2 e)
          simp [h1, e]
  trans := by
    intro x
    induction x with
    | nil => intro y z; cases y <;> cases z <;> simp [cmpRow]
    | cons a x ih =>
      intro y z
      cases y with
      | nil => simp [cmpRow]
      | cons b y =>
        cases z with
        | nil => simp [cmpRow]
        | cons c z =>
          simp only [cmpRow]
          by_cases h1 : val a b = 0
          · have e := (val_Cmp.eq a b).1 h1
            subst e
            by_cases h2 : val a c = 0
            · simp [h1, h2]; exact ih y z
            · simp [h1, h2]
          · by_cases h2 : val b c = 0
            · have e := (val_Cmp.eq b c).1 h2
              subst e
              simp only [h1, h2, bne_iff_ne, ne_eq, not_false_eq_true, if_true]
              simp only [not_true_eq_false, if_false]
              exact fun h _ => h
            · simp only [h1, h2, bne_iff_ne, ne_eq, not_false_eq_true, if_true]
              intro h3 h4
              have := val_Cmp.lt h3 h4 (by omega)
              rw [if_pos (by omega)]
              omega
theorem cmpRow_take : ∀ (a : Row) (k : Nat), k < a.length → cmpRow (a.take k) a = -1
  | [], k, h => by simp at h
  | x :: a, 0, _ => rfl
  | x :: a, k + 1, h => by
    have := (val_Cmp.eq x x).2 rfl
    simp only [List.take_succ_cons, cmpRow, this]
    exact cmpRow_take a k (by simpa using h)
end Go.Proofs.Ytchjhcgkfglgiaa
