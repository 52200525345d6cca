/- Facts of this claim: M1. -/
import Derived.Test.YtdhledkpgaeoaaaDoorKgQ1
namespace Go.Proofs.YtdhledkpgaeoaaaDoor
open Go

def zV : DValue := ⟨0, 0, 0, []⟩
def bV (b : Bool) : DValue := ⟨1, if b then 1 else 0, 0, []⟩
def iV (n : Int) : DValue := ⟨2, n, 0, []⟩
def sV (s : Str) : DValue := ⟨3, 0, 0, s⟩
def r64 (n : Int) : Prop := -9223372036854775808 ≤ n ∧ n ≤ 9223372036854775807
inductive Pl : DValue → Prop
  | z : Pl zV
  | b (b : Bool) : Pl (bV b)
  | i (n : Int) (h : r64 n) : Pl (iV n)
  | s (s : Str) (h : s.length ≤ 40) : Pl (sV s)
theorem Pl.plain {v : DValue} (h : Pl v) : plainV v = true := by
  cases h with
  | z => rfl
  | b b => cases b <;> rfl
  | i n h => simp [plainV, rightV, ref02_Right, iV]
  | s s h => have h' : (s.length : Int) ≤ 40 := by omega
             simp [plainV, rightV, ref02_Right, sV, h']
theorem Pl.right {v : DValue} (h : Pl v) : rightV v = true := by
  have := h.plain
  unfold plainV at this
  rw [Bool.and_eq_true] at this
  exact this.1
theorem plain_pl {v : DValue} (h : plainV v = true) (hr : r64 v.N) : Pl v := by
  obtain ⟨k, n, u, s⟩ := v
  unfold plainV rightV ref02_Right at h
  simp only [Bool.and_eq_true, bne_iff_ne, ne_eq] at h
  obtain ⟨h1, h2⟩ := h
  by_cases k0 : k = 0
  · subst k0
    simp at h1
    rw [show (⟨0, n, u, s⟩ : DValue) = zV from by simp only [zV]; simp [h1]]
    exact .z
  by_cases k1 : k = 1
  · subst k1
    simp at h1
    obtain ⟨⟨rfl, rfl⟩, h1⟩ := h1
    rcases h1 with rfl | rfl
    · exact .b false
    · exact .b true
  by_cases k2 : k = 2
  · subst k2
    simp at h1
    obtain ⟨rfl, rfl⟩ := h1
    exact .i n hr
  by_cases k3 : k = 3
  · subst k3
    simp at h1
    obtain ⟨⟨rfl, rfl⟩, h1⟩ := h1
    exact .s s (by omega)
  simp [k0, k1, k2, k3, h2] at h1
theorem Pl.r64 {v : DValue} (h : Pl v) : r64 v.N := by
  cases h with
  | z => exact ⟨by decide, by decide⟩
  | b b => cases b <;> exact ⟨by decide, by decide⟩
  | i n h => exact h
  | s s h => exact ⟨by simp [sV], by simp [sV]⟩
theorem Pl.check {v : DValue} (h : Pl v) : value_Check v = some 0 := by rw [value_Check_eq, h.right]; rfl
theorem Pl.plain_eq {v : DValue} (h : Pl v) : value_Plain v = some true := by rw [value_Plain_eq, h.plain]
theorem right2 {a b : DValue} (ha : Pl a) (hb : Pl b) : value_right [a, b] = some 0 := by
  unfold value_right value_right_l1 value_right_l1 value_right_l1
  simp [ha.check, hb.check]
theorem arith_do_pl {a b : DValue} (ha : Pl a) (hb : Pl b) (to : Int → Int → Option (Int × Bool)) : arith_do a b to =
    if (a.Kind = 0 ∨ a.Kind = 2) ∧ (b.Kind = 0 ∨ b.Kind = 2) then (if a.Kind = 0 ∨ b.Kind = 0 then some (zV, 0) else (to a.N b.N).bind fun r => if r.2 then some (iV r.1, 0) else some (zV, 140)) else some (zV, 2) := by
  unfold arith_do arith_are arith_are_l1 arith_are_l1 arith_are_l1
  simp only [ha.check, hb.check, Option.bind_some]
  cases ha <;> cases hb <;> simp [zV, bV, iV, sV, value_Null, value_Int]
  congr 1
  funext r
  cases r.2 <;> rfl
inductive Tu : DValue → Prop
  | z : Tu zV
  | b (b : Bool) : Tu (bV b)
theorem Tu.pl {v : DValue} (h : Tu v) : Pl v := by cases h; exact .z; exact .b _
theorem tu_iff {v : DValue} (h : Pl v) : Tu v ↔ v.Kind ≤ 1 := by
  constructor
  · intro h; cases h <;> simp [zV, bV]
  · intro hk
    cases h with
    | z => exact .z
    | b b => exact .b b
    | i n h => simp [iV] at hk
    | s s h => simp [sV] at hk
def tn (v : DValue) : Int := if v.Kind = 0 then 1 else 2 * v.N
def tv (n : Int) : DValue := if n = 0 then bV false else if n = 1 then zV else bV true
theorem tn_3 {v : DValue} (h : Tu v) : tn v = 0 ∨ tn v = 1 ∨ tn v = 2 := by
  cases h with
  | z => exact .inr (.inl rfl)
  | b b => cases b; exact .inl rfl; exact .inr (.inr rfl)
theorem value_truth_eq {v : DValue} (h : Tu v) : value_truth v = some (tn v) := by
  cases h with
  | z => rfl
  | b b => cases b <;> rfl
theorem tu_tv {n : Int} (h : n = 0 ∨ n = 1 ∨ n = 2) : Tu (tv n) := by
  rcases h with rfl | rfl | rfl
  · exact .b false
  · exact .z
  · exact .b true
theorem not_tu {v : DValue} (h : Pl v) (hn : ¬ Tu v) : decide (1 < v.Kind) = true := by
  rw [tu_iff h] at hn; simp; omega
theorem is_tu {v : DValue} (h : Tu v) : decide (1 < v.Kind) = false := by
  have := (tu_iff h.pl).1 h; simp; omega
def andV (a b : DValue) : DValue := tv (min (tn a) (tn b))
def orV (a b : DValue) : DValue := tv (max (tn a) (tn b))
def notV (a : DValue) : DValue := tv (2 - tn a)
theorem value_And_tu {a b : DValue} (ha : Tu a) (hb : Tu b) : value_And a b = some (andV a b, 0) := by
  cases ha with
  | z => cases hb with
    | z => rfl
    | b b => cases b <;> rfl
  | b x => cases hb with
    | z => cases x <;> rfl
    | b b => cases x <;> cases b <;> rfl
theorem value_Or_tu {a b : DValue} (ha : Tu a) (hb : Tu b) : value_Or a b = some (orV a b, 0) := by
  cases ha with
  | z => cases hb with
    | z => rfl
    | b b => cases b <;> rfl
  | b x => cases hb with
    | z => cases x <;> rfl
    | b b => cases x <;> cases b <;> rfl
theorem value_Not_tu {a : DValue} (ha : Tu a) : value_Not a = some (notV a, 0) := by
  cases ha with
  | z => rfl
  | b x => cases x <;> rfl
theorem logic2_bad {a b : DValue} (ha : Pl a) (hb : Pl b) (h : ¬ (Tu a ∧ Tu b)) (to : List Int → Option Int) : value_logic to [a, b] = some (zV, 2) := by
  unfold value_logic
  rw [right2 ha hb]
  simp only [Option.bind_some]
  rw [if_neg (by decide)]
  unfold value_logic_l1
  by_cases h1 : Tu a
  · have h2 : ¬ Tu b := fun k => h ⟨h1, k⟩
    rw [is_tu h1]
    simp only [Bool.false_eq_true, if_false, value_truth_eq h1, Option.bind_some]
    rw [app_ok (by simp)]
    simp only [Option.bind_some]
    unfold value_logic_l1
    rw [not_tu hb h2, if_pos rfl]; rfl
  · rw [not_tu ha h1, if_pos rfl]; rfl
theorem value_Not_bad {a : DValue} (ha : Pl a) (h : ¬ Tu a) : value_Not a = some (zV, 2) := by
  unfold value_Not value_logic value_right value_right_l1 value_right_l1
  rw [ha.check]
  simp only [Option.bind_some]
  rw [if_neg (by decide)]
  unfold value_logic_l1
  simp only [Option.bind_some]
  rw [if_neg (by decide), not_tu ha h, if_pos rfl]; rfl
def cmpV (a b : DValue) : Int := (value_Compare a b).getD 0
theorem value_Compare_eq {a b : DValue} (ha : Pl a) (hb : Pl b) : value_Compare a b = some (cmpV a b) := by
  unfold cmpV
  have : ∃ c, value_Compare a b = some c := by
    unfold value_Compare
    rw [ha.plain_eq, hb.plain_eq]
    simp only [Option.bind_some, Bool.not_true, Bool.not_false, if_true, if_false]
    unfold cmp_Compare_int cmp_isNaN_int cmp_Compare_int64 cmp_isNaN_int64 strings_Compare internal_bytealg_CompareString
    simp only [bne_self_eq_false, Option.bind_some, Bool.false_eq_true, if_false]
    have h1 : ∀ x y : Int, ∃ c, (if decide (x < y) = true then some (-1 : Int) else if decide (y < x) = true then some 1 else some 0) = some c := by
      intro x y; repeat' split
      all_goals exact ⟨_, rfl⟩
    obtain ⟨c1, e1⟩ := h1 a.Kind b.Kind
    obtain ⟨c2, e2⟩ := h1 a.N b.N
    rw [e1, e2]
    simp only [Option.bind_some]
    unfold cmp_Or_int cmp_Or_int_l1 cmp_Or_int_l1 cmp_Or_int_l1 cmp_Or_int_l1
    repeat' split
    all_goals exact ⟨_, rfl⟩
  obtain ⟨c, h⟩ := this
  rw [h]; rfl
theorem held_eq {a b : DValue} (ha : Pl a) (hb : Pl b) {is : Int → Option Bool} {f : Int → Bool} (hf : ∀ c, is c = some (f c)) : value_held a b is =
    some (if a.Kind = 0 ∨ b.Kind = 0 then (zV, 0) else if a.Kind = b.Kind then (bV (f (cmpV a b)), 0) else (zV, 2)) := by
  unfold value_held
  rw [right2 ha hb]
  simp only [Option.bind_some, value_Compare_eq ha hb, hf, value_Null]
  have hbv : ∀ x, value_Bool x = some (bV x) := fun x => by cases x <;> rfl
  simp only [hbv, Option.bind_some]
  cases ha <;> cases hb <;> simp [zV, bV, iV, sV]
end Go.Proofs.YtdhledkpgaeoaaaDoor

