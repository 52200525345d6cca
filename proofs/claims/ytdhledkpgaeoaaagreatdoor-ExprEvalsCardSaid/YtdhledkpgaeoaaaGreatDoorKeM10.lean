/- Facts of this claim: M10. -/
import Derived.Test.YtdhledkpgaeoaaaGreatDoorKeM9
namespace Go.Proofs.YtdhledkpgaeoaaaGreatDoor
open Go

theorem msb_r64 {x : Int} (h : r64 x) : (BitVec.ofInt 64 x).msb = decide (x < 0) := by
  unfold r64 at h
  rw [BitVec.msb_eq_toInt, BitVec.toInt_ofInt]
  congr 1
  have : x.bmod (2 ^ 64) = x := by
    rw [Int.bmod_def]
    split <;> omega
  rw [this]
theorem wrap_toInt (b : BitVec 64) : IntKind.i64.wrap (b.toNat : Int) = b.toInt := by
  rw [IntKind.wrap_i64, BitVec.toInt_eq_toNat_cond]
  have := b.isLt
  first | done | omega | (split <;> omega)
theorem xor_neg {x y : Int} (hx : r64 x) (hy : r64 y) : (decide (bitsOp .xor .i64 x y < 0)) = (decide (x < 0) != decide (y < 0)) ∧ r64 (bitsOp .xor .i64 x y) := by
  refine ⟨?_, r64_wrap _⟩
  have e : bitsOp .xor .i64 x y = (BitVec.ofInt 64 x ^^^ BitVec.ofInt 64 y).toInt := wrap_toInt _
  rw [e, ← BitVec.msb_eq_toInt, BitVec.msb_xor, msb_r64 hx, msb_r64 hy]
theorem and_neg {x y : Int} (hx : r64 x) (hy : r64 y) : (decide (bitsOp .and .i64 x y < 0)) = (decide (x < 0) && decide (y < 0)) := by
  have e : bitsOp .and .i64 x y = (BitVec.ofInt 64 x &&& BitVec.ofInt 64 y).toInt := wrap_toInt _
  rw [e, ← BitVec.msb_eq_toInt, BitVec.msb_and, msb_r64 hx, msb_r64 hy]
theorem dec_not_lt (z : Int) : decide (0 ≤ z) = !decide (z < 0) := by
  by_cases h : z < 0
  · have : ¬ 0 ≤ z := by omega
    simp [h, this]
  · have : 0 ≤ z := by omega
    simp [h, this]
instance (z : Int) : Decidable (r64 z) := by unfold r64; infer_instance
theorem add_eq {x y : Int} (hx : r64 x) (hy : r64 y) : arP 12 x y = (IntKind.i64.wrap (x + y), decide (r64 (x + y))) := by
  have hc := r64_wrap (x + y)
  show (IntKind.i64.wrap (x + y), _) = _
  congr 1
  show decide ((0 : Int) ≤ _) = _
  obtain ⟨h1, h2⟩ := xor_neg hx hc
  obtain ⟨h3, h4⟩ := xor_neg hy hc
  rw [dec_not_lt, and_neg h2 h4, h1, h3]
  have hcw := IntKind.wrap_i64 (x + y)
  unfold r64 at hx hy hc ⊢
  generalize IntKind.i64.wrap (x + y) = c at hc hcw ⊢
  by_cases hr : -9223372036854775808 ≤ x + y ∧ x + y ≤ 9223372036854775807
  · rw [decide_eq_true hr]
    by_cases p1 : x < 0 <;> by_cases p2 : y < 0 <;> by_cases p3 : c < 0 <;> simp only [p1, p2, p3, decide_true, decide_false] <;> first | rfl | (exfalso; omega)
  · rw [decide_eq_false hr]
    by_cases p1 : x < 0 <;> by_cases p2 : y < 0 <;> by_cases p3 : c < 0 <;> simp only [p1, p2, p3, decide_true, decide_false] <;> first | rfl | (exfalso; omega)
theorem sub_eq {x y : Int} (hx : r64 x) (hy : r64 y) : arP 13 x y = (IntKind.i64.wrap (x - y), decide (r64 (x - y))) := by
  have hc := r64_wrap (x - y)
  show (IntKind.i64.wrap (x - y), _) = _
  congr 1
  show decide ((0 : Int) ≤ _) = _
  obtain ⟨h1, h2⟩ := xor_neg hx hy
  obtain ⟨h3, h4⟩ := xor_neg hx hc
  rw [dec_not_lt, and_neg h2 h4, h1, h3]
  have hcw := IntKind.wrap_i64 (x - y)
  unfold r64 at hx hy hc ⊢
  generalize IntKind.i64.wrap (x - y) = c at hc hcw ⊢
  by_cases hr : -9223372036854775808 ≤ x - y ∧ x - y ≤ 9223372036854775807
  · rw [decide_eq_true hr]
    by_cases p1 : x < 0 <;> by_cases p2 : y < 0 <;> by_cases p3 : c < 0 <;> simp only [p1, p2, p3, decide_true, decide_false] <;> first | rfl | (exfalso; omega)
  · rw [decide_eq_false hr]
    by_cases p1 : x < 0 <;> by_cases p2 : y < 0 <;> by_cases p3 : c < 0 <;> simp only [p1, p2, p3, decide_true, decide_false] <;> first | rfl | (exfalso; omega)
theorem and_mask {y : Nat} (h : y < 18446744073709551616) : bitsOp .and .u64 (y : Int) 4294967295 = ((y % 4294967296 : Nat) : Int) := by
  have e : bitsOp .and .u64 (y : Int) 4294967295 = IntKind.u64.wrap (((BitVec.ofInt 64 (y : Int) &&& BitVec.ofInt 64 4294967295).toNat : Nat) : Int) := rfl
  have e1 : BitVec.ofInt 64 (y : Int) = BitVec.ofNat 64 y := BitVec.ofInt_natCast 64 y
  have e2 : BitVec.ofInt 64 4294967295 = BitVec.ofNat 64 (2 ^ 32 - 1) := by decide
  rw [e, e1, e2, BitVec.toNat_and, BitVec.toNat_ofNat, BitVec.toNat_ofNat, Nat.mod_eq_of_lt (by omega : y < 2 ^ 64), Nat.mod_eq_of_lt (by omega : 2 ^ 32 - 1 < 2 ^ 64), Nat.and_two_pow_sub_one_eq_mod, wrapU (by omega) (by omega)]
theorem shr32 (y : Nat) : ((y : Int)).fdiv (2 ^ (min (Int.toNat (32 : Int)) IntKind.u64.bits)) = ((y / 4294967296 : Nat) : Int) := by
  have e : (2 : Int) ^ (min (Int.toNat (32 : Int)) IntKind.u64.bits) = 4294967296 := by decide
  rw [e, Int.fdiv_eq_ediv_of_nonneg _ (by decide)]
  rfl
theorem wrapN {n : Nat} (h : n < 18446744073709551616) : IntKind.u64.wrap (n : Int) = (n : Int) := wrapU (by omega) (by omega)
theorem mul64_eq (x y : Nat) (hx : x < 18446744073709551616) (hy : y < 18446744073709551616) : math_bits_Mul64 (x : Int) (y : Int) = some (((x * y / 18446744073709551616 : Nat) : Int), ((x * y % 18446744073709551616 : Nat) : Int)) := by
  unfold math_bits_Mul64
  have hx0 : x % 4294967296 < 4294967296 := Nat.mod_lt _ (by decide)
  have hy0 : y % 4294967296 < 4294967296 := Nat.mod_lt _ (by decide)
  have hx1 : x / 4294967296 < 4294967296 := by omega
  have hy1 : y / 4294967296 < 4294967296 := by omega
  have ex : x = x / 4294967296 * 4294967296 + x % 4294967296 := by omega
  have ey : y = y / 4294967296 * 4294967296 + y % 4294967296 := by omega
  rw [and_mask hx, and_mask hy, shr32, shr32]
  generalize x / 4294967296 = x1 at *
  generalize x % 4294967296 = x0 at *
  generalize y / 4294967296 = y1 at *
  generalize y % 4294967296 = y0 at *
  have b00 : x0 * y0 ≤ 4294967295 * 4294967295 := Nat.mul_le_mul (by omega) (by omega)
  have b10 : x1 * y0 ≤ 4294967295 * 4294967295 := Nat.mul_le_mul (by omega) (by omega)
  have b01 : x0 * y1 ≤ 4294967295 * 4294967295 := Nat.mul_le_mul (by omega) (by omega)
  have b11 : x1 * y1 ≤ 4294967295 * 4294967295 := Nat.mul_le_mul (by omega) (by omega)
  have exy : x * y = x1 * y1 * 18446744073709551616 + (x1 * y0 + x0 * y1) * 4294967296 + x0 * y0 := by
    rw [ex, ey]
    simp only [Nat.add_mul, Nat.mul_add]
    have h1 : x1 * 4294967296 * (y1 * 4294967296) = x1 * y1 * 18446744073709551616 := by
      rw [Nat.mul_mul_mul_comm]
    have h2 : x1 * 4294967296 * y0 = x1 * y0 * 4294967296 := by rw [Nat.mul_right_comm]
    have h3 : x0 * (y1 * 4294967296) = x0 * y1 * 4294967296 := by rw [Nat.mul_assoc]
    rw [h1, h2, h3]; omega
  rw [← Int.natCast_mul x1 y1, ← Int.natCast_mul x1 y0, ← Int.natCast_mul x0 y0, ← Int.natCast_mul x0 y1, ← Int.natCast_mul x y]
  rw [exy]
  generalize x0 * y0 = p at *
  generalize x1 * y0 = q at *
  generalize x0 * y1 = r at *
  generalize x1 * y1 = s at *
  rw [wrapN (n := s) (by omega), wrapN (n := q) (by omega), wrapN (n := p) (by omega), wrapN (n := r) (by omega), shr32]
  rw [← Int.natCast_add q (p / 4294967296), wrapN (n := q + p / 4294967296) (by omega), shr32, ← Int.natCast_add s, wrapN (n := s + (q + p / 4294967296) / 4294967296) (by omega)]
  rw [and_mask (by omega), ← Int.natCast_add, wrapN (n := (q + p / 4294967296) % 4294967296 + r) (by omega), shr32, ← Int.natCast_add, wrapN (n := s + (q + p / 4294967296) / 4294967296 + ((q + p / 4294967296) % 4294967296 + r) / 4294967296) (by omega)]
  congr 1
  refine Prod.ext ?_ ?_
  · simp only
    congr 1
    omega
  · simp only
    rw [IntKind.wrap_u64]; omega
theorem prod_abs (x y : Int) : x * y = if (decide (x < 0) != decide (y < 0)) = true then -(((x.natAbs * y.natAbs : Nat)) : Int) else ((x.natAbs * y.natAbs : Nat) : Int) := by
  have hx : x = if x < 0 then -(x.natAbs : Int) else (x.natAbs : Int) := by split <;> omega
  have hy : y = if y < 0 then -(y.natAbs : Int) else (y.natAbs : Int) := by split <;> omega
  rw [Int.natCast_mul]
  by_cases p1 : x < 0 <;> by_cases p2 : y < 0
  · rw [if_pos p1] at hx; rw [if_pos p2] at hy
    conv => lhs; rw [hx, hy]
    simp [p1, p2, Int.neg_mul_neg]
  · rw [if_pos p1] at hx; rw [if_neg p2] at hy
    conv => lhs; rw [hx, hy]
    simp [p1, p2, Int.neg_mul]
  · rw [if_neg p1] at hx; rw [if_pos p2] at hy
    conv => lhs; rw [hx, hy]
    simp [p1, p2, Int.mul_neg]
  · rw [if_neg p1] at hx; rw [if_neg p2] at hy
    conv => lhs; rw [hx, hy]
    simp [p1, p2]
theorem signed_eq (m : Nat) (hm : m < 18446744073709551616) (b : Bool) : ∃ n, arith_signed (m : Int) b = some (n, decide (r64 (if b then -(m : Int) else (m : Int)))) ∧ (r64 (if b then -(m : Int) else (m : Int)) → n = if b then -(m : Int) else (m : Int)) := by
  unfold arith_signed
  cases b with
  | true =>
    simp only [if_true]
    refine ⟨IntKind.i64.wrap (IntKind.u64.wrap (0 - (m : Int))), ?_, fun hr => ?_⟩
    · congr 2
      exact decide_eq_decide.mpr (by unfold r64; omega)
    · unfold r64 at hr
      rw [IntKind.wrap_u64, IntKind.wrap_i64]; omega
  | false =>
    simp only [Bool.false_eq_true, if_false]
    refine ⟨IntKind.i64.wrap (m : Int), ?_, fun hr => ?_⟩
    · congr 2
      exact decide_eq_decide.mpr (by unfold r64; omega)
    · unfold r64 at hr
      rw [IntKind.wrap_i64]; omega
theorem mul_eq {x y : Int} (hx : r64 x) (hy : r64 y) : (arP 14 x y).2 = decide (r64 (x * y)) ∧ (r64 (x * y) → (arP 14 x y).1 = x * y) := by
  have ha : x.natAbs ≤ 9223372036854775808 := by unfold r64 at hx; omega
  have hb : y.natAbs ≤ 9223372036854775808 := by unfold r64 at hy; omega
  have hprod := prod_abs x y
  have e : arP 14 x y = (arith_Mul_1 x y).getD (0, false) := rfl
  rw [e]
  unfold arith_Mul_1
  rw [size_eq x hx, size_eq y hy]
  simp only [Option.bind_some]
  rw [mul64_eq _ _ (by omega) (by omega)]
  simp only [Option.bind_some]
  generalize (decide (x < 0) != decide (y < 0)) = b at hprod ⊢
  generalize x.natAbs * y.natAbs = m at hprod ⊢
  obtain ⟨n, h1, h2⟩ := signed_eq (m % 18446744073709551616) (Nat.mod_lt _ (by decide)) b
  rw [h1]
  simp only [Option.bind_some, Option.getD_some]
  rw [hprod]
  by_cases hm : m < 18446744073709551616
  · rw [Nat.mod_eq_of_lt hm] at h2 ⊢
    have hd : m / 18446744073709551616 = 0 := Nat.div_eq_of_lt hm
    rw [hd]
    refine ⟨by simp, fun hr => h2 hr⟩
  · have hd : m / 18446744073709551616 ≠ 0 := by omega
    have hnr : ¬ r64 (if b = true then -(m : Int) else (m : Int)) := by
      unfold r64
      split <;> omega
    refine ⟨?_, fun hr => absurd hr hnr⟩
    have : ((((m / 18446744073709551616 : Nat) : Int)) == 0) = false := by simp; omega
    rw [this]
    simp [hnr]
theorem quot_abs (x y : Int) : x.tdiv y = if (decide (x < 0) != decide (y < 0)) = true then -((x.natAbs / y.natAbs : Nat) : Int) else ((x.natAbs / y.natAbs : Nat) : Int) := by
  have hx : x = if x < 0 then -(x.natAbs : Int) else (x.natAbs : Int) := by split <;> omega
  have hy : y = if y < 0 then -(y.natAbs : Int) else (y.natAbs : Int) := by split <;> omega
  have ht : ∀ a b : Nat, ((a : Int)).tdiv (b : Int) = ((a / b : Nat) : Int) := fun a b => rfl
  by_cases p1 : x < 0 <;> by_cases p2 : y < 0
  · rw [if_pos p1] at hx; rw [if_pos p2] at hy
    conv => lhs; rw [hx, hy]
    rw [Int.neg_tdiv, Int.tdiv_neg, ht]
    simp [p1, p2]
  · rw [if_pos p1] at hx; rw [if_neg p2] at hy
    conv => lhs; rw [hx, hy]
    rw [Int.neg_tdiv, ht]
    simp [p1, p2]
  · rw [if_neg p1] at hx; rw [if_pos p2] at hy
    conv => lhs; rw [hx, hy]
    rw [Int.tdiv_neg, ht]
    simp [p1, p2]
  · rw [if_neg p1] at hx; rw [if_neg p2] at hy
    conv => lhs; rw [hx, hy]
    rw [ht]
    simp [p1, p2]
theorem div_eq {x y : Int} (hx : r64 x) (hy : r64 y) (h0 : y ≠ 0) : (arP 15 x y).2 = decide (r64 (x.tdiv y)) ∧ (r64 (x.tdiv y) → (arP 15 x y).1 = x.tdiv y) := by
  have ha : x.natAbs ≤ 9223372036854775808 := by unfold r64 at hx; omega
  have hq := quot_abs x y
  have e : arP 15 x y = (arith_Div_1 x y).getD (0, false) := rfl
  rw [e]
  unfold arith_Div_1
  rw [if_neg (by simpa using h0), size_eq x hx, size_eq y hy]
  simp only [Option.bind_some]
  have hn : nz ((y.natAbs : Nat) : Int) = some () := by
    unfold nz
    rw [if_neg (by omega)]
  rw [hn]
  have ht : ((x.natAbs : Int)).tdiv (y.natAbs : Int) = ((x.natAbs / y.natAbs : Nat) : Int) := rfl
  have hle : x.natAbs / y.natAbs ≤ x.natAbs := Nat.div_le_self _ _
  simp only [Option.bind_some]
  rw [ht, wrapN (by omega)]
  generalize (decide (x < 0) != decide (y < 0)) = b at hq ⊢
  obtain ⟨n, h1, h2⟩ := signed_eq (x.natAbs / y.natAbs) (by omega) b
  rw [h1]
  simp only [Option.bind_some, Option.getD_some]
  rw [hq]
  exact ⟨rfl, h2⟩
def exZ (tag x y : Int) : Option Int := if tag = 12 then some (x + y) else if tag = 13 then some (x - y) else if tag = 14 then some (x * y) else if y = 0 then none else some (x.tdiv y)
def resV (tag x y : Int) : DValue × Int := match exZ tag x y with
  | none => (zV, 140)
  | some z => if r64 z then (iV z, 0) else (zV, 140)
theorem exZ12 (x y : Int) : exZ 12 x y = some (x + y) := rfl
theorem exZ13 (x y : Int) : exZ 13 x y = some (x - y) := rfl
theorem exZ14 (x y : Int) : exZ 14 x y = some (x * y) := rfl
theorem exZ15 (x y : Int) : exZ 15 x y = if y = 0 then none else some (x.tdiv y) := rfl
theorem resV_some {tag x y z : Int} (h : exZ tag x y = some z) : resV tag x y = if r64 z then (iV z, 0) else (zV, 140) := by
  unfold resV; rw [h]
theorem resV_none {tag x y : Int} (h : exZ tag x y = none) : resV tag x y = (zV, 140) := by
  unfold resV; rw [h]
theorem res_of {a : Int × Bool} {z : Int} (h1 : a.2 = decide (r64 z)) (h2 : r64 z → a.1 = z) : (if a.2 = true then (iV a.1, (0 : Int)) else (zV, 140)) = if r64 z then (iV z, 0) else (zV, 140) := by
  by_cases h : r64 z
  · rw [h1, decide_eq_true h, if_pos rfl, if_pos h, h2 h]
  · rw [h1, decide_eq_false h, if_neg (by decide), if_neg h]
theorem arP_res {tag x y : Int} (ht : tag = 12 ∨ tag = 13 ∨ tag = 14 ∨ tag = 15) (hx : r64 x) (hy : r64 y) : (if (arP tag x y).2 = true then (iV (arP tag x y).1, (0 : Int)) else (zV, 140)) = resV tag x y := by
  have hw : ∀ z, r64 z → IntKind.i64.wrap z = z := fun z h => by unfold r64 at h; exact wrapI h.1 h.2
  rcases ht with rfl | rfl | rfl | rfl
  · rw [resV_some (exZ12 x y)]
    exact res_of (by rw [add_eq hx hy]) (fun h => by rw [add_eq hx hy]; exact hw _ h)
  · rw [resV_some (exZ13 x y)]
    exact res_of (by rw [sub_eq hx hy]) (fun h => by rw [sub_eq hx hy]; exact hw _ h)
  · rw [resV_some (exZ14 x y)]
    exact res_of (mul_eq hx hy).1 (mul_eq hx hy).2
  · by_cases h0 : y = 0
    · subst h0
      rw [resV_none (by rw [exZ15, if_pos rfl])]
      rfl
    · rw [resV_some (z := x.tdiv y) (by rw [exZ15, if_neg h0])]
      exact res_of (div_eq hx hy h0).1 (div_eq hx hy h0).2
end Go.Proofs.YtdhledkpgaeoaaaGreatDoor

