/- The checksum by a table and by single bits, and numbers in eight bytes, plainly. -/
import Derived.Test.YtchjhcgkfglgiaaK1
namespace Go.Proofs.Ytchjhcgkfglgiaa
open Go

/-! ### Single bits -/
def nb (r : Nat) : Nat := if r % 2 = 1 then (r / 2) ^^^ 2197175160 else r / 2
def nb8 (r : Nat) : Nat := nb (nb (nb (nb (nb (nb (nb (nb r)))))))
theorem xor_div2 (a b : Nat) : (a ^^^ b) / 2 = (a / 2) ^^^ (b / 2) := by
  have := Nat.xor_div_two_pow (a := a) (b := b) (n := 1)
  simpa using this
theorem xor_mod2 (a b : Nat) : (a ^^^ b) % 2 = (a % 2 + b % 2) % 2 := by
  have h := Nat.xor_mod_two_pow (a := a) (b := b) (n := 1)
  rw [Nat.pow_one] at h
  rw [h]
  rcases Nat.mod_two_eq_zero_or_one a with h1 | h1 <;> rcases Nat.mod_two_eq_zero_or_one b with h2 | h2 <;> rw [h1, h2] <;> rfl
theorem nb_even (a b : Nat) : nb (a ^^^ 2 * b) = nb a ^^^ b := by
  unfold nb
  rw [xor_mod2, xor_div2]
  have h1 : 2 * b / 2 = b := by omega
  have h2 : (a % 2 + 2 * b % 2) % 2 = a % 2 := by omega
  rw [h1, h2]
  by_cases h : a % 2 = 1
  · rw [if_pos h, if_pos h, Nat.xor_assoc, Nat.xor_assoc, Nat.xor_comm b]
  · rw [if_neg h, if_neg h]
theorem nb_bit (a c : Nat) : nb (a ^^^ c) = nb (a ^^^ (c % 2)) ^^^ (c / 2) := by
  have : a ^^^ c = (a ^^^ (c % 2)) ^^^ 2 * (c / 2) := by
    rw [Nat.xor_assoc]
    congr 1
    apply Nat.eq_of_testBit_eq
    intro i
    rw [Nat.testBit_xor]
    cases i with
    | zero => simp [Nat.testBit_zero]
    | succ i => simp [Nat.testBit_succ]
  rw [this, nb_even]
theorem nb8_high (a b : Nat) : nb8 (a ^^^ 256 * b) = nb8 a ^^^ b := by
  unfold nb8
  rw [show 256 * b = 2 * (128 * b) by omega, nb_even, show 128 * b = 2 * (64 * b) by omega, nb_even, show 64 * b = 2 * (32 * b) by omega, nb_even, show 32 * b = 2 * (16 * b) by omega, nb_even,
    show 16 * b = 2 * (8 * b) by omega, nb_even, show 8 * b = 2 * (4 * b) by omega, nb_even, show 4 * b = 2 * (2 * b) by omega, nb_even, nb_even]
theorem xor_split (x : Nat) : x = (x % 256) ^^^ 256 * (x / 256) := by
  apply Nat.eq_of_testBit_eq
  intro i
  rw [Nat.testBit_xor, show (256 : Nat) = 2 ^ 8 from rfl, Nat.testBit_mod_two_pow, Nat.testBit_two_pow_mul, Nat.testBit_div_two_pow]
  by_cases h : i < 8
  · simp [h, show ¬ 8 ≤ i by omega]
  · simp [h, show 8 ≤ i by omega, show 8 + (i - 8) = i by omega]
theorem nb8_byte (x : Nat) : nb8 x = nb8 (x % 256) ^^^ (x / 256) := by
  conv => lhs; rw [xor_split x, nb8_high]
theorem xor_lt32 {a b : Nat} (ha : a < 4294967296) (hb : b < 4294967296) : a ^^^ b < 4294967296 := Nat.xor_lt_two_pow (n := 32) ha hb
theorem nb_lt {a : Nat} (ha : a < 4294967296) : nb a < 4294967296 := by
  unfold nb
  split
  · exact xor_lt32 (by omega) (by omega)
  · omega
theorem nb8_lt {a : Nat} (ha : a < 4294967296) : nb8 a < 4294967296 := nb_lt (nb_lt (nb_lt (nb_lt (nb_lt (nb_lt (nb_lt (nb_lt ha)))))))
theorem wrap32 (n : Nat) (h : n < 4294967296) : IntKind.u32.wrap (n : Int) = (n : Int) := by rw [IntKind.wrap_u32]; omega
theorem xor32 (a b : Nat) (ha : a < 4294967296) (hb : b < 4294967296) : bitsOp .xor .u32 (a : Int) (b : Int) = ((a ^^^ b : Nat) : Int) := by
  show IntKind.u32.wrap ((BitVec.ofInt 32 (a : Int) ^^^ BitVec.ofInt 32 (b : Int)).toNat : Int) = _
  rw [show (BitVec.ofInt 32 (a : Int) ^^^ BitVec.ofInt 32 (b : Int)).toNat = a ^^^ b by
    rw [BitVec.toNat_xor, BitVec.toNat_ofInt, BitVec.toNat_ofInt]
    congr 1 <;> omega]
  exact wrap32 _ (xor_lt32 ha hb)
theorem xor8 (a b : Nat) (ha : a < 256) (hb : b < 256) : bitsOp .xor .u8 (a : Int) (b : Int) = ((a ^^^ b : Nat) : Int) := by
  show IntKind.u8.wrap ((BitVec.ofInt 8 (a : Int) ^^^ BitVec.ofInt 8 (b : Int)).toNat : Int) = _
  rw [show (BitVec.ofInt 8 (a : Int) ^^^ BitVec.ofInt 8 (b : Int)).toNat = a ^^^ b by
    rw [BitVec.toNat_xor, BitVec.toNat_ofInt, BitVec.toNat_ofInt]
    congr 1 <;> omega]
  have := Nat.xor_lt_two_pow (n := 8) ha hb
  rw [IntKind.wrap_u8]; omega
theorem ref03_bit_eq (r c : Nat) (hr : r < 4294967296) : ref03_bit (r : Int) (((c : Int).tmod 2) == 1) = some ((nb (r ^^^ (c % 2)) : Nat) : Int) := by
  unfold ref03_bit ref03_bit_k1
  have e1 : ((r : Int).tmod 2 == 1) = decide (r % 2 = 1) := by
    rw [show (r : Int).tmod 2 = ((r % 2 : Nat) : Int) from rfl]
    rw [Bool.eq_iff_iff]; simp only [beq_iff_eq, decide_eq_true_eq]; omega
  have e2 : ((c : Int).tmod 2 == 1) = decide (c % 2 = 1) := by
    rw [show (c : Int).tmod 2 = ((c % 2 : Nat) : Int) from rfl]
    rw [Bool.eq_iff_iff]; simp only [beq_iff_eq, decide_eq_true_eq]; omega
  rw [e1, e2, show (r : Int).tdiv 2 = ((r / 2 : Nat) : Int) from rfl, wrap32 _ (by omega), show (2197175160 : Int) = ((2197175160 : Nat) : Int) from rfl, xor32 _ _ (by omega) (by omega)]
  unfold nb
  rw [xor_mod2, xor_div2, show c % 2 / 2 = 0 by omega, Nat.xor_zero, show c % 2 % 2 = c % 2 by omega]
  by_cases h1 : r % 2 = 1 <;> by_cases h2 : c % 2 = 1
  · simp [h1, h2]
  · simp [h1, show c % 2 = 0 by omega]
  · simp [h2, show r % 2 = 0 by omega]
  · simp [show c % 2 = 0 by omega, show r % 2 = 0 by omega]
theorem ref03_l2_eq (nx : Int → Option Int) : ∀ (k r c : Nat), r < 4294967296 → c < 2 ^ k → k ≤ 8 → ref03_Sum32_l2 nx k (r : Int) (c : Int) = nx ((Nat.rec (motive := fun _ => Nat) (r ^^^ c) (fun _ x => nb x) k : Nat) : Int)
  | 0, r, c, _, hc, _ => by
    have : c = 0 := by omega
    subst this
    unfold ref03_Sum32_l2
    rw [Nat.xor_zero]
    rfl
  | k + 1, r, c, hr, hc, hk => by
    unfold ref03_Sum32_l2
    have hp : (2 : Nat) ^ k ≤ 2 ^ 7 := Nat.pow_le_pow_right (by omega) (by omega)
    have hc2 : c / 2 < 2 ^ k := by rw [Nat.pow_succ] at hc; omega
    rw [ref03_bit_eq r c hr, Option.bind_some, show (c : Int).tdiv 2 = ((c / 2 : Nat) : Int) from rfl, show IntKind.u8.wrap ((c / 2 : Nat) : Int) = ((c / 2 : Nat) : Int) by rw [IntKind.wrap_u8]; omega]
    rw [ref03_l2_eq nx k _ _ (nb_lt (xor_lt32 hr (by omega))) hc2 (by omega), ← nb_bit]
    congr 2
    clear hr hc hk hp hc2
    induction k with
    | zero => rfl
    | succ k ih => show nb _ = nb _; rw [ih]
/-- The checksum's turn by one byte. -/
def cstep (r c : Nat) : Nat := nb8 (r ^^^ c)
theorem cstep_lt {r c : Nat} (hr : r < 4294967296) (hc : c < 256) : cstep r c < 4294967296 := nb8_lt (xor_lt32 hr (by omega))
/-- A list of bytes. -/
def byt (b : List Int) : Prop := ∀ x ∈ b, ∃ c : Nat, c < 256 ∧ x = (c : Int)
theorem ref03_l1_eq : ∀ (b : List Int) (r : Nat), r < 4294967296 → byt b → ∃ s : Nat, s < 4294967296 ∧ s = b.foldl (fun r x => cstep r x.toNat) r ∧ ref03_Sum32_l1 b (r : Int) = some (((4294967295 - s : Nat)) : Int)
  | [], r, hr, _ => ⟨r, hr, rfl, by unfold ref03_Sum32_l1; rw [IntKind.wrap_u32]; congr 1; omega⟩
  | x :: b, r, hr, hb => by
    obtain ⟨c, hc, rfl⟩ := hb _ (List.mem_cons_self ..)
    obtain ⟨s, h1, h2, h3⟩ := ref03_l1_eq b (cstep r c) (cstep_lt hr hc) (fun y hy => hb y (List.mem_cons_of_mem _ hy))
    refine ⟨s, h1, h2, ?_⟩
    unfold ref03_Sum32_l1
    rw [ref03_l2_eq _ 8 r c hr (by omega) (Nat.le_refl _)]
    exact h3
/-! ### The table -/
def table : List Int := (List.range 256).map fun i => (nb8 i : Int)
theorem steps_eq : sum_steps = some table := by kernel_rfl
theorem table_idx (i : Nat) (h : i < 256) : idx table (i : Int) = some (nb8 i : Int) := by
  rw [idx_nat]
  unfold table
  rw [List.getElem?_map, List.getElem?_range h]
  rfl
theorem sum1_eq (r c : Nat) (hr : r < 4294967296) (hc : c < 256) : sum_Sum32_1 (r : Int) table (c : Int) = some (cstep r c : Int) := by
  unfold sum_Sum32_1
  have hx : (r % 256) ^^^ c < 256 := Nat.xor_lt_two_pow (n := 8) (by omega) hc
  rw [show IntKind.u8.wrap (r : Int) = ((r % 256 : Nat) : Int) by rw [IntKind.wrap_u8]; omega, xor8 _ _ (by omega) hc, table_idx _ hx, Option.bind_some]
  rw [show ((r : Int).fdiv (2 ^ (min (Int.toNat (8 : Int)) IntKind.u32.bits))) = ((r / 256 : Nat) : Int) by
    show (r : Int).fdiv 256 = _
    rw [Int.fdiv_eq_ediv_of_nonneg _ (by omega)]; omega]
  rw [xor32 _ _ (by omega) (nb8_lt (by omega))]
  unfold cstep
  rw [nb8_byte (r ^^^ c)]
  rw [show (r ^^^ c) % 256 = (r % 256) ^^^ c by
    have := Nat.xor_mod_two_pow (a := r) (b := c) (n := 8)
    rw [show (256 : Nat) = 2 ^ 8 from rfl, this, Nat.mod_eq_of_lt (a := c) (by omega)]]
  rw [show (r ^^^ c) / 256 = r / 256 by
    have := Nat.xor_div_two_pow (a := r) (b := c) (n := 8)
    rw [show (256 : Nat) = 2 ^ 8 from rfl, this, Nat.div_eq_of_lt (a := c) (by omega), Nat.xor_zero], Nat.xor_comm]
theorem sum_l1_eq : ∀ (b : List Int) (r : Nat), r < 4294967296 → byt b → ∃ s : Nat, s < 4294967296 ∧ s = b.foldl (fun r x => cstep r x.toNat) r ∧ sum_Sum32_l1 table b (r : Int) = some (((4294967295 - s : Nat)) : Int)
  | [], r, hr, _ => ⟨r, hr, rfl, by
    unfold sum_Sum32_l1
    rw [show (if IntKind.u32.signed then -1 else IntKind.u32.max) = ((4294967295 : Nat) : Int) from rfl, xor32 _ _ (by omega) hr]
    congr 2
    have h := BitVec.allOnes_xor (x := BitVec.ofNat 32 r)
    have h2 := congrArg BitVec.toNat h
    rw [BitVec.toNat_xor, BitVec.toNat_not, BitVec.toNat_allOnes, BitVec.toNat_ofNat, Nat.mod_eq_of_lt (a := r) (by omega)] at h2
    exact h2⟩
  | x :: b, r, hr, hb => by
    obtain ⟨c, hc, rfl⟩ := hb _ (List.mem_cons_self ..)
    obtain ⟨s, h1, h2, h3⟩ := sum_l1_eq b (cstep r c) (cstep_lt hr hc) (fun y hy => hb y (List.mem_cons_of_mem _ hy))
    refine ⟨s, h1, h2, ?_⟩
    unfold sum_Sum32_l1
    rw [sum1_eq r c hr hc, Option.bind_some]
    exact h3
/-- The two checksums are one. -/
theorem sums_same (b : List Int) (hb : byt b) : ∃ n : Nat, n < 4294967296 ∧ sum_Sum32 b = some (n : Int) ∧ ref03_Sum32 b = some (n : Int) := by
  obtain ⟨s, _, h2, h3⟩ := sum_l1_eq b 4294967295 (by omega) hb
  obtain ⟨s', _, h2', h3'⟩ := ref03_l1_eq b 4294967295 (by omega) hb
  refine ⟨_, by omega, ?_, h3'⟩
  unfold sum_Sum32
  rw [steps_eq, Option.bind_some, h2', ← h2]
  exact h3
/-! ### Numbers, in eight bytes -/
theorem byt_append {a b : List Int} (ha : byt a) (hb : byt b) : byt (a ++ b) := fun x hx => (List.mem_append.1 hx).elim (ha x) (hb x)
theorem byt_one (n : Int) : byt [IntKind.u8.wrap n] := fun x hx => by
  rw [List.mem_singleton.1 hx]
  exact ⟨(IntKind.u8.wrap n).toNat, by rw [IntKind.wrap_u8]; omega, by rw [IntKind.wrap_u8]; omega⟩
theorem byt_bytes (s : Str) : byt (bytesOf s) := fun x hx => by
  obtain ⟨b, _, rfl⟩ := List.mem_map.1 hx
  exact ⟨b.toNat, UInt8.toNat_lt b, rfl⟩
/-- The bytes of a number, the high ones first. -/
def bytesN (n : Nat) : Nat → List Int
  | 0 => []
  | k + 1 => ((n / 256 ^ k % 256 : Nat) : Int) :: bytesN n k
theorem bytesN_len (n : Nat) : ∀ k, (bytesN n k).length = k
  | 0 => rfl
  | k + 1 => by simp [bytesN, bytesN_len n k]
theorem byt_bytesN (n : Nat) : ∀ k, byt (bytesN n k)
  | 0 => fun x hx => by cases hx
  | k + 1 => fun x hx => by
    rcases List.mem_cons.1 hx with rfl | hx
    · exact ⟨_, Nat.mod_lt _ (by omega), rfl⟩
    · exact byt_bytesN n k x hx
theorem row_number_step (n : Nat) : ∀ (k f : Nat) (b : List Int), k ≤ 8 → k < f → b.length + k ≤ 1000000 → row_number_l1 (n : Int) f b (8 * (k : Int) - 8) = some (b ++ bytesN n k)
  | 0, f + 1, b, _, _, _ => by
    unfold row_number_l1
    rw [if_neg (by simp)]
    simp [bytesN]
  | k + 1, f + 1, b, hk, hf, hb => by
    unfold row_number_l1
    rw [show (8 * ((k + 1 : Nat) : Int) - 8) = ((8 * k : Nat) : Int) by omega, if_pos (by rw [decide_eq_true_eq]; omega), show ge0 ((8 * k : Nat) : Int) = some () from if_pos (by omega), Option.bind_some, app_ok (by simp; omega), Option.bind_some]
    rw [show (n : Int).fdiv (2 ^ (min (Int.toNat ((8 * k : Nat) : Int)) IntKind.u64.bits)) = ((n / 256 ^ k : Nat) : Int) by
      rw [Int.toNat_natCast, show IntKind.u64.bits = 64 from rfl, Nat.min_eq_left (by omega), Int.fdiv_eq_ediv_of_nonneg _ (Int.pow_nonneg (by omega)), show (2 : Int) ^ (8 * k) = ((256 ^ k : Nat) : Int) by rw [show (256 : Nat) = 2 ^ 8 from rfl, ← Nat.pow_mul]; norm_cast]
      rfl]
    rw [show IntKind.u8.wrap ((n / 256 ^ k : Nat) : Int) = ((n / 256 ^ k % 256 : Nat) : Int) by rw [IntKind.wrap_u8]; omega]
    rw [show IntKind.i64.wrap (((8 * k : Nat) : Int) - 8) = 8 * (k : Int) - 8 by rw [IntKind.wrap_i64]; omega]
    rw [row_number_step n k f _ (by omega) (by omega) (by simp; omega), List.append_assoc]
    rfl
theorem row_number_eq (b : List Int) (n : Nat) (hb : b.length ≤ 100000) : row_number b (n : Int) = some (b ++ bytesN n 8) :=
  row_number_step n 8 FUEL b (by omega) (by unfold FUEL; omega) (by omega)
theorem ref05_number_step (n : Nat) (hn : n < 18446744073709551616) : ∀ (k j : Nat), k + j = 8 → ref05_number_l1 k (bytesN n j) ((n / 256 ^ j : Nat) : Int) = some (bytesN n 8)
  | 0, j, h => by
    unfold ref05_number_l1
    rw [show j = 8 by omega]
  | k + 1, j, h => by
    unfold ref05_number_l1
    rw [show (((n / 256 ^ j : Nat) : Int).tmod 256) = ((n / 256 ^ j % 256 : Nat) : Int) from rfl, show IntKind.u8.wrap ((n / 256 ^ j % 256 : Nat) : Int) = ((n / 256 ^ j % 256 : Nat) : Int) by rw [IntKind.wrap_u8]; omega,
      app_ok (by rw [bytesN_len]; simp; omega), Option.bind_some]
    rw [show (((n / 256 ^ j : Nat) : Int).tdiv 256) = ((n / 256 ^ j / 256 : Nat) : Int) from rfl]
    have h1 : n / 256 ^ j / 256 ≤ n := Nat.le_trans (Nat.div_le_self _ _) (Nat.div_le_self _ _)
    rw [show IntKind.u64.wrap ((n / 256 ^ j / 256 : Nat) : Int) = ((n / 256 ^ j / 256 : Nat) : Int) by
      generalize n / 256 ^ j / 256 = m at h1
      rw [IntKind.wrap_u64]; omega]
    rw [Nat.div_div_eq_div_mul, ← Nat.pow_succ]
    exact ref05_number_step n hn k (j + 1) (by omega)
theorem ref05_number_eq (n : Nat) (hn : n < 18446744073709551616) : ref05_number (n : Int) = some (bytesN n 8) := by
  have := ref05_number_step n hn 8 0 (by omega)
  simpa [bytesN, ref05_number] using this
end Go.Proofs.Ytchjhcgkfglgiaa
