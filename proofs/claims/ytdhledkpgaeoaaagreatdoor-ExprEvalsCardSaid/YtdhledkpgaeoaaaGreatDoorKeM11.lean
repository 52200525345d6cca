/- Facts of this claim: M11. -/
import Derived.Test.YtdhledkpgaeoaaaGreatDoorKeM10
namespace Go.Proofs.YtdhledkpgaeoaaaGreatDoor
open Go

def digs (m : Nat) : List Int := [((m % 4294967296 : Nat) : Int), ((m / 4294967296 % 4294967296 : Nat) : Int), ((m / 18446744073709551616 % 4294967296 : Nat) : Int), ((m / 79228162514264337593543950336 % 4294967296 : Nat) : Int), 0, 0, 0, 0]
def bigOf (z : Int) : DBig := ⟨digs z.natAbs, decide (z < 0)⟩
theorem digs2 {m : Nat} (h : m < 18446744073709551616) : digs m = [((m % 4294967296 : Nat) : Int), ((m / 4294967296 : Nat) : Int), 0, 0, 0, 0, 0, 0] := by
  unfold digs
  rw [Nat.mod_eq_of_lt (show m / 4294967296 < 4294967296 by omega), Nat.div_eq_of_lt h, Nat.div_eq_of_lt (show m < 79228162514264337593543950336 by omega)]
  rfl
theorem tmodN (x : Nat) : ((x : Int)).tmod 4294967296 = ((x % 4294967296 : Nat) : Int) := rfl
theorem cpl_eq {u : Nat} (h : u < 18446744073709551616) : bitsOp .xor .u64 (if IntKind.u64.signed then -1 else IntKind.u64.max) (u : Int) = ((18446744073709551615 - u : Nat) : Int) := by
  have e : bitsOp .xor .u64 (if IntKind.u64.signed then -1 else IntKind.u64.max) (u : Int) = IntKind.u64.wrap (((BitVec.ofInt 64 (if IntKind.u64.signed then -1 else IntKind.u64.max) ^^^ BitVec.ofInt 64 (u : Int)).toNat : Nat) : Int) := rfl
  have e1 : BitVec.ofInt 64 (if IntKind.u64.signed then -1 else IntKind.u64.max) = BitVec.allOnes 64 := by decide
  have e2 : BitVec.ofInt 64 (u : Int) = BitVec.ofNat 64 u := BitVec.ofInt_natCast 64 u
  rw [e, e1, e2, BitVec.allOnes_xor, BitVec.toNat_not, BitVec.toNat_ofNat, Nat.mod_eq_of_lt (by omega : u < 2 ^ 64), wrapN (by omega)]
theorem Of_k1_eq (m : Nat) (h : m < 18446744073709551616) (b : Bool) : ref04_Of_k1 0 (m : Int) ⟨List.replicate 8 0, b⟩ = some ⟨digs m, b⟩ := by
  rw [digs2 h]
  unfold ref04_Of_k1
  rw [tmodN, shr32]
  rfl
theorem ref04_Int_eq {z : Int} (h : r64 z) : ref04_Int z = some (bigOf z) := by
  unfold r64 at h
  unfold ref04_Int bigOf
  by_cases hz : z < 0
  · rw [if_pos (by simpa using hz)]
    unfold ref04_Of
    rw [if_pos (by decide)]
    have eu : IntKind.u64.wrap z = ((18446744073709551616 - z.natAbs : Nat) : Int) := by rw [IntKind.wrap_u64]; omega
    rw [eu, cpl_eq (by omega)]
    have e1 : IntKind.u64.wrap (((18446744073709551615 - (18446744073709551616 - z.natAbs) : Nat) : Int) + 1) = ((z.natAbs : Nat) : Int) := by rw [IntKind.wrap_u64]; omega
    rw [e1, if_neg (by simp; omega)]
    have e2 : IntKind.u64.wrap (-1) = ((18446744073709551615 : Nat) : Int) := by decide
    rw [e2, cpl_eq (by omega)]
    have := Of_k1_eq z.natAbs (by omega) true
    rw [show ((18446744073709551615 - 18446744073709551615 : Nat) : Int) = 0 from rfl, this]
    simp [hz]
  · rw [if_neg (by simpa using hz)]
    unfold ref04_Of
    rw [if_neg (by decide)]
    have eu : IntKind.u64.wrap z = ((z.natAbs : Nat) : Int) := by rw [IntKind.wrap_u64]; omega
    rw [eu, show IntKind.u64.wrap 0 = 0 from by decide, Of_k1_eq z.natAbs (by omega) false]
    simp [hz]
theorem zero_big {m : Nat} (h : m < 340282366920938463463374607431768211456) (b : Bool) : ref04_zero ⟨digs m, b⟩ = some (decide (m = 0)) := by
  unfold ref04_zero
  congr 1
  apply bool_iff
  simp only [decide_eq_true_eq]
  constructor
  · intro he
    unfold digs at he
    have he : [((m % 4294967296 : Nat) : Int), ((m / 4294967296 % 4294967296 : Nat) : Int), ((m / 18446744073709551616 % 4294967296 : Nat) : Int), ((m / 79228162514264337593543950336 % 4294967296 : Nat) : Int), 0, 0, 0, 0] = [0, 0, 0, 0, 0, 0, 0, 0] := he
    simp only [List.cons.injEq] at he
    omega
  · intro he; subst he; rfl
theorem Turned_eq {z : Int} (h : z.natAbs < 340282366920938463463374607431768211456) : ref04_Turned (bigOf z) = some (bigOf (-z)) := by
  unfold ref04_Turned bigOf
  rw [zero_big h]
  simp only [Int.natAbs_neg]
  by_cases h1 : z < 0
  · have h2 : ¬ (-z < 0) := by omega
    simp [h1, h2]
    omega
  · by_cases h0 : z = 0
    · subst h0; simp
    · have h2 : -z < 0 := by omega
      have h3 : ¬ z.natAbs = 0 := by omega
      have h4 : decide (z < 0) = false := decide_eq_false h1
      have h5 : decide (-z < 0) = true := decide_eq_true h2
      have h6 : decide (z.natAbs = 0) = false := decide_eq_false h3
      rw [h4, h5, h6]
      rfl
theorem inR8 {i : Nat} (h : i < 8) : inR (i : Int) 8 = some () := by unfold inR; rw [if_pos (by omega)]
theorem plus_same (aa bb ds : List Int) (s t : Bool) (k i : Nat) (hi : i < 8) (e1 e2 c : Nat) (h1 : aa[i]? = some (e1 : Int)) (h2 : bb[i]? = some (e2 : Int)) (b1 : e1 < 4294967296) (b2 : e2 < 4294967296) (b3 : c ≤ 1) :
    ref04_Plus_l1 ⟨aa, s⟩ ⟨bb, s⟩ (k + 1) i (c : Int) ⟨ds, t⟩ = ref04_Plus_l1 ⟨aa, s⟩ ⟨bb, s⟩ k (i + 1) (((e1 + e2 + c) / 4294967296 : Nat) : Int) ⟨ds.set i (((e1 + e2 + c) % 4294967296 : Nat) : Int), t⟩ := by
  conv => lhs; unfold ref04_Plus_l1
  rw [if_pos (by simp), inR8 hi, idx_nat, h1, idx_nat, h2]
  simp only [Option.bind_some]
  rw [← Int.natCast_add, wrapN (by omega), ← Int.natCast_add, wrapN (by omega), shr32, tmodN]
  rfl
theorem plus_diff (aa bb ds : List Int) (s u t : Bool) (hsu : (s == u) = false) (k i : Nat) (hi : i < 8) (e1 e2 c : Nat) (h1 : aa[i]? = some (e1 : Int)) (h2 : bb[i]? = some (e2 : Int)) (b1 : e1 < 4294967296) (b2 : e2 < 4294967296) (b3 : c ≤ 1) :
    ref04_Plus_l1 ⟨aa, s⟩ ⟨bb, u⟩ (k + 1) i (c : Int) ⟨ds, t⟩ = ref04_Plus_l1 ⟨aa, s⟩ ⟨bb, u⟩ k (i + 1) ((1 - (e1 + 4294967296 - e2 - c) / 4294967296 : Nat) : Int) ⟨ds.set i (((e1 + 4294967296 - e2 - c) % 4294967296 : Nat) : Int), t⟩ := by
  conv => lhs; unfold ref04_Plus_l1
  rw [if_neg (by simp only [hsu]; decide), inR8 hi, idx_nat, h1, idx_nat, h2]
  simp only [Option.bind_some]
  have q1 : IntKind.u64.wrap ((e1 : Int) + 4294967296) = ((e1 + 4294967296 : Nat) : Int) := by rw [wrapU (by omega) (by omega)]; omega
  have q2 : IntKind.u64.wrap (((e1 + 4294967296 : Nat) : Int) - (e2 : Int)) = ((e1 + 4294967296 - e2 : Nat) : Int) := by rw [wrapU (by omega) (by omega)]; omega
  have q3 : IntKind.u64.wrap (((e1 + 4294967296 - e2 : Nat) : Int) - (c : Int)) = ((e1 + 4294967296 - e2 - c : Nat) : Int) := by rw [wrapU (by omega) (by omega)]; omega
  rw [q1, q2, q3, shr32, tmodN]
  have q4 : IntKind.u64.wrap (1 - (((e1 + 4294967296 - e2 - c) / 4294967296 : Nat) : Int)) = ((1 - (e1 + 4294967296 - e2 - c) / 4294967296 : Nat) : Int) := by rw [wrapU (by omega) (by omega)]; omega
  rw [q4]
  rfl
theorem plus_end (aa bb : DBig) (i : Nat) (c : Int) (m : Nat) (hm : m < 340282366920938463463374607431768211456) (t : Bool) : ref04_Plus_l1 aa bb 0 i c ⟨digs m, t⟩ = some ⟨digs m, t && decide (m ≠ 0)⟩ := by
  unfold ref04_Plus_l1
  cases t with
  | false => rfl
  | true =>
    simp only [if_true]
    rw [zero_big hm]
    simp
theorem plusS {p q : Nat} (hp : p < 18446744073709551616) (hq : q < 18446744073709551616) (s : Bool) : ref04_Plus_k1 ⟨digs p, s⟩ ⟨digs q, s⟩ = some ⟨digs (p + q), s && decide (p + q ≠ 0)⟩ := by
  have hd : digs (p + q) = [(((p % 4294967296 + q % 4294967296 + 0) % 4294967296 : Nat) : Int), (((p / 4294967296 + q / 4294967296 + (p % 4294967296 + q % 4294967296 + 0) / 4294967296) % 4294967296 : Nat) : Int), (((0 + 0 + (p / 4294967296 + q / 4294967296 + (p % 4294967296 + q % 4294967296 + 0) / 4294967296) / 4294967296) % 4294967296 : Nat) : Int), 0, 0, 0, 0, 0] := by
    unfold digs
    congr 1
    · congr 1; omega
    · congr 1
      · congr 1; omega
      · congr 1
        · congr 1; omega
        · congr 1
          have : (p + q) / 79228162514264337593543950336 % 4294967296 = 0 := by omega
          rw [this]; rfl
  have hd2 := hd
  rw [digs2 hp, digs2 hq]
  unfold ref04_Plus_k1
  generalize hp0 : p % 4294967296 = p0 at hd2 ⊢
  generalize hp1 : p / 4294967296 = p1 at hd2 ⊢
  generalize hq0 : q % 4294967296 = q0 at hd2 ⊢
  generalize hq1 : q / 4294967296 = q1 at hd2 ⊢
  have c1 : (p0 + q0 + 0) / 4294967296 ≤ 1 := by omega
  generalize hc : (p0 + q0 + 0) / 4294967296 = c at hd2 c1 ⊢
  have c2 : (p1 + q1 + c) / 4294967296 ≤ 1 := by omega
  generalize hcc : (p1 + q1 + c) / 4294967296 = cc at hd2 c2 ⊢
  rw [show ((0 : Int)) = ((0 : Nat) : Int) from rfl]
  rw [plus_same _ _ _ s s 7 0 (by omega) p0 q0 0 rfl rfl (by omega) (by omega) (by omega), hc]
  rw [plus_same _ _ _ s s 6 1 (by omega) p1 q1 c rfl rfl (by omega) (by omega) (by omega), hcc]
  rw [plus_same _ _ _ s s 5 2 (by omega) 0 0 cc rfl rfl (by omega) (by omega) (by omega)]
  have c3 : (0 + 0 + cc) / 4294967296 = 0 := by omega
  rw [c3]
  rw [plus_same _ _ _ s s 4 3 (by omega) 0 0 0 rfl rfl (by omega) (by omega) (by omega)]
  rw [show (0 + 0 + 0) / 4294967296 = 0 from rfl]
  rw [plus_same _ _ _ s s 3 4 (by omega) 0 0 0 rfl rfl (by omega) (by omega) (by omega)]
  rw [show (0 + 0 + 0) / 4294967296 = 0 from rfl]
  rw [plus_same _ _ _ s s 2 5 (by omega) 0 0 0 rfl rfl (by omega) (by omega) (by omega)]
  rw [show (0 + 0 + 0) / 4294967296 = 0 from rfl]
  rw [plus_same _ _ _ s s 1 6 (by omega) 0 0 0 rfl rfl (by omega) (by omega) (by omega)]
  rw [show (0 + 0 + 0) / 4294967296 = 0 from rfl]
  rw [plus_same _ _ _ s s 0 7 (by omega) 0 0 0 rfl rfl (by omega) (by omega) (by omega)]
  have he := plus_end ⟨[(p0 : Int), (p1 : Int), 0, 0, 0, 0, 0, 0], s⟩ ⟨[(q0 : Int), (q1 : Int), 0, 0, 0, 0, 0, 0], s⟩ (7 + 1) (((0 + 0 + 0) / 4294967296 : Nat) : Int) (p + q) (by omega) s
  rw [hd2] at he
  rw [hd2]
  exact he
theorem plusD {p q : Nat} (hp : p < 18446744073709551616) (hq : q ≤ p) (s u : Bool) (hsu : (s == u) = false) : ref04_Plus_k1 ⟨digs p, s⟩ ⟨digs q, u⟩ = some ⟨digs (p - q), s && decide (p - q ≠ 0)⟩ := by
  have hd : digs (p - q) = [(((p % 4294967296 + 4294967296 - q % 4294967296 - 0) % 4294967296 : Nat) : Int), (((p / 4294967296 + 4294967296 - q / 4294967296 - (1 - (p % 4294967296 + 4294967296 - q % 4294967296 - 0) / 4294967296)) % 4294967296 : Nat) : Int), 0, 0, 0, 0, 0, 0] := by
    rw [digs2 (by omega)]
    congr 1
    · congr 1; omega
    · congr 1
      · congr 1; omega
  have hd2 := hd
  rw [digs2 hp, digs2 (m := q) (by omega)]
  unfold ref04_Plus_k1
  have hge : (p / 4294967296 + 4294967296 - q / 4294967296 - (1 - (p % 4294967296 + 4294967296 - q % 4294967296 - 0) / 4294967296)) / 4294967296 = 1 := by omega
  generalize hp0 : p % 4294967296 = p0 at hd2 hge ⊢
  generalize hp1 : p / 4294967296 = p1 at hd2 hge ⊢
  generalize hq0 : q % 4294967296 = q0 at hd2 hge ⊢
  generalize hq1 : q / 4294967296 = q1 at hd2 hge ⊢
  have c1 : 1 - (p0 + 4294967296 - q0 - 0) / 4294967296 ≤ 1 := by omega
  generalize hc : 1 - (p0 + 4294967296 - q0 - 0) / 4294967296 = c at hd2 hge c1 ⊢
  rw [show ((0 : Int)) = ((0 : Nat) : Int) from rfl]
  rw [plus_diff _ _ _ s u s hsu 7 0 (by omega) p0 q0 0 rfl rfl (by omega) (by omega) (by omega), hc]
  rw [plus_diff _ _ _ s u s hsu 6 1 (by omega) p1 q1 c rfl rfl (by omega) (by omega) (by omega), hge]
  rw [show 1 - 1 = 0 from rfl]
  rw [plus_diff _ _ _ s u s hsu 5 2 (by omega) 0 0 0 rfl rfl (by omega) (by omega) (by omega)]
  rw [show 1 - (0 + 4294967296 - 0 - 0) / 4294967296 = 0 from rfl]
  rw [plus_diff _ _ _ s u s hsu 4 3 (by omega) 0 0 0 rfl rfl (by omega) (by omega) (by omega)]
  rw [show 1 - (0 + 4294967296 - 0 - 0) / 4294967296 = 0 from rfl]
  rw [plus_diff _ _ _ s u s hsu 3 4 (by omega) 0 0 0 rfl rfl (by omega) (by omega) (by omega)]
  rw [show 1 - (0 + 4294967296 - 0 - 0) / 4294967296 = 0 from rfl]
  rw [plus_diff _ _ _ s u s hsu 2 5 (by omega) 0 0 0 rfl rfl (by omega) (by omega) (by omega)]
  rw [show 1 - (0 + 4294967296 - 0 - 0) / 4294967296 = 0 from rfl]
  rw [plus_diff _ _ _ s u s hsu 1 6 (by omega) 0 0 0 rfl rfl (by omega) (by omega) (by omega)]
  rw [show 1 - (0 + 4294967296 - 0 - 0) / 4294967296 = 0 from rfl]
  rw [plus_diff _ _ _ s u s hsu 0 7 (by omega) 0 0 0 rfl rfl (by omega) (by omega) (by omega)]
  have he := plus_end ⟨[(p0 : Int), (p1 : Int), 0, 0, 0, 0, 0, 0], s⟩ ⟨[(q0 : Int), (q1 : Int), 0, 0, 0, 0, 0, 0], u⟩ (7 + 1) ((1 - (0 + 4294967296 - 0 - 0) / 4294967296 : Nat) : Int) (p - q) (by omega) s
  rw [hd2] at he
  rw [hd2]
  exact he
theorem less_step (aa bb : List Int) (s t : Bool) (n : Nat) (i : Nat) (hi : i < 8) (e1 e2 : Int) (h1 : aa[i]? = some e1) (h2 : bb[i]? = some e2) :
    ref04_less_l1 ⟨aa, s⟩ ⟨bb, t⟩ (n + 1) (i : Int) = if e1 = e2 then ref04_less_l1 ⟨aa, s⟩ ⟨bb, t⟩ n ((i : Int) - 1) else some (decide (e1 < e2)) := by
  conv => lhs; unfold ref04_less_l1
  rw [if_pos (by simp), idx_nat, h1, idx_nat, h2]
  simp only [Option.bind_some]
  by_cases h : e1 = e2
  · rw [if_neg (by simp [h]), if_pos h, wrapI (by omega) (by omega)]
  · rw [if_pos (by simpa using h), if_neg h]
theorem less_eq {p q : Nat} (hp : p < 18446744073709551616) (hq : q < 18446744073709551616) (s t : Bool) : ref04_less ⟨digs p, s⟩ ⟨digs q, t⟩ = some (decide (p < q)) := by
  rw [digs2 hp, digs2 hq]
  unfold ref04_less
  obtain ⟨f, hf⟩ : ∃ f, FUEL = f + 9 := ⟨FUEL - 9, by have := fuel_ge (n := 9) (by omega); omega⟩
  rw [hf]
  rw [show (7 : Int) = ((7 : Nat) : Int) from rfl, less_step _ _ s t (f + 8) 7 (by omega) 0 0 rfl rfl, if_pos rfl]
  rw [show ((7 : Nat) : Int) - 1 = ((6 : Nat) : Int) from rfl, less_step _ _ s t (f + 7) 6 (by omega) 0 0 rfl rfl, if_pos rfl]
  rw [show ((6 : Nat) : Int) - 1 = ((5 : Nat) : Int) from rfl, less_step _ _ s t (f + 6) 5 (by omega) 0 0 rfl rfl, if_pos rfl]
  rw [show ((5 : Nat) : Int) - 1 = ((4 : Nat) : Int) from rfl, less_step _ _ s t (f + 5) 4 (by omega) 0 0 rfl rfl, if_pos rfl]
  rw [show ((4 : Nat) : Int) - 1 = ((3 : Nat) : Int) from rfl, less_step _ _ s t (f + 4) 3 (by omega) 0 0 rfl rfl, if_pos rfl]
  rw [show ((3 : Nat) : Int) - 1 = ((2 : Nat) : Int) from rfl, less_step _ _ s t (f + 3) 2 (by omega) 0 0 rfl rfl, if_pos rfl]
  rw [show ((2 : Nat) : Int) - 1 = ((1 : Nat) : Int) from rfl, less_step _ _ s t (f + 2) 1 (by omega) _ _ rfl rfl]
  by_cases h1 : ((p / 4294967296 : Nat) : Int) = ((q / 4294967296 : Nat) : Int)
  · rw [if_pos h1, show ((1 : Nat) : Int) - 1 = ((0 : Nat) : Int) from rfl, less_step _ _ s t (f + 1) 0 (by omega) _ _ rfl rfl]
    by_cases h0 : ((p % 4294967296 : Nat) : Int) = ((q % 4294967296 : Nat) : Int)
    · rw [if_pos h0]
      unfold ref04_less_l1
      rw [if_neg (by decide)]
      congr 1
      symm
      rw [decide_eq_false_iff_not]; omega
    · rw [if_neg h0]
      congr 1
      apply bool_iff
      simp only [decide_eq_true_eq]; omega
  · rw [if_neg h1]
    congr 1
    apply bool_iff
    simp only [decide_eq_true_eq]; omega
theorem Plus_eq {x y : Int} (hx : x.natAbs ≤ 9223372036854775808) (hy : y.natAbs ≤ 9223372036854775808) : ref04_Plus (bigOf x) (bigOf y) = some (bigOf (x + y)) := by
  unfold ref04_Plus bigOf
  rw [less_eq (by omega) (by omega)]
  simp only [Option.bind_some]
  by_cases h : (decide (x < 0) == decide (y < 0)) = true
  · have hs : decide (y < 0) = decide (x < 0) := (eq_of_beq h).symm
    have hne : (decide (x < 0) != decide (y < 0)) = false := by rw [hs]; simp
    rw [hne]
    simp only [Bool.false_eq_true, if_false, Option.bind_some]
    rw [hs, plusS (by omega) (by omega)]
    congr 2
    · congr 1
      have : (decide (x < 0) = true ↔ decide (y < 0) = true) := by rw [hs]
      simp only [decide_eq_true_eq] at this
      omega
    · apply bool_iff
      have : (decide (x < 0) = true ↔ decide (y < 0) = true) := by rw [hs]
      simp only [decide_eq_true_eq] at this
      simp only [Bool.and_eq_true, decide_eq_true_eq]
      omega
  · have hb : (decide (x < 0) == decide (y < 0)) = false := by simpa using h
    have hne : (decide (x < 0) != decide (y < 0)) = true := by simp only [bne, hb]; rfl
    rw [hne]
    simp only [if_true, Option.bind_some]
    have hxy : ¬ (x < 0 ↔ y < 0) := by
      intro hi
      have : decide (x < 0) = decide (y < 0) := by simp only [decide_eq_decide]; exact hi
      rw [this] at hb; simp at hb
    by_cases hlt : x.natAbs < y.natAbs
    · rw [if_pos (by simpa using hlt)]
      have hb' : (decide (y < 0) == decide (x < 0)) = false := by
        cases q1 : decide (x < 0) <;> cases q2 : decide (y < 0) <;> simp_all
      rw [plusD (by omega) (by omega) _ _ hb']
      congr 2
      · congr 1; omega
      · apply bool_iff
        simp only [Bool.and_eq_true, decide_eq_true_eq]
        omega
    · rw [if_neg (by simpa using hlt)]
      rw [plusD (by omega) (by omega) _ _ hb]
      congr 2
      · congr 1; omega
      · apply bool_iff
        simp only [Bool.and_eq_true, decide_eq_true_eq]
        omega
theorem Fits_zeros (m : Nat) (b : Bool) (e e1 e2 e3 : Int) : ref04_Fits_l1 ⟨digs m, b⟩ e e1 e2 e3 (8 - 4) 4 = ref04_Fits_l1 ⟨digs m, b⟩ e e1 e2 e3 0 8 := by
  have step : ∀ k i, (digs m)[i]? = some 0 → ref04_Fits_l1 ⟨digs m, b⟩ e e1 e2 e3 (k + 1) i = ref04_Fits_l1 ⟨digs m, b⟩ e e1 e2 e3 k (i + 1) := by
    intro k i h
    conv => lhs; unfold ref04_Fits_l1
    rw [idx_nat]
    simp only [h, Option.bind_some]
    rw [if_neg (by decide)]
  show ref04_Fits_l1 _ _ _ _ _ (3 + 1) 4 = _
  rw [step 3 4 rfl]
  show ref04_Fits_l1 _ _ _ _ _ (2 + 1) 5 = _
  rw [step 2 5 rfl]
  show ref04_Fits_l1 _ _ _ _ _ (1 + 1) 6 = _
  rw [step 1 6 rfl]
  show ref04_Fits_l1 _ _ _ _ _ (0 + 1) 7 = _
  rw [step 0 7 rfl]
theorem two32 : (2 : Int) ^ (min (Int.toNat (32 : Int)) IntKind.u64.bits) = ((4294967296 : Nat) : Int) := by
  have : (2 : Int) ^ (min (Int.toNat (32 : Int)) IntKind.u64.bits) = 4294967296 := by decide
  rw [this]; rfl
theorem shl_add (d e : Nat) (hd : d < 4294967296) (he : e < 4294967296) : IntKind.u64.wrap (IntKind.u64.wrap ((d : Int) * 2 ^ (min (Int.toNat (32 : Int)) IntKind.u64.bits)) + (e : Int)) = ((d * 4294967296 + e : Nat) : Int) := by
  have e0 : (2 : Int) ^ (min (Int.toNat (32 : Int)) IntKind.u64.bits) = ((4294967296 : Nat) : Int) := two32
  rw [e0, ← Int.natCast_mul, wrapN (by omega), ← Int.natCast_add, wrapN (by omega)]
theorem Small_eq {z : Int} (h : z.natAbs < 340282366920938463463374607431768211456) : ∃ n, ref04_Small (bigOf z) = some (n, decide (r64 z)) ∧ (r64 z → n = z) := by
  unfold ref04_Small ref04_Fits bigOf
  generalize hm : z.natAbs = m at h ⊢
  have i3 : idx (digs m) 3 = some ((m / 79228162514264337593543950336 % 4294967296 : Nat) : Int) := rfl
  have i2 : idx (digs m) 2 = some ((m / 18446744073709551616 % 4294967296 : Nat) : Int) := rfl
  have i1 : idx (digs m) 1 = some ((m / 4294967296 % 4294967296 : Nat) : Int) := rfl
  have i0 : idx (digs m) 0 = some ((m % 4294967296 : Nat) : Int) := rfl
  simp only [i3, i2, i1, i0, Option.bind_some]
  rw [Fits_zeros]
  unfold ref04_Fits_l1
  rw [shl_add _ _ (Nat.mod_lt _ (by decide)) (Nat.mod_lt _ (by decide)), shl_add _ _ (Nat.mod_lt _ (by decide)) (Nat.mod_lt _ (by decide))]
  have hhi : m / 79228162514264337593543950336 % 4294967296 * 4294967296 + m / 18446744073709551616 % 4294967296 = m / 18446744073709551616 := by omega
  have hlo : m / 4294967296 % 4294967296 * 4294967296 + m % 4294967296 = m % 18446744073709551616 := by
    have := Nat.mod_mul (x := m) (a := 4294967296) (b := 4294967296)
    rw [show 4294967296 * 4294967296 = 18446744073709551616 from rfl] at this
    rw [this, Nat.mul_comm, Nat.add_comm]
  rw [hhi, hlo]
  have bhi : m / 18446744073709551616 < 18446744073709551616 := by omega
  have blo : m % 18446744073709551616 < 18446744073709551616 := Nat.mod_lt _ (by decide)
  have hsplit : m = m / 18446744073709551616 * 18446744073709551616 + m % 18446744073709551616 := by omega
  generalize m / 18446744073709551616 = hi at bhi hsplit ⊢
  generalize m % 18446744073709551616 = lo at blo hsplit ⊢
  by_cases hz : z < 0
  · have hzm : z = -(m : Int) := by omega
    have hm0 : 0 < m := by omega
    rw [if_pos (by simpa using hz), cpl_eq blo, cpl_eq bhi]
    have ew : IntKind.u64.wrap (((18446744073709551615 - lo : Nat) : Int) + 1) = (((18446744073709551616 - lo) % 18446744073709551616 : Nat) : Int) := by rw [IntKind.wrap_u64]; omega
    have eh : IntKind.u64.wrap (((18446744073709551615 - hi : Nat) : Int) + 1) = (((18446744073709551616 - hi) % 18446744073709551616 : Nat) : Int) := by rw [IntKind.wrap_u64]; omega
    rw [ew, eh]
    unfold ref04_Fits_k1
    simp only [hz, decide_true]
    by_cases hl0 : lo = 0
    · subst hl0
      rw [if_pos (by decide)]
      simp only [Option.bind_some]
      refine ⟨IntKind.i64.wrap (((18446744073709551616 - 0) % 18446744073709551616 : Nat) : Int), ?_, fun hr => ?_⟩
      · congr 2
        have hnr : ¬ r64 z := by unfold r64; omega
        have e0 : IntKind.i64.wrap (((18446744073709551616 - 0) % 18446744073709551616 : Nat) : Int) = 0 := by decide
        rw [e0]
        have hne : (IntKind.i64.wrap (((18446744073709551616 - hi) % 18446744073709551616 : Nat) : Int) == 0) = false := by
          simp only [beq_eq_false_iff_ne, ne_eq]
          rw [IntKind.wrap_i64]; omega
        rw [hne]
        simp [hnr]
      · unfold r64 at hr; omega
    · rw [if_neg (by simp; omega)]
      simp only [Option.bind_some]
      have e0 : IntKind.i64.wrap (((18446744073709551616 - lo) % 18446744073709551616 : Nat) : Int) = if lo ≤ 9223372036854775808 then -(lo : Int) else 18446744073709551616 - (lo : Int) := by
        rw [IntKind.wrap_i64]; split <;> omega
      refine ⟨IntKind.i64.wrap (((18446744073709551616 - lo) % 18446744073709551616 : Nat) : Int), ?_, fun hr => ?_⟩
      · congr 2
        apply bool_iff
        rw [e0]
        simp only [Bool.and_eq_true, Bool.or_eq_true, beq_iff_eq, decide_eq_true_eq]
        rw [IntKind.wrap_i64]
        unfold r64
        constructor
        · rintro ⟨h1, h2⟩
          split at h2 <;> omega
        · intro h1
          have : hi = 0 := by omega
          subst this
          have : lo ≤ 9223372036854775808 := by omega
          rw [if_pos this]
          refine ⟨by omega, .inr ⟨by omega, by omega⟩⟩
      · rw [e0]
        unfold r64 at hr
        have : hi = 0 := by omega
        subst this
        rw [if_pos (by omega)]; omega
  · have hzm : z = (m : Int) := by omega
    rw [if_neg (by simpa using hz)]
    unfold ref04_Fits_k1
    simp only [hz, decide_false, Option.bind_some]
    have e0 : IntKind.i64.wrap (lo : Int) = if lo ≤ 9223372036854775807 then (lo : Int) else (lo : Int) - 18446744073709551616 := by
      rw [IntKind.wrap_i64]; split <;> omega
    refine ⟨IntKind.i64.wrap (lo : Int), ?_, fun hr => ?_⟩
    · congr 2
      apply bool_iff
      rw [e0]
      simp only [Bool.and_eq_true, Bool.or_eq_true, beq_iff_eq, decide_eq_true_eq, decide_eq_false_iff_not]
      rw [IntKind.wrap_i64]
      unfold r64
      constructor
      · rintro ⟨h1, h2⟩
        split at h2 <;> omega
      · intro h1
        have : hi = 0 := by omega
        subst this
        rw [if_pos (by omega)]
        refine ⟨by omega, .inl ⟨by omega, by omega⟩⟩
    · rw [e0]
      unfold r64 at hr
      rw [if_pos (by omega)]; omega
end Go.Proofs.YtdhledkpgaeoaaaGreatDoor

