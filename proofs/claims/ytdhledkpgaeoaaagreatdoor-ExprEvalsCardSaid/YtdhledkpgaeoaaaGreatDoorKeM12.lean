/- Facts of this claim: M12. -/
import Derived.Test.YtdhledkpgaeoaaaGreatDoorKeM11
namespace Go.Proofs.YtdhledkpgaeoaaaGreatDoor
open Go

theorem times_step (aa bb ds : List Int) (s t o : Bool) (nx : Nat → DBig → Option DBig) (i k j : Nat) (hij : i + j < 8) (p e3 e4 c : Nat) (h1 : ds[i + j]? = some (p : Int)) (h2 : aa[i]? = some (e3 : Int)) (h3 : bb[j]? = some (e4 : Int)) (b1 : p < 4294967296) (b2 : e3 < 4294967296) (b3 : e4 < 4294967296) (b4 : c < 4294967296) :
    ref04_Times_l2 ⟨aa, s⟩ ⟨bb, t⟩ nx i (k + 1) j (c : Int) ⟨ds, o⟩ = ref04_Times_l2 ⟨aa, s⟩ ⟨bb, t⟩ nx i k (j + 1) (((p + e3 * e4 + c) / 4294967296 : Nat) : Int) ⟨ds.set (i + j) (((p + e3 * e4 + c) % 4294967296 : Nat) : Int), o⟩ := by
  conv => lhs; unfold ref04_Times_l2
  have hm : e3 * e4 ≤ 4294967295 * 4294967295 := Nat.mul_le_mul (by omega) (by omega)
  have hw : IntKind.i64.wrap ((i : Int) + (j : Int)) = ((i + j : Nat) : Int) := by rw [wrapI (by omega) (by omega)]; omega
  rw [hw, inR8 hij, idx_nat, h1, idx_nat, h2, idx_nat, h3]
  simp only [Option.bind_some]
  rw [← Int.natCast_mul, wrapN (n := e3 * e4) (by omega), ← Int.natCast_add, wrapN (n := p + e3 * e4) (by omega), ← Int.natCast_add, wrapN (n := p + e3 * e4 + c) (by omega), shr32, tmodN]
  rfl
theorem times_end (aa bb : DBig) (ds : List Int) (o : Bool) (nx : Nat → DBig → Option DBig) (i j : Nat) (hi : i < 4) (c : Int) : ref04_Times_l2 aa bb nx i 0 j c ⟨ds, o⟩ = nx (i + 1) ⟨ds.set (i + 4) c, o⟩ := by
  conv => lhs; unfold ref04_Times_l2
  have hw : IntKind.i64.wrap ((i : Int) + (4 : Int)) = ((i + 4 : Nat) : Int) := by rw [wrapI (by omega) (by omega)]; omega
  rw [hw, inR8 (by omega)]
  rfl
theorem times_row (aa bb ds : List Int) (s t o : Bool) (nx : Nat → DBig → Option DBig) (i : Nat) (hi : i < 4) (x y0 y1 p0 p1 p2 p3 : Nat) (ha : aa[i]? = some (x : Int)) (h0 : bb[0]? = some (y0 : Int)) (h1 : bb[1]? = some (y1 : Int)) (h2 : bb[2]? = some 0) (h3 : bb[3]? = some 0)
    (q0 : ds[i]? = some (p0 : Int)) (q1 : ds[i + 1]? = some (p1 : Int)) (q2 : ds[i + 2]? = some (p2 : Int)) (q3 : ds[i + 3]? = some (p3 : Int)) (bx : x < 4294967296) (by0 : y0 < 4294967296) (by1 : y1 < 4294967296) (b0 : p0 < 4294967296) (b1 : p1 < 4294967296) (b2 : p2 < 4294967296) (b3 : p3 < 4294967296)
    (c1 c2 c3 c4 : Nat) (e1 : c1 = (p0 + x * y0 + 0) / 4294967296) (e2 : c2 = (p1 + x * y1 + c1) / 4294967296) (e3 : c3 = (p2 + x * 0 + c2) / 4294967296) (e4 : c4 = (p3 + x * 0 + c3) / 4294967296) :
    ref04_Times_l2 ⟨aa, s⟩ ⟨bb, t⟩ nx i 4 0 0 ⟨ds, o⟩ = nx (i + 1) ⟨((((ds.set i (((p0 + x * y0 + 0) % 4294967296 : Nat) : Int)).set (i + 1) (((p1 + x * y1 + c1) % 4294967296 : Nat) : Int)).set (i + 2) (((p2 + x * 0 + c2) % 4294967296 : Nat) : Int)).set (i + 3) (((p3 + x * 0 + c3) % 4294967296 : Nat) : Int)).set (i + 4) ((c4 : Nat) : Int), o⟩ := by
  have m0 : x * y0 ≤ 4294967295 * 4294967295 := Nat.mul_le_mul (by omega) (by omega)
  have m1 : x * y1 ≤ 4294967295 * 4294967295 := Nat.mul_le_mul (by omega) (by omega)
  have k1 : c1 < 4294967296 := by omega
  have k2 : c2 < 4294967296 := by omega
  have k3 : c3 < 4294967296 := by omega
  rw [show (0 : Int) = ((0 : Nat) : Int) from rfl, times_step aa bb ds s t o nx i 3 0 (by omega) p0 x y0 0 q0 ha h0 b0 bx by0 (by omega), ← e1]
  rw [times_step aa bb _ s t o nx i 2 1 (by omega) p1 x y1 c1 (by rw [List.getElem?_set_ne (by omega)]; exact q1) ha h1 b1 bx by1 k1, ← e2]
  rw [times_step aa bb _ s t o nx i 1 2 (by omega) p2 x 0 c2 (by rw [List.getElem?_set_ne (by omega), List.getElem?_set_ne (by omega)]; exact q2) ha h2 b2 bx (by omega) k2, ← e3]
  rw [times_step aa bb _ s t o nx i 0 3 (by omega) p3 x 0 c3 (by rw [List.getElem?_set_ne (by omega), List.getElem?_set_ne (by omega), List.getElem?_set_ne (by omega)]; exact q3) ha h3 b3 bx (by omega) k3, ← e4]
  rw [times_end _ _ _ _ _ _ _ hi]
  rfl
theorem digsI (m : Nat) : digs m = [((m % 4294967296 : Nat) : Int), ((m / 4294967296 % 4294967296 : Nat) : Int), ((m / 4294967296 / 4294967296 % 4294967296 : Nat) : Int), ((m / 4294967296 / 4294967296 / 4294967296 % 4294967296 : Nat) : Int), 0, 0, 0, 0] := by
  unfold digs
  rw [Nat.div_div_eq_div_mul, Nat.div_div_eq_div_mul]
theorem times_digs {p0 p1 q0 q1 : Nat} (hp0 : p0 < 4294967296) (hp1 : p1 < 4294967296) (hq0 : q0 < 4294967296) (hq1 : q1 < 4294967296) (s t : Bool) (m : Nat) (hm : m = (p1 * 4294967296 + p0) * (q1 * 4294967296 + q0)) (hlt : m < 340282366920938463463374607431768211456) :
    ref04_Times_l1 ⟨[(p0 : Int), (p1 : Int), 0, 0, 0, 0, 0, 0], s⟩ ⟨[(q0 : Int), (q1 : Int), 0, 0, 0, 0, 0, 0], t⟩ 4 0 ⟨List.replicate 8 0, false⟩ = some ⟨digs m, (s != t) && decide (m ≠ 0)⟩ := by
  have hA : p0 * q0 ≤ 4294967295 * 4294967295 := Nat.mul_le_mul (by omega) (by omega)
  have hC : p0 * q1 ≤ 4294967295 * 4294967295 := Nat.mul_le_mul (by omega) (by omega)
  have hD : p1 * q0 ≤ 4294967295 * 4294967295 := Nat.mul_le_mul (by omega) (by omega)
  have hE : p1 * q1 ≤ 4294967295 * 4294967295 := Nat.mul_le_mul (by omega) (by omega)
  have hme : m = 4294967296 * (4294967296 * (p1 * q1) + p1 * q0 + p0 * q1) + p0 * q0 := by
    rw [hm]
    simp only [Nat.add_mul, Nat.mul_add]
    have h1 : p1 * 4294967296 * (q1 * 4294967296) = 4294967296 * (4294967296 * (p1 * q1)) := by
      rw [Nat.mul_mul_mul_comm, Nat.mul_comm (p1 * q1), Nat.mul_assoc]
    have h2 : p1 * 4294967296 * q0 = 4294967296 * (p1 * q0) := by rw [Nat.mul_right_comm, Nat.mul_comm]
    have h3 : p0 * (q1 * 4294967296) = 4294967296 * (p0 * q1) := by rw [← Nat.mul_assoc, Nat.mul_comm]
    rw [h1, h2, h3]; omega
  obtain ⟨c1, e1⟩ : ∃ c, c = (0 + p0 * q0 + 0) / 4294967296 := ⟨_, rfl⟩
  obtain ⟨c2, e2⟩ : ∃ c, c = (0 + p0 * q1 + c1) / 4294967296 := ⟨_, rfl⟩
  have k1 : c1 < 4294967296 := by omega
  have k2 : c2 < 4294967296 := by omega
  obtain ⟨d1, f1⟩ : ∃ c, c = (0 + p0 * q1 + c1) % 4294967296 := ⟨_, rfl⟩
  have l1 : d1 < 4294967296 := by omega
  obtain ⟨c3, e3⟩ : ∃ c, c = (d1 + p1 * q0 + 0) / 4294967296 := ⟨_, rfl⟩
  have k3 : c3 < 4294967296 := by omega
  obtain ⟨c4, e4⟩ : ∃ c, c = (c2 + p1 * q1 + c3) / 4294967296 := ⟨_, rfl⟩
  have k4 : c4 < 4294967296 := by omega
  obtain ⟨d0, f0⟩ : ∃ c, c = (0 + p0 * q0 + 0) % 4294967296 := ⟨_, rfl⟩
  obtain ⟨g1, f2⟩ : ∃ c, c = (d1 + p1 * q0 + 0) % 4294967296 := ⟨_, rfl⟩
  obtain ⟨g2, f3⟩ : ∃ c, c = (c2 + p1 * q1 + c3) % 4294967296 := ⟨_, rfl⟩
  have l0 : d0 < 4294967296 := by omega
  have l2 : g1 < 4294967296 := by omega
  have l3 : g2 < 4294967296 := by omega
  have z : ∀ x : Nat, 0 + x * 0 + 0 = 0 := fun x => by omega
  -- row 0
  conv => lhs; unfold ref04_Times_l1
  rw [times_row _ _ _ s t false _ 0 (by omega) p0 q0 q1 0 0 0 0 rfl rfl rfl rfl rfl rfl rfl rfl rfl hp0 hq0 hq1 (by omega) (by omega) (by omega) (by omega) c1 c2 0 0 e1 e2 (by omega) (by omega)]
  rw [← f0, ← f1, show (0 + p0 * 0 + c2) % 4294967296 = c2 from by omega, show (0 + p0 * 0 + 0) % 4294967296 = 0 from by omega]
  show ref04_Times_l1 _ _ 3 1 ⟨[(d0 : Int), (d1 : Int), (c2 : Int), 0, 0, 0, 0, 0], false⟩ = _
  -- row 1
  conv => lhs; unfold ref04_Times_l1
  rw [times_row _ _ _ s t false _ 1 (by omega) p1 q0 q1 d1 c2 0 0 rfl rfl rfl rfl rfl rfl rfl rfl rfl hp1 hq0 hq1 l1 k2 (by omega) (by omega) c3 c4 0 0 e3 e4 (by omega) (by omega)]
  rw [← f2, ← f3, show (0 + p1 * 0 + c4) % 4294967296 = c4 from by omega, show (0 + p1 * 0 + 0) % 4294967296 = 0 from by omega]
  show ref04_Times_l1 _ _ 2 2 ⟨[(d0 : Int), (g1 : Int), (g2 : Int), (c4 : Int), 0, 0, 0, 0], false⟩ = _
  -- row 2
  conv => lhs; unfold ref04_Times_l1
  rw [times_row _ _ _ s t false _ 2 (by omega) 0 q0 q1 g2 c4 0 0 rfl rfl rfl rfl rfl rfl rfl rfl rfl (by omega) hq0 hq1 l3 k4 (by omega) (by omega) 0 0 0 0 (by omega) (by omega) (by omega) (by omega)]
  rw [show (g2 + 0 * q0 + 0) % 4294967296 = g2 from by omega, show (c4 + 0 * q1 + 0) % 4294967296 = c4 from by omega]
  show ref04_Times_l1 _ _ 1 3 ⟨[(d0 : Int), (g1 : Int), (g2 : Int), (c4 : Int), 0, 0, 0, 0], false⟩ = _
  -- row 3
  conv => lhs; unfold ref04_Times_l1
  rw [times_row _ _ _ s t false _ 3 (by omega) 0 q0 q1 c4 0 0 0 rfl rfl rfl rfl rfl rfl rfl rfl rfl (by omega) hq0 hq1 k4 (by omega) (by omega) (by omega) 0 0 0 0 (by omega) (by omega) (by omega) (by omega)]
  rw [show (c4 + 0 * q0 + 0) % 4294967296 = c4 from by omega, show (0 + 0 * q1 + 0) % 4294967296 = 0 from by omega]
  show ref04_Times_l1 _ _ 0 4 ⟨[(d0 : Int), (g1 : Int), (g2 : Int), (c4 : Int), 0, 0, 0, 0], false⟩ = _
  have hd : [(d0 : Int), (g1 : Int), (g2 : Int), (c4 : Int), 0, 0, 0, 0] = digs m := by
    rw [digsI]
    generalize p0 * q0 = A at *
    generalize p0 * q1 = C at *
    generalize p1 * q0 = D at *
    generalize p1 * q1 = E at *
    have r1 : m / 4294967296 = 4294967296 * E + D + C + c1 := by omega
    have r2 : m / 4294967296 / 4294967296 = c2 + E + c3 := by rw [r1]; omega
    have r3 : m / 4294967296 / 4294967296 / 4294967296 = c4 := by rw [r2]; omega
    have w0 : m % 4294967296 = d0 := by omega
    have w1 : (4294967296 * E + D + C + c1) % 4294967296 = g1 := by omega
    have w2 : (c2 + E + c3) % 4294967296 = g2 := f3.symm
    have w3 : c4 % 4294967296 = c4 := by omega
    rw [r3, r2, r1, w0, w1, w2, w3]
  rw [hd]
  unfold ref04_Times_l1
  cases hst : (s != t) with
  | false => rfl
  | true =>
    simp only [if_true]
    rw [zero_big hlt]
    simp
theorem Times_eq {x y : Int} (hx : x.natAbs ≤ 9223372036854775808) (hy : y.natAbs ≤ 9223372036854775808) : ref04_Times (bigOf x) (bigOf y) = some (bigOf (x * y)) := by
  have hpr := prod_abs x y
  have hna : (x * y).natAbs = x.natAbs * y.natAbs := Int.natAbs_mul x y
  have hle : x.natAbs * y.natAbs ≤ 9223372036854775808 * 9223372036854775808 := Nat.mul_le_mul hx hy
  unfold ref04_Times bigOf
  rw [digs2 (m := x.natAbs) (by omega), digs2 (m := y.natAbs) (by omega)]
  rw [times_digs (m := x.natAbs * y.natAbs) (by omega) (by omega) (by omega) (by omega) _ _ (by congr 1 <;> omega) (by omega)]
  rw [hna]
  congr 2
  apply bool_iff
  simp only [Bool.and_eq_true, decide_eq_true_eq]
  generalize x.natAbs * y.natAbs = m at *
  generalize (decide (x < 0) != decide (y < 0)) = b at *
  rw [hpr]
  cases b with
  | true => simp only [if_true, true_and]; omega
  | false => simp only [Bool.false_eq_true, if_false, false_and]; constructor; exact False.elim; omega
end Go.Proofs.YtdhledkpgaeoaaaGreatDoor

