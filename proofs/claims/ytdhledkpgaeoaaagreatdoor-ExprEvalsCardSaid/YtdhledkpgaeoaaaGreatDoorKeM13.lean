/- Facts of this claim: M13. -/
import Derived.Test.YtdhledkpgaeoaaaGreatDoorKeM12
namespace Go.Proofs.YtdhledkpgaeoaaaGreatDoor
open Go

theorem i8_1 (a b : Int) : idx [a, b, 0, 0, 0, 0, 0, 0] 1 = some b := rfl
theorem i8_0 (a b : Int) : idx [a, b, 0, 0, 0, 0, 0, 0] 0 = some a := rfl
theorem set01 (a b : Int) : ((List.replicate 8 (0 : Int)).set 0 a).set 1 b = [a, b, 0, 0, 0, 0, 0, 0] := rfl
theorem quot_digs (p0 p1 q0 q1 : Nat) (s t : Bool) (hp0 : p0 < 4294967296) (hp1 : p1 < 4294967296) (hq0 : q0 < 4294967296) (hq1 : q1 < 4294967296) (p q : Nat) (hp : p1 * 4294967296 + p0 = p) (hq : q1 * 4294967296 + q0 = q) (h0 : q ≠ 0) :
    ref04_Quotient ⟨[(p0 : Int), (p1 : Int), 0, 0, 0, 0, 0, 0], s⟩ ⟨[(q0 : Int), (q1 : Int), 0, 0, 0, 0, 0, 0], t⟩ = some ⟨digs (p / q), (s != t) && (((p / q : Nat) : Int) != 0)⟩ := by
  unfold ref04_Quotient
  rw [i8_1, i8_0, i8_1, i8_0]
  rw [Option.bind_some, Option.bind_some, Option.bind_some, Option.bind_some]
  rw [shl_add _ _ hp1 hp0, shl_add _ _ hq1 hq0, hp, hq]
  have hn : nz (q : Int) = some () := by
    unfold nz
    rw [if_neg (by omega)]
  have hle : p / q ≤ p := Nat.div_le_self _ _
  have ht : ((p : Nat) : Int).tdiv (q : Int) = ((p / q : Nat) : Int) := rfl
  rw [hn, Option.bind_some, ht, wrapN (by omega), tmodN, shr32, set01, digs2 (by omega)]
theorem Quotient_eq {x y : Int} (hx : x.natAbs ≤ 9223372036854775808) (hy : y.natAbs ≤ 9223372036854775808) (h0 : y ≠ 0) : ref04_Quotient (bigOf x) (bigOf y) = some (bigOf (x.tdiv y)) := by
  have hq := quot_abs x y
  have hna : (x.tdiv y).natAbs = x.natAbs / y.natAbs := Int.natAbs_tdiv x y
  unfold bigOf
  rw [digs2 (m := x.natAbs) (by omega), digs2 (m := y.natAbs) (by omega)]
  rw [quot_digs _ _ _ _ _ _ (by omega) (by omega) (by omega) (by omega) x.natAbs y.natAbs (by omega) (by omega) (by omega), hna]
  generalize x.natAbs / y.natAbs = m at *
  have hf : ((decide (x < 0) != decide (y < 0)) && ((m : Int) != 0)) = decide (x.tdiv y < 0) := by
    apply bool_iff
    rw [hq]
    generalize (decide (x < 0) != decide (y < 0)) = b
    cases b with
    | true => simp only [Bool.true_and, bne_iff_ne, ne_eq, decide_eq_true_eq, if_true]; omega
    | false => simp only [Bool.false_and, Bool.false_eq_true, if_false, decide_eq_true_eq, false_iff]; omega
  rw [hf]
theorem small_res {z : Int} (h : z.natAbs < 340282366920938463463374607431768211456) : ((ref04_Small (bigOf z)).bind fun r => if (!r.2) = true then some (zV, (140 : Int)) else (ref02_Int r.1).bind fun v => some (v, (0 : Int))) = some (if r64 z then (iV z, 0) else (zV, 140)) := by
  obtain ⟨n, h1, h2⟩ := Small_eq h
  rw [h1]
  simp only [Option.bind_some]
  by_cases hr : r64 z
  · rw [if_pos hr, h2 hr, if_neg (by simp [hr])]; rfl
  · rw [if_neg hr, if_pos (by simp [hr])]
theorem term_eq (v : DValue) (h : rightV v = true) : ref04_Term v = some ((v.Kind == 0) || (v.Kind == 2)) := by
  unfold ref04_Term
  rw [ref02_Right_eq, h]; rfl
theorem abs64 {x : Int} (h : r64 x) : x.natAbs ≤ 9223372036854775808 := by unfold r64 at h; omega
theorem arV_bad {tag : Int} {a b : DValue} (h : ¬ ((a.Kind = 0 ∨ a.Kind = 2) ∧ (b.Kind = 0 ∨ b.Kind = 2))) : arV tag a b = (zV, 2) := if_neg h
theorem arV_null {tag : Int} {a b : DValue} (h : (a.Kind = 0 ∨ a.Kind = 2) ∧ (b.Kind = 0 ∨ b.Kind = 2)) (h2 : a.Kind = 0 ∨ b.Kind = 0) : arV tag a b = (zV, 0) := by
  unfold arV
  rw [if_pos h, if_pos h2]
theorem arV_num {tag : Int} {a b : DValue} (ht : tag = 12 ∨ tag = 13 ∨ tag = 14 ∨ tag = 15) (ha : Pl a) (hb : Pl b) (h : (a.Kind = 0 ∨ a.Kind = 2) ∧ (b.Kind = 0 ∨ b.Kind = 2)) (h2 : ¬ (a.Kind = 0 ∨ b.Kind = 0)) : arV tag a b = resV tag a.N b.N := by
  unfold arV
  rw [if_pos h, if_neg h2, arP_res ht ha.r64 hb.r64]
def opOf (tag : Int) : Int := if tag = 12 then 43 else if tag = 13 then 45 else if tag = 14 then 42 else 47
theorem do12 {x y : Int} (hx : r64 x) (hy : r64 y) : ((ref04_Int x).bind fun r4 => (ref04_Int y).bind fun r5 => (ref04_Plus r4 r5).bind fun r6 => (ref04_Small r6).bind fun r7 => if (!r7.2) = true then some (zV, (140 : Int)) else (ref02_Int r7.1).bind fun r8 => some (r8, (0 : Int))) = some (resV 12 x y) := by
  rw [ref04_Int_eq hx, ref04_Int_eq hy, Option.bind_some, Option.bind_some, Plus_eq (abs64 hx) (abs64 hy), Option.bind_some, resV_some (exZ12 _ _)]
  have := abs64 hx
  have := abs64 hy
  exact small_res (by omega)
theorem do13 {x y : Int} (hx : r64 x) (hy : r64 y) : ((ref04_Int x).bind fun r9 => (ref04_Int y).bind fun r10 => (ref04_Turned r10).bind fun r11 => (ref04_Plus r9 r11).bind fun r12 => (ref04_Small r12).bind fun r13 => if (!r13.2) = true then some (zV, (140 : Int)) else (ref02_Int r13.1).bind fun r14 => some (r14, (0 : Int))) = some (resV 13 x y) := by
  have h1 := abs64 hx
  have h2 := abs64 hy
  rw [ref04_Int_eq hx, ref04_Int_eq hy, Option.bind_some, Option.bind_some, Turned_eq (by omega), Option.bind_some, Plus_eq h1 (by rw [Int.natAbs_neg]; exact h2), Option.bind_some, resV_some (exZ13 _ _), ← Int.sub_eq_add_neg]
  exact small_res (by omega)
theorem do14 {x y : Int} (hx : r64 x) (hy : r64 y) : ((ref04_Int x).bind fun r15 => (ref04_Int y).bind fun r16 => (ref04_Times r15 r16).bind fun r17 => (ref04_Small r17).bind fun r18 => if (!r18.2) = true then some (zV, (140 : Int)) else (ref02_Int r18.1).bind fun r19 => some (r19, (0 : Int))) = some (resV 14 x y) := by
  have h1 := abs64 hx
  have h2 := abs64 hy
  rw [ref04_Int_eq hx, ref04_Int_eq hy, Option.bind_some, Option.bind_some, Times_eq h1 h2, Option.bind_some, resV_some (exZ14 _ _)]
  have h3 : x.natAbs * y.natAbs ≤ 85070591730234615865843651857942052864 := Nat.mul_le_mul h1 h2
  exact small_res (by rw [Int.natAbs_mul]; omega)
theorem do15 {x y : Int} (hx : r64 x) (hy : r64 y) (h0 : y ≠ 0) : ((ref04_Int x).bind fun r20 => (ref04_Int y).bind fun r21 => (ref04_Quotient r20 r21).bind fun r22 => (ref04_Small r22).bind fun r23 => if (!r23.2) = true then some (zV, (140 : Int)) else (ref02_Int r23.1).bind fun r24 => some (r24, (0 : Int))) = some (resV 15 x y) := by
  have h1 := abs64 hx
  have h2 := abs64 hy
  rw [ref04_Int_eq hx, ref04_Int_eq hy, Option.bind_some, Option.bind_some, Quotient_eq h1 h2 h0, Option.bind_some, resV_some (z := x.tdiv y) (by rw [exZ15, if_neg h0])]
  have h3 : (x.tdiv y).natAbs = x.natAbs / y.natAbs := Int.natAbs_tdiv _ _
  have h4 : x.natAbs / y.natAbs ≤ x.natAbs := Nat.div_le_self _ _
  exact small_res (by omega)
theorem Do_eq {tag : Int} {a b : DValue} (ht : tag = 12 ∨ tag = 13 ∨ tag = 14 ∨ tag = 15) (ha : Pl a) (hb : Pl b) : ref04_Do (opOf tag) a b = some (arV tag a b) := by
  have hra := ha.r64
  have hrb := hb.r64
  unfold ref04_Do
  rw [ref02_Right_eq, ref02_Right_eq, ha.right, hb.right, term_eq a ha.right, term_eq b hb.right]
  rw [Option.bind_some, if_pos (by decide), Option.bind_some, Option.bind_some, if_neg (by decide), Option.bind_some, Option.bind_some]
  by_cases h1 : a.Kind = 0 ∨ a.Kind = 2
  · have e1 : ((a.Kind == 0) || (a.Kind == 2)) = true := by simpa using h1
    rw [e1, if_pos (by decide)]
    by_cases h2 : b.Kind = 0 ∨ b.Kind = 2
    · have e2 : ((b.Kind == 0) || (b.Kind == 2)) = true := by simpa using h2
      rw [e2, Option.bind_some, if_neg (by decide)]
      by_cases h3 : a.Kind = 0 ∨ b.Kind = 0
      · rw [arV_null ⟨h1, h2⟩ h3, if_pos (by simpa using h3)]; rfl
      · rw [arV_num ht ha hb ⟨h1, h2⟩ h3, if_neg (by simpa using h3)]
        rcases ht with rfl | rfl | rfl | rfl
        · rw [if_pos (by decide)]
          exact do12 hra hrb
        · rw [if_neg (by decide), if_pos (by decide)]
          exact do13 hra hrb
        · rw [if_neg (by decide), if_neg (by decide), if_pos (by decide)]
          exact do14 hra hrb
        · rw [if_neg (by decide), if_neg (by decide), if_neg (by decide)]
          by_cases h0 : b.N = 0
          · rw [if_pos (by simpa using h0), resV_none (by rw [exZ15, if_pos h0])]; rfl
          · rw [if_neg (by simpa using h0)]
            exact do15 hra hrb h0
    · have e2 : ((b.Kind == 0) || (b.Kind == 2)) = false := by simpa using h2
      rw [e2, Option.bind_some, if_pos (by decide), arV_bad (fun h => h2 h.2)]; rfl
  · have e1 : ((a.Kind == 0) || (a.Kind == 2)) = false := by simpa using h1
    rw [e1, if_neg (by decide), Option.bind_some, if_pos (by decide), arV_bad (fun h => h1 h.1)]; rfl
end Go.Proofs.YtdhledkpgaeoaaaGreatDoor

