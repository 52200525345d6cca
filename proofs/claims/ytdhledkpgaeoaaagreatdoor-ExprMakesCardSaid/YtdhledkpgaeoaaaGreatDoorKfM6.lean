/- Facts of this claim: M6. -/
import Derived.Test.YtdhledkpgaeoaaaGreatDoorKfM5
namespace Go.Proofs.YtdhledkpgaeoaaaGreatDoor
open Go

def sh (s : Nat) (x : Int) : Int := if 0 ≤ x then x + (s : Int) else x
def shN (s : Nat) (n : DENode) : DENode := put2 n (sh s n.L) (sh s n.R)
def bnd (n : DENode) : Prop := n.L ≤ 1000000 ∧ n.R ≤ 1000000
theorem flat_bnd (t : Tr) : ∀ s, s + t.size ≤ 1000000 → ∀ n ∈ t.flat s, bnd n := by
  induction t with
  | lf m => intro s _ n hn; simp only [Tr.flat, List.mem_singleton] at hn; subst hn; exact ⟨by simp [put2], by simp [put2]⟩
  | un m a ih =>
    intro s hs n hn
    simp only [Tr.size] at hs
    simp only [Tr.flat, List.mem_append, List.mem_singleton] at hn
    rcases hn with hn | rfl
    · exact ih s (by omega) n hn
    · constructor <;> simp only [put2] <;> omega
  | bi m a b iha ihb =>
    intro s hs n hn
    simp only [Tr.size] at hs
    simp only [Tr.flat, List.mem_append, List.mem_singleton] at hn
    rcases hn with (hn | hn) | rfl
    · exact iha s (by omega) n hn
    · exact ihb _ (by omega) n hn
    · constructor <;> simp only [put2] <;> omega
theorem shN_put2 (k : Nat) (n : DENode) (l r : Int) : shN k (put2 n l r) = put2 n (sh k l) (sh k r) := rfl
theorem sh_pos {k : Nat} {x : Int} (h : 0 ≤ x) : sh k x = x + (k : Int) := if_pos h
theorem sh_neg (k : Nat) : sh k (-1) = -1 := rfl
theorem flat_sh (t : Tr) (k : Nat) : ∀ s, (t.flat s).map (shN k) = t.flat (s + k) := by
  induction t with
  | lf m => intro s; rfl
  | un m a ih =>
    intro s
    have := a.size_pos
    simp only [Tr.flat, List.map_append, ih, List.map_cons, List.map_nil, shN_put2, sh_neg]
    rw [sh_pos (by omega), show ((s + a.size : Nat) : Int) - 1 + (k : Int) = ((s + k + a.size : Nat) : Int) - 1 from by omega]
  | bi m a b iha ihb =>
    intro s
    have := a.size_pos
    have := b.size_pos
    simp only [Tr.flat, List.map_append, iha, ihb, List.map_cons, List.map_nil, shN_put2]
    rw [sh_pos (by omega), sh_pos (by omega), show s + a.size + k = s + k + a.size from by omega, show ((s + a.size : Nat) : Int) - 1 + (k : Int) = ((s + k + a.size : Nat) : Int) - 1 from by omega, show ((s + a.size + b.size : Nat) : Int) - 1 + (k : Int) = ((s + k + a.size + b.size : Nat) : Int) - 1 from by omega]
theorem laid_l1 (out : List DENode) (ho : out.length ≤ 1000000) : ∀ (ns out1 : List DENode), (∀ n ∈ ns, bnd n) → out1.length + ns.length ≤ 1000000 → expr_laid_l1 out ns out1 = some (out1 ++ ns.map (shN out.length))
  | [], out1, _, _ => by simp [expr_laid_l1]
  | n :: ns, out1, hb, hl => by
    simp only [List.length_cons] at hl
    obtain ⟨h1, h2⟩ := hb n (List.mem_cons_self ..)
    have ih := laid_l1 out ho ns (out1 ++ [shN out.length n]) (fun m hm => hb m (List.mem_cons_of_mem _ hm)) (by simp; omega)
    have e9 : out1 ++ (n :: ns).map (shN out.length) = out1 ++ [shN out.length n] ++ ns.map (shN out.length) := by simp
    rw [e9]
    unfold expr_laid_l1
    have hk2 : ∀ m, m = shN out.length n → expr_laid_k2 (expr_laid_l1 out ns) out1 m = some (out1 ++ [shN out.length n] ++ ns.map (shN out.length)) := by
      intro m hm
      unfold expr_laid_k2
      rw [app_ok (by simp; omega), hm]
      exact ih
    by_cases hL : 0 ≤ n.L
    · rw [if_pos (by simpa using hL)]
      unfold expr_laid_k1
      rw [wrapI (n := n.L + (out.length : Int)) (by omega) (by omega)]
      by_cases hR : 0 ≤ n.R
      · rw [if_pos (by simpa using hR)]
        dsimp only
        rw [wrapI (n := n.R + (out.length : Int)) (by omega) (by omega)]
        exact hk2 _ (by simp only [shN, put2, sh, if_pos hL, if_pos hR])
      · rw [if_neg (by simpa using hR)]
        exact hk2 _ (by simp only [shN, put2, sh, if_pos hL, if_neg hR])
    · rw [if_neg (by simpa using hL)]
      unfold expr_laid_k1
      by_cases hR : 0 ≤ n.R
      · rw [if_pos (by simpa using hR)]
        rw [wrapI (n := n.R + (out.length : Int)) (by omega) (by omega)]
        exact hk2 _ (by simp only [shN, put2, sh, if_neg hL, if_pos hR])
      · rw [if_neg (by simpa using hR)]
        exact hk2 _ (by simp only [shN, put2, sh, if_neg hL, if_neg hR])
theorem laid_flat (out : List DENode) (t : Tr) (h : out.length + t.size ≤ 1000000) : expr_laid out ⟨t.flat 0⟩ = some (out ++ t.flat out.length) := by
  unfold expr_laid
  rw [laid_l1 out (by omega) _ _ (flat_bnd t 0 (by omega)) (by rw [t.flat_len]; exact h), flat_sh]
  simp
theorem joined0 (n : DENode) : expr_joined n [] = some ⟨(Tr.lf n).flat 0⟩ := by
  unfold expr_joined expr_joined_l1
  rw [show idx [(-1 : Int), -1] 0 = some (-1) from rfl, show idx [(-1 : Int), -1] 1 = some (-1) from rfl]
  simp only [Option.bind_some]
  rw [app_ok (by simp)]
  rfl
theorem joined1 (n : DENode) (a : Tr) (h : a.size ≤ 100000) : expr_joined n [⟨a.flat 0⟩] = some ⟨(Tr.un n a).flat 0⟩ := by
  unfold expr_joined expr_joined_l1
  rw [laid_flat [] a (by simp; omega)]
  simp only [Option.bind_some, List.nil_append, List.length_nil]
  rw [show idx [(-1 : Int), -1] ((0 : Nat) : Int) = some (-1) from rfl, a.flat_len, wrapI (by omega) (by omega)]
  simp only [Option.bind_some]
  unfold expr_joined_l1
  rw [show ([(-1 : Int), -1].set ((0 : Nat) : Int).toNat ((a.size : Int) - 1)) = [(a.size : Int) - 1, -1] from rfl]
  rw [show idx [(a.size : Int) - 1, -1] 0 = some ((a.size : Int) - 1) from rfl, show idx [(a.size : Int) - 1, -1] 1 = some (-1) from rfl]
  simp only [Option.bind_some]
  rw [app_ok (by simp [a.flat_len]; omega)]
  simp [Tr.flat, put2]
theorem joined2 (n : DENode) (a b : Tr) (h : a.size + b.size ≤ 100000) : expr_joined n [⟨a.flat 0⟩, ⟨b.flat 0⟩] = some ⟨(Tr.bi n a b).flat 0⟩ := by
  unfold expr_joined expr_joined_l1
  rw [laid_flat [] a (by simp; omega)]
  simp only [Option.bind_some, List.nil_append, List.length_nil]
  rw [show idx [(-1 : Int), -1] ((0 : Nat) : Int) = some (-1) from rfl, a.flat_len, wrapI (by omega) (by omega)]
  simp only [Option.bind_some]
  unfold expr_joined_l1
  rw [laid_flat (a.flat 0) b (by rw [a.flat_len]; omega)]
  rw [show ([(-1 : Int), -1].set ((0 : Nat) : Int).toNat ((a.size : Int) - 1)) = [(a.size : Int) - 1, -1] from rfl]
  simp only [Option.bind_some]
  rw [show idx [(a.size : Int) - 1, -1] ((0 + 1 : Nat) : Int) = some (-1) from rfl]
  simp only [Option.bind_some]
  rw [List.length_append, a.flat_len, b.flat_len, wrapI (by omega) (by omega)]
  unfold expr_joined_l1
  rw [show ([(a.size : Int) - 1, -1].set ((0 + 1 : Nat) : Int).toNat (((a.size + b.size : Nat) : Int) - 1)) = [(a.size : Int) - 1, ((a.size + b.size : Nat) : Int) - 1] from rfl]
  rw [show idx [(a.size : Int) - 1, ((a.size + b.size : Nat) : Int) - 1] 0 = some ((a.size : Int) - 1) from rfl, show idx [(a.size : Int) - 1, ((a.size + b.size : Nat) : Int) - 1] 1 = some (((a.size + b.size : Nat) : Int) - 1) from rfl]
  simp only [Option.bind_some]
  rw [app_ok (by simp [a.flat_len, b.flat_len]; omega)]
  simp [Tr.flat, put2]
end Go.Proofs.YtdhledkpgaeoaaaGreatDoor

