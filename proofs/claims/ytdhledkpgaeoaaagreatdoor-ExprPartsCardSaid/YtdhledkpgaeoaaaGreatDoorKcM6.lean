/- Facts of this claim: M6. -/
import Derived.Test.YtdhledkpgaeoaaaGreatDoorKcM5
namespace Go.Proofs.YtdhledkpgaeoaaaGreatDoor
open Go

def sh (s : Nat) (x : Int) : Int := if 0 ≤ x then x + (s : Int) else x
def shN (s : Nat) (n : DENode) : DENode := put2 n (sh s n.L) (sh s n.R)
def bnd (n : DENode) : Prop := n.L ≤ 1000000 ∧ n.R ≤ 1000000
theorem flat_bnd (t : Tr) : ∀ s, s + t.size ≤ 1000000 → ∀ n ∈ t.flat s, bnd n := by
  induction t with
  | lf m => intro s _ n hn; simp only [Tr.flat, List.mem_singleton] at hn; subst hn; exact ⟨by simp [put2], by simp [put2]⟩
  | un m a ih =>
    intro s hs n hn
    simp only [Tr.size] at hs
    simp only [Tr.flat, List.mem_append, List.mem_singleton] at hn
    rcases hn with hn | rfl
    · exact ih s (by omega) n hn
    · constructor <;> simp only [put2] <;> omega
  | bi m a b iha ihb =>
    intro s hs n hn
    simp only [Tr.size] at hs
    simp only [Tr.flat, List.mem_append, List.mem_singleton] at hn
    rcases hn with (hn | hn) | rfl
    · exact iha s (by omega) n hn
    · exact ihb _ (by omega) n hn
    · constructor <;> simp only [put2] <;> omega
theorem shN_put2 (k : Nat) (n : DENode) (l r : Int) : shN k (put2 n l r) = put2 n (sh k l) (sh k r) := rfl
theorem sh_pos {k : Nat} {x : Int} (h : 0 ≤ x) : sh k x = x + (k : Int) := if_pos h
theorem sh_neg (k : Nat) : sh k (-1) = -1 := rfl
theorem flat_sh (t : Tr) (k : Nat) : ∀ s, (t.flat s).map (shN k) = t.flat (s + k) := by
  induction t with
  | lf m => intro s; rfl
  | un m a ih =>
    intro s
    have := a.size_pos
    simp only [Tr.flat, List.map_append, ih, List.map_cons, List.map_nil, shN_put2, sh_neg]
    rw [sh_pos (by omega), show ((s + a.size : Nat) : Int) - 1 + (k : Int) = ((s + k + a.size : Nat) : Int) - 1 from by omega]
  | bi m a b iha ihb =>
    intro s
    have := a.size_pos
    have := b.size_pos
    simp only [Tr.flat, List.map_append, iha, ihb, List.map_cons, List.map_nil, shN_put2]
    rw [sh_pos (by omega), sh_pos (by omega), show s + a.size + k = s + k + a.size from by omega, show ((s + a.size : Nat) : Int) - 1 + (k : Int) = ((s + k + a.size : Nat) : Int) - 1 from by omega, show ((s + a.size + b.size : Nat) : Int) - 1 + (k : Int) = ((s + k + a.size + b.size : Nat) : Int) - 1 from by omega]
theorem laid_l1 (out : List DENode) (ho : out.length ≤ 1000000) : ∀ (ns out1 : List DENode), (∀ n ∈ ns, bnd n) → out1.length + ns.length ≤ 1000000 → expr_laid_l1 out ns out1 = some (out1 ++ ns.map (shN out.length))
  | [], out1, _, _ => by simp [expr_laid_l1]
  | n :: ns, out1, hb, hl => by
    simp only [List.length_cons] at hl
    obtain ⟨h1, h2⟩ := hb n (List.mem_cons_self ..)
    have ih := laid_l1 out ho ns (out1 ++ [shN out.length n]) (fun m hm => hb m (List.mem_cons_of_mem _ hm)) (by simp; omega)
    have e9 : out1 ++ (n :: ns).map (shN out.length) = out1 ++ [shN out.length n] ++ ns.map (shN out.length) := by simp
    rw [e9]
    unfold expr_laid_l1
    have hk2 : ∀ m, m = shN out.length n → expr_laid_k2 (expr_laid_l1 out ns) out1 m = some (out1 ++ [shN out.length n] ++ ns.map (shN out.length)) := by
      intro m hm
      unfold expr_laid_k2
      rw [app_ok (by simp; omega), hm]
      exact ih
    by_cases hL : 0 ≤ n.L
    · rw [if_pos (by simpa using hL)]
      unfold expr_laid_k1
      rw [wrapI (n := n.L + (out.length : Int)) (by omega) (by omega)]
      by_cases hR : 0 ≤ n.R
      · rw [if_pos (by simpa using hR)]
        dsimp only
        rw [wrapI (n := n.R + (out.length : Int)) (by omega) (by omega)]
        exact hk2 _ (by simp only [shN, put2, sh, if_pos hL, if_pos hR])
      · rw [if_neg (by simpa using hR)]
        exact hk2 _ (by simp only [shN, put2, sh, if_pos hL, if_neg hR])
    · rw [if_neg (by simpa using hL)]
      unfold expr_laid_k1
      by_cases hR : 0 ≤ n.R
      · rw [if_pos (by simpa using hR)]
        rw [wrapI (n := n.R + (out.length : Int)) (by omega) (by omega)]
        exact hk2 _ (by simp only [shN, put2, sh, if_neg hL, if_pos hR])
      · rw [if_neg (by simpa using hR)]
        exact hk2 _ (by simp only [shN, put2, sh, if_neg hL, if_neg hR])
theorem laid_flat (out : List DENode) (t : Tr) (h : out.length + t.size ≤ 1000000) : expr_laid out ⟨t.flat 0⟩ = some (out ++ t.flat out.length) := by
  unfold expr_laid
  rw [laid_l1 out (by omega) _ _ (flat_bnd t 0 (by omega)) (by rw [t.flat_len]; exact h), flat_sh]
  simp
theorem joined2 (n : DENode) (a b : Tr) (h : a.size + b.size ≤ 100000) : expr_joined n [⟨a.flat 0⟩, ⟨b.flat 0⟩] = some ⟨(Tr.bi n a b).flat 0⟩ := by
  unfold expr_joined expr_joined_l1
  rw [laid_flat [] a (by simp; omega)]
  simp only [Option.bind_some, List.nil_append, List.length_nil]
  rw [show idx [(-1 : Int), -1] ((0 : Nat) : Int) = some (-1) from rfl, a.flat_len, wrapI (by omega) (by omega)]
  simp only [Option.bind_some]
  unfold expr_joined_l1
  rw [laid_flat (a.flat 0) b (by rw [a.flat_len]; omega)]
  rw [show ([(-1 : Int), -1].set ((0 : Nat) : Int).toNat ((a.size : Int) - 1)) = [(a.size : Int) - 1, -1] from rfl]
  simp only [Option.bind_some]
  rw [show idx [(a.size : Int) - 1, -1] ((0 + 1 : Nat) : Int) = some (-1) from rfl]
  simp only [Option.bind_some]
  rw [List.length_append, a.flat_len, b.flat_len, wrapI (by omega) (by omega)]
  unfold expr_joined_l1
  rw [show ([(a.size : Int) - 1, -1].set ((0 + 1 : Nat) : Int).toNat (((a.size + b.size : Nat) : Int) - 1)) = [(a.size : Int) - 1, ((a.size + b.size : Nat) : Int) - 1] from rfl]
  rw [show idx [(a.size : Int) - 1, ((a.size + b.size : Nat) : Int) - 1] 0 = some ((a.size : Int) - 1) from rfl, show idx [(a.size : Int) - 1, ((a.size + b.size : Nat) : Int) - 1] 1 = some (((a.size + b.size : Nat) : Int) - 1) from rfl]
  simp only [Option.bind_some]
  rw [app_ok (by simp [a.flat_len, b.flat_len]; omega)]
  simp [Tr.flat, put2]
def exT (t : Tr) : DExpr := ⟨t.flat 0⟩
theorem clone_node (l : List DENode) (h : l.length ≤ 1000000) : slices_Clone_api_ENode_api_ENode l = some l := by
  unfold slices_Clone_api_ENode_api_ENode
  rw [app_ok (by simp; omega)]
  simp
theorem nodes_l1 : ∀ (l : List DExpr) (n : Nat), (∀ e ∈ l, e.Nodes.length ≤ 100000) → n + 100000 * l.length ≤ 10000000000 → expr_nodes_l1 l (n : Int) = some (if l.all (fun e => rightE e.Nodes) then (((n + (l.map fun e => e.Nodes.length).sum : Nat) : Int), 0) else (0, 200))
  | [], n, _, _ => by simp [expr_nodes_l1]
  | e :: l, n, hb, hl => by
    simp only [List.length_cons] at hl
    have he := hb e (List.mem_cons_self ..)
    unfold expr_nodes_l1
    rw [expr_Check_eq e he]
    simp only [Option.bind_some]
    cases hr : rightE e.Nodes with
    | false => simp [hr]
    | true =>
      simp only [if_true]
      rw [if_neg (by decide), wrapI (by omega) (by omega), show (n : Int) + (e.Nodes.length : Int) = ((n + e.Nodes.length : Nat) : Int) from by omega]
      rw [nodes_l1 l _ (fun q hq => hb q (List.mem_cons_of_mem _ hq)) (by omega)]
      simp [hr, Nat.add_assoc]
theorem rightE_flat {t : Tr} (hw : t.wf) (hs : t.size ≤ 1000) : rightE (t.flat 0) = true := by unfold rightE; rw [treeOf_flat hw hs]; rfl
def cb (r : List DValue) : Tr → Bool
  | .lf n => !(n.Tag == 2) || colB r n.Col
  | .un _ a => cb r a
  | .bi _ a b => cb r a && cb r b
theorem colsB_flat (r : List DValue) (t : Tr) : t.wf → ∀ s, colsB r (t.flat s) = cb r t := by
  induction t with
  | lf n => intro _ s; simp only [colsB, Tr.flat, List.all_cons, List.all_nil, Bool.and_true, cb]; rfl
  | un n a ih =>
    intro ⟨⟨h1, _⟩, ha⟩ s
    have h2 : ¬ n.Tag = 2 := fun h => by have := pk2 h1 h; omega
    have hx := ih ha s
    unfold colsB at hx ⊢
    simp only [Tr.flat, List.all_append, hx, List.all_cons, List.all_nil, Bool.and_true, cb]
    have : (put2 n (((s + a.size : Nat) : Int) - 1) (-1)).Tag = n.Tag := rfl
    rw [this]; simp [h2]
  | bi n a b iha ihb =>
    intro ⟨⟨h1, _⟩, ha, hb⟩ s
    have h2 : ¬ n.Tag = 2 := fun h => by have := pk2 h1 h; omega
    have hx := iha ha s
    have hy := ihb hb (s + a.size)
    unfold colsB at hx hy ⊢
    simp only [Tr.flat, List.all_append, hx, hy, List.all_cons, List.all_nil, Bool.and_true, cb]
    have : (put2 n (((s + a.size : Nat) : Int) - 1) (((s + a.size + b.size : Nat) : Int) - 1)).Tag = n.Tag := rfl
    rw [this]; simp [h2]
theorem evP_flat (r : List DValue) {t : Tr} (hw : t.wf) (hs : t.size ≤ 1000) : evP r (t.flat 0) = if cb r t then ev r t else (zV, 2) := by
  unfold evP
  rw [treeOf_flat hw hs]
  simp only [colsB_flat r t hw]
theorem cnt3 {n : DENode} (h : cnt n = true) (ht : n.Tag ≠ 1) : n.Value = zV := by
  have h2 := ref10_counts_eq n
  rw [h] at h2
  unfold ref10_counts at h2
  rw [if_neg (by simpa using ht)] at h2
  split at h2
  · simp at h2; exact h2.1.1
  · simp at h2; exact h2.1
theorem rgT_E (t : Tr) : t.wf → rgT t → ∀ s, rgE (t.flat s) := by
  induction t with
  | lf n => intro _ hr s m hm; simp only [Tr.flat, List.mem_singleton] at hm; subst hm; exact hr
  | un n a ih =>
    intro ⟨⟨h1, h2, _⟩, hw⟩ hr s m hm
    simp only [Tr.flat, List.mem_append, List.mem_singleton] at hm
    rcases hm with hm | rfl
    · exact ih hw hr s m hm
    · show r64 n.Value.N
      rw [cnt3 h2 (fun h => by rw [h] at h1; simp [pk] at h1)]; exact ⟨by decide, by decide⟩
  | bi n a b iha ihb =>
    intro ⟨⟨h1, h2, _⟩, hwa, hwb⟩ ⟨hra, hrb⟩ s m hm
    simp only [Tr.flat, List.mem_append, List.mem_singleton] at hm
    rcases hm with (hm | hm) | rfl
    · exact iha hwa hra s m hm
    · exact ihb hwb hrb _ m hm
    · show r64 n.Value.N
      rw [cnt3 h2 (fun h => by rw [h] at h1; simp [pk] at h1)]; exact ⟨by decide, by decide⟩
theorem eval_tree (own : List DValue) (hown : rgR own) {t : Tr} (hw : t.wf) (hs : t.size ≤ 1000) (hr : rgT t) : expr_Eval (exT t) own = some (if cb own t then ev own t else (zV, 2)) := by
  rw [expr_Eval_eq (exT t) own (by simp only [exT, Tr.flat_len]; omega) (rgT_E t hw hr 0) hown]
  unfold exT
  rw [evP_flat own hw hs]
end Go.Proofs.YtdhledkpgaeoaaaGreatDoor

