/- Facts of this claim: M6. -/
import Derived.Test.YtdhledkpgaeoaaaGreatDoorKbM5
namespace Go.Proofs.YtdhledkpgaeoaaaGreatDoor
open Go

def sh (s : Nat) (x : Int) : Int := if 0 ≤ x then x + (s : Int) else x
def shN (s : Nat) (n : DENode) : DENode := put2 n (sh s n.L) (sh s n.R)
def bnd (n : DENode) : Prop := n.L ≤ 1000000 ∧ n.R ≤ 1000000
theorem flat_bnd (t : Tr) : ∀ s, s + t.size ≤ 1000000 → ∀ n ∈ t.flat s, bnd n := by
  induction t with
  | lf m => intro s _ n hn; simp only [Tr.flat, List.mem_singleton] at hn; subst hn; exact ⟨by simp [put2], by simp [put2]⟩
  | un m a ih =>
    intro s hs n hn
    simp only [Tr.size] at hs
    simp only [Tr.flat, List.mem_append, List.mem_singleton] at hn
    rcases hn with hn | rfl
    · exact ih s (by omega) n hn
    · constructor <;> simp only [put2] <;> omega
  | bi m a b iha ihb =>
    intro s hs n hn
    simp only [Tr.size] at hs
    simp only [Tr.flat, List.mem_append, List.mem_singleton] at hn
    rcases hn with (hn | hn) | rfl
    · exact iha s (by omega) n hn
    · exact ihb _ (by omega) n hn
    · constructor <;> simp only [put2] <;> omega
theorem shN_put2 (k : Nat) (n : DENode) (l r : Int) : shN k (put2 n l r) = put2 n (sh k l) (sh k r) := rfl
theorem sh_pos {k : Nat} {x : Int} (h : 0 ≤ x) : sh k x = x + (k : Int) := if_pos h
theorem sh_neg (k : Nat) : sh k (-1) = -1 := rfl
theorem flat_sh (t : Tr) (k : Nat) : ∀ s, (t.flat s).map (shN k) = t.flat (s + k) := by
  induction t with
  | lf m => intro s; rfl
  | un m a ih =>
    intro s
    have := a.size_pos
    simp only [Tr.flat, List.map_append, ih, List.map_cons, List.map_nil, shN_put2, sh_neg]
    rw [sh_pos (by omega), show ((s + a.size : Nat) : Int) - 1 + (k : Int) = ((s + k + a.size : Nat) : Int) - 1 from by omega]
  | bi m a b iha ihb =>
    intro s
    have := a.size_pos
    have := b.size_pos
    simp only [Tr.flat, List.map_append, iha, ihb, List.map_cons, List.map_nil, shN_put2]
    rw [sh_pos (by omega), sh_pos (by omega), show s + a.size + k = s + k + a.size from by omega, show ((s + a.size : Nat) : Int) - 1 + (k : Int) = ((s + k + a.size : Nat) : Int) - 1 from by omega, show ((s + a.size + b.size : Nat) : Int) - 1 + (k : Int) = ((s + k + a.size + b.size : Nat) : Int) - 1 from by omega]
theorem laid_l1 (out : List DENode) (ho : out.length ≤ 1000000) : ∀ (ns out1 : List DENode), (∀ n ∈ ns, bnd n) → out1.length + ns.length ≤ 1000000 → expr_laid_l1 out ns out1 = some (out1 ++ ns.map (shN out.length))
  | [], out1, _, _ => by simp [expr_laid_l1]
  | n :: ns, out1, hb, hl => by
    simp only [List.length_cons] at hl
    obtain ⟨h1, h2⟩ := hb n (List.mem_cons_self ..)
    have ih := laid_l1 out ho ns (out1 ++ [shN out.length n]) (fun m hm => hb m (List.mem_cons_of_mem _ hm)) (by simp; omega)
    have e9 : out1 ++ (n :: ns).map (shN out.length) = out1 ++ [shN out.length n] ++ ns.map (shN out.length) := by simp
    rw [e9]
    unfold expr_laid_l1
    have hk2 : ∀ m, m = shN out.length n → expr_laid_k2 (expr_laid_l1 out ns) out1 m = some (out1 ++ [shN out.length n] ++ ns.map (shN out.length)) := by
      intro m hm
      unfold expr_laid_k2
      rw [app_ok (by simp; omega), hm]
      exact ih
    by_cases hL : 0 ≤ n.L
    · rw [if_pos (by simpa using hL)]
      unfold expr_laid_k1
      rw [wrapI (n := n.L + (out.length : Int)) (by omega) (by omega)]
      by_cases hR : 0 ≤ n.R
      · rw [if_pos (by simpa using hR)]
        dsimp only
        rw [wrapI (n := n.R + (out.length : Int)) (by omega) (by omega)]
        exact hk2 _ (by simp only [shN, put2, sh, if_pos hL, if_pos hR])
      · rw [if_neg (by simpa using hR)]
        exact hk2 _ (by simp only [shN, put2, sh, if_pos hL, if_neg hR])
    · rw [if_neg (by simpa using hL)]
      unfold expr_laid_k1
      by_cases hR : 0 ≤ n.R
      · rw [if_pos (by simpa using hR)]
        rw [wrapI (n := n.R + (out.length : Int)) (by omega) (by omega)]
        exact hk2 _ (by simp only [shN, put2, sh, if_neg hL, if_pos hR])
      · rw [if_neg (by simpa using hR)]
        exact hk2 _ (by simp only [shN, put2, sh, if_neg hL, if_neg hR])
theorem laid_flat (out : List DENode) (t : Tr) (h : out.length + t.size ≤ 1000000) : expr_laid out ⟨t.flat 0⟩ = some (out ++ t.flat out.length) := by
  unfold expr_laid
  rw [laid_l1 out (by omega) _ _ (flat_bnd t 0 (by omega)) (by rw [t.flat_len]; exact h), flat_sh]
  simp
theorem joined0 (n : DENode) : expr_joined n [] = some ⟨(Tr.lf n).flat 0⟩ := by
  unfold expr_joined expr_joined_l1
  rw [show idx [(-1 : Int), -1] 0 = some (-1) from rfl, show idx [(-1 : Int), -1] 1 = some (-1) from rfl]
  simp only [Option.bind_some]
  rw [app_ok (by simp)]
  rfl
theorem joined1 (n : DENode) (a : Tr) (h : a.size ≤ 100000) : expr_joined n [⟨a.flat 0⟩] = some ⟨(Tr.un n a).flat 0⟩ := by
  unfold expr_joined expr_joined_l1
  rw [laid_flat [] a (by simp; omega)]
  simp only [Option.bind_some, List.nil_append, List.length_nil]
  rw [show idx [(-1 : Int), -1] ((0 : Nat) : Int) = some (-1) from rfl, a.flat_len, wrapI (by omega) (by omega)]
  simp only [Option.bind_some]
  unfold expr_joined_l1
  rw [show ([(-1 : Int), -1].set ((0 : Nat) : Int).toNat ((a.size : Int) - 1)) = [(a.size : Int) - 1, -1] from rfl]
  rw [show idx [(a.size : Int) - 1, -1] 0 = some ((a.size : Int) - 1) from rfl, show idx [(a.size : Int) - 1, -1] 1 = some (-1) from rfl]
  simp only [Option.bind_some]
  rw [app_ok (by simp [a.flat_len]; omega)]
  simp [Tr.flat, put2]
theorem joined2 (n : DENode) (a b : Tr) (h : a.size + b.size ≤ 100000) : expr_joined n [⟨a.flat 0⟩, ⟨b.flat 0⟩] = some ⟨(Tr.bi n a b).flat 0⟩ := by
  unfold expr_joined expr_joined_l1
  rw [laid_flat [] a (by simp; omega)]
  simp only [Option.bind_some, List.nil_append, List.length_nil]
  rw [show idx [(-1 : Int), -1] ((0 : Nat) : Int) = some (-1) from rfl, a.flat_len, wrapI (by omega) (by omega)]
  simp only [Option.bind_some]
  unfold expr_joined_l1
  rw [laid_flat (a.flat 0) b (by rw [a.flat_len]; omega)]
  rw [show ([(-1 : Int), -1].set ((0 : Nat) : Int).toNat ((a.size : Int) - 1)) = [(a.size : Int) - 1, -1] from rfl]
  simp only [Option.bind_some]
  rw [show idx [(a.size : Int) - 1, -1] ((0 + 1 : Nat) : Int) = some (-1) from rfl]
  simp only [Option.bind_some]
  rw [List.length_append, a.flat_len, b.flat_len, wrapI (by omega) (by omega)]
  unfold expr_joined_l1
  rw [show ([(a.size : Int) - 1, -1].set ((0 + 1 : Nat) : Int).toNat (((a.size + b.size : Nat) : Int) - 1)) = [(a.size : Int) - 1, ((a.size + b.size : Nat) : Int) - 1] from rfl]
  rw [show idx [(a.size : Int) - 1, ((a.size + b.size : Nat) : Int) - 1] 0 = some ((a.size : Int) - 1) from rfl, show idx [(a.size : Int) - 1, ((a.size + b.size : Nat) : Int) - 1] 1 = some (((a.size + b.size : Nat) : Int) - 1) from rfl]
  simp only [Option.bind_some]
  rw [app_ok (by simp [a.flat_len, b.flat_len]; omega)]
  simp [Tr.flat, put2]
def exT (t : Tr) : DExpr := ⟨t.flat 0⟩
def pt (lt : List Tr) : Tr → Tr
  | .lf n => if n.Tag = 2 then (lt[n.Col.toNat]?).getD default else .lf n
  | .un n a => .un n (pt lt a)
  | .bi n a b => .bi n (pt lt a) (pt lt b)
theorem over_1E (stack l : List DExpr) (h : stack.length + l.length ≤ 100000) : expr_over_1_api_Expr (stack ++ l) (l.length : Int) = some (l, stack) := by
  unfold expr_over_1_api_Expr slices_Clone_api_Expr_api_Expr
  have e : IntKind.i64.wrap (((stack ++ l).length : Int) - (l.length : Int)) = (stack.length : Int) := by
    rw [List.length_append, wrapI (by omega) (by omega)]; omega
  rw [e, sliceF_at stack.length (stack ++ l).length rfl rfl (by simp) (Nat.le_refl _)]
  simp only [Option.bind_some, List.take_length, List.drop_append_of_le_length (Nat.le_refl _), List.drop_length, List.nil_append]
  rw [app_ok (by simp; omega)]
  simp only [Option.bind_some, List.nil_append]
  rw [sliceF_at (i := 0) 0 stack.length rfl rfl (Nat.zero_le _) (by simp)]
  simp
theorem clone_node (l : List DENode) (h : l.length ≤ 1000000) : slices_Clone_api_ENode_api_ENode l = some l := by
  unfold slices_Clone_api_ENode_api_ENode
  rw [app_ok (by simp; omega)]
  simp
theorem pt_un (lt : List Tr) (n : DENode) (a : Tr) : pt lt (.un n a) = .un n (pt lt a) := rfl
theorem pt_bi (lt : List Tr) (n : DENode) (a b : Tr) : pt lt (.bi n a b) = .bi n (pt lt a) (pt lt b) := rfl
theorem over_treeE (lt : List Tr) (hlt : ∀ t ∈ lt, t.size ≤ 1000) (t : Tr) : t.wf → colsT lt.length t → ∀ (s : Nat) (rest : List DENode) (stack : List DExpr), stack.length + t.size ≤ 50000 → (pt lt t).size ≤ 50000 →
    expr_over_api_Expr_l1 (expr_Put_1 (lt.map exT)) (t.flat s ++ rest) 0 stack = expr_over_api_Expr_l1 (expr_Put_1 (lt.map exT)) rest 0 (stack ++ [exT (pt lt t)]) := by
  induction t with
  | lf n =>
    intro ⟨h1, h2, h3, h4⟩ hc s rest stack hl hp
    simp only [Tr.flat, Tr.size, List.cons_append, List.nil_append] at hl ⊢
    conv => lhs; rw [expr_over_api_Expr_l1]
    have e1 : (put2 n (-1) (-1)).Tag = n.Tag := rfl
    rw [e1, expr_parts_of h1]
    have h0 := over_1E stack [] (by simp; omega)
    simp only [List.append_nil, List.length_nil] at h0
    simp only [Option.bind_some]
    rw [h0]
    simp only [Option.bind_some]
    have hv : expr_Put_1 (lt.map exT) (put2 n (-1) (-1)) [] = some (exT (pt lt (.lf n)), 0) := by
      unfold expr_Put_1 pt
      simp only [e1]
      rcases pk0 h1 with ht | ht
      · rw [if_neg (by simp [ht]), if_neg (by simp [ht]), joined0]; rfl
      · rw [if_pos (by simp [ht]), if_pos ht]
        have hb := cnt2 h2 ht
        have hlt2 : n.Col.toNat < lt.length := by have := hc ht; omega
        have e2 : (put2 n (-1) (-1)).Col = n.Col := rfl
        rw [e2, idx_at n.Col.toNat (by omega), List.getElem?_map, List.getElem?_eq_getElem hlt2]
        simp only [Option.map_some, Option.bind_some, Option.getD_some]
        rw [clone_node _ (by have := hlt _ (List.getElem_mem hlt2); simp only [exT, Tr.flat_len]; omega)]
        rfl
    rw [hv]
    simp only [Option.bind_some]
    rw [if_neg (by simp), app_ok (by simp; omega)]
    rfl
  | un n a ih =>
    intro ⟨⟨h1, h2, h3, h4⟩, ha⟩ hc s rest stack hl hp
    rw [pt_un] at hp ⊢
    simp only [Tr.flat, Tr.size, List.append_assoc] at hl hp ⊢
    rw [ih ha hc s _ stack (by omega) (by omega)]
    simp only [List.cons_append, List.nil_append]
    conv => lhs; rw [expr_over_api_Expr_l1]
    have e1 : (put2 n (((s + a.size : Nat) : Int) - 1) (-1)).Tag = n.Tag := rfl
    rw [e1, expr_parts_of h1]
    have h0 := over_1E stack [exT (pt lt a)] (by simp; omega)
    simp only [Option.bind_some]
    have e0 : (([exT (pt lt a)] : List DExpr).length : Int) = ((1 : Nat) : Int) := rfl
    rw [← e0, h0]
    simp only [Option.bind_some]
    have hv : expr_Put_1 (lt.map exT) (put2 n (((s + a.size : Nat) : Int) - 1) (-1)) [exT (pt lt a)] = some (exT (.un n (pt lt a)), 0) := by
      unfold expr_Put_1
      rw [if_neg (by rw [e1]; intro h; have := pk2 h1 (by simpa using h); omega)]
      unfold exT
      rw [joined1 _ _ (by omega)]
      rfl
    rw [hv]
    simp only [Option.bind_some]
    rw [if_neg (by simp), app_ok (by simp; omega)]
    rfl
  | bi n a b iha ihb =>
    intro ⟨⟨h1, h2, h3, h4⟩, ha, hb⟩ ⟨hca, hcb⟩ s rest stack hl hp
    rw [pt_bi] at hp ⊢
    simp only [Tr.flat, Tr.size, List.append_assoc] at hl hp ⊢
    have hap := a.size_pos
    rw [iha ha hca s _ stack (by omega) (by omega), ihb hb hcb (s + a.size) _ (stack ++ [exT (pt lt a)]) (by simp; omega) (by omega)]
    simp only [List.cons_append, List.nil_append]
    conv => lhs; rw [expr_over_api_Expr_l1]
    have e1 : (put2 n (((s + a.size : Nat) : Int) - 1) (((s + a.size + b.size : Nat) : Int) - 1)).Tag = n.Tag := rfl
    rw [e1, expr_parts_of h1]
    have h0 := over_1E stack [exT (pt lt a), exT (pt lt b)] (by simp; omega)
    simp only [Option.bind_some]
    have e0 : (([exT (pt lt a), exT (pt lt b)] : List DExpr).length : Int) = ((2 : Nat) : Int) := rfl
    have e9 : stack ++ [exT (pt lt a)] ++ [exT (pt lt b)] = stack ++ [exT (pt lt a), exT (pt lt b)] := by simp
    rw [← e0, e9, h0]
    simp only [Option.bind_some]
    have hv : expr_Put_1 (lt.map exT) (put2 n (((s + a.size : Nat) : Int) - 1) (((s + a.size + b.size : Nat) : Int) - 1)) [exT (pt lt a), exT (pt lt b)] = some (exT (.bi n (pt lt a) (pt lt b)), 0) := by
      unfold expr_Put_1
      rw [if_neg (by rw [e1]; intro h; have := pk2 h1 (by simpa using h); omega)]
      unfold exT
      rw [joined2 _ _ _ (by omega)]
      rfl
    rw [hv]
    simp only [Option.bind_some]
    rw [if_neg (by simp), app_ok (by simp; omega)]
    rfl
def wt (lt : List Tr) (n : DENode) : Nat := if n.Tag = 2 then ((lt[n.Col.toNat]?).getD default).size else 1
def wts (lt : List Tr) (ns : List DENode) : Nat := (ns.map (wt lt)).sum
theorem wts_append (lt : List Tr) (a b : List DENode) : wts lt (a ++ b) = wts lt a + wts lt b := by simp [wts]
theorem wts_flat (lt : List Tr) (t : Tr) : t.wf → ∀ s, wts lt (t.flat s) = (pt lt t).size := by
  induction t with
  | lf n =>
    intro _ s
    have e1 : wt lt (put2 n (-1) (-1)) = wt lt n := rfl
    have e2 : wts lt ((Tr.lf n).flat s) = wt lt n := by
      simp only [Tr.flat, wts, List.map_cons, List.map_nil, List.sum_cons, List.sum_nil, e1, Nat.add_zero]
    rw [e2]
    unfold wt pt
    by_cases h : n.Tag = 2
    · rw [if_pos h, if_pos h]
    · rw [if_neg h, if_neg h]; rfl
  | un n a ih =>
    intro ⟨⟨h1, _⟩, ha⟩ s
    have h2 : ¬ n.Tag = 2 := fun h => by have := pk2 h1 h; omega
    have e1 : wt lt (put2 n (((s + a.size : Nat) : Int) - 1) (-1)) = 1 := if_neg h2
    simp only [Tr.flat, wts_append, ih ha, pt_un, Tr.size]
    simp only [wts, List.map_cons, List.map_nil, List.sum_cons, List.sum_nil, e1, Nat.add_zero]
  | bi n a b iha ihb =>
    intro ⟨⟨h1, _⟩, ha, hb⟩ s
    have h2 : ¬ n.Tag = 2 := fun h => by have := pk2 h1 h; omega
    have e1 : wt lt (put2 n (((s + a.size : Nat) : Int) - 1) (((s + a.size + b.size : Nat) : Int) - 1)) = 1 := if_neg h2
    simp only [Tr.flat, wts_append, iha ha, ihb hb, pt_bi, Tr.size]
    simp only [wts, List.map_cons, List.map_nil, List.sum_cons, List.sum_nil, e1, Nat.add_zero]
theorem Put_l2_eq (e : DExpr) (lt : List Tr) (hlt : ∀ t ∈ lt, t.size ≤ 1000) : ∀ (ns : List DENode) (n : Nat), (∀ m ∈ ns, m.Tag = 2 → 0 ≤ m.Col ∧ m.Col < (lt.length : Int)) → n + 2000 * ns.length ≤ 100000000 →
    expr_Put_l2 e (lt.map exT) ns (n : Int) = if 1000 < n + wts lt ns then some (⟨[]⟩, 3) else (expr_over_api_Expr e (expr_Put_1 (lt.map exT))).bind fun r => some (r.1, r.2)
  | [], n, _, _ => by
    unfold expr_Put_l2
    by_cases h : 1000 < n
    · rw [if_pos (by simp; omega), if_pos (by simp [wts]; omega)]
    · rw [if_neg (by simp; omega), if_neg (by simp [wts]; omega)]
  | m :: ns, n, hc, hl => by
    simp only [List.length_cons] at hl
    unfold expr_Put_l2
    have hc' : ∀ m ∈ ns, m.Tag = 2 → 0 ≤ m.Col ∧ m.Col < (lt.length : Int) := fun q hq => hc q (List.mem_cons_of_mem _ hq)
    have ew : wts lt (m :: ns) = wt lt m + wts lt ns := by simp [wts]
    rw [ew]
    by_cases ht : m.Tag = 2
    · obtain ⟨h0, h1⟩ := hc m (List.mem_cons_self ..) ht
      have hlt2 : m.Col.toNat < lt.length := by omega
      have hs := hlt _ (List.getElem_mem hlt2)
      have e2 : wt lt m = lt[m.Col.toNat].size := by unfold wt; rw [if_pos ht, List.getElem?_eq_getElem hlt2]; rfl
      rw [if_pos (by simp [ht]), idx_at m.Col.toNat (by omega), List.getElem?_map, List.getElem?_eq_getElem hlt2]
      simp only [Option.map_some, Option.bind_some, exT, Tr.flat_len]
      have hpos := lt[m.Col.toNat].size_pos
      rw [wrapI (n := (n : Int) + 1) (by omega) (by omega), wrapI (n := (lt[m.Col.toNat].size : Int) - 1) (by omega) (by omega), wrapI (by omega) (by omega)]
      rw [show (n : Int) + 1 + ((lt[m.Col.toNat].size : Int) - 1) = ((n + lt[m.Col.toNat].size : Nat) : Int) from by omega]
      rw [Put_l2_eq e lt hlt ns _ hc' (by omega), e2, Nat.add_assoc]
    · have e2 : wt lt m = 1 := if_neg ht
      rw [if_neg (by simp [ht]), wrapI (n := (n : Int) + 1) (by omega) (by omega), show (n : Int) + 1 = ((n + 1 : Nat) : Int) from by omega]
      rw [Put_l2_eq e lt hlt ns _ hc' (by omega), e2, Nat.add_assoc]
theorem Put_l1_eq (e : DExpr) (l : List DExpr) (x : DExpr) : ∀ cs : List Int, expr_Put_l1 e l cs x = if cs.all (fun c => decide (c < (l.length : Int))) then expr_Put_l2 e l e.Nodes 0 else some (⟨[]⟩, 2)
  | [] => rfl
  | c :: cs => by
    unfold expr_Put_l1
    rw [Put_l1_eq e l x cs]
    by_cases h : (l.length : Int) ≤ c
    · rw [if_pos (by simpa using h), if_neg (by simp; omega)]
    · rw [if_neg (by simpa using h)]
      have : c < (l.length : Int) := by omega
      simp [this]
theorem nodes_l1 : ∀ (l : List DExpr) (n : Nat), (∀ e ∈ l, e.Nodes.length ≤ 100000) → n + 100000 * l.length ≤ 10000000000 → expr_nodes_l1 l (n : Int) = some (if l.all (fun e => rightE e.Nodes) then (((n + (l.map fun e => e.Nodes.length).sum : Nat) : Int), 0) else (0, 200))
  | [], n, _, _ => by simp [expr_nodes_l1]
  | e :: l, n, hb, hl => by
    simp only [List.length_cons] at hl
    have he := hb e (List.mem_cons_self ..)
    unfold expr_nodes_l1
    rw [expr_Check_eq e he]
    simp only [Option.bind_some]
    cases hr : rightE e.Nodes with
    | false => simp [hr]
    | true =>
      simp only [if_true]
      rw [if_neg (by decide), wrapI (by omega) (by omega), show (n : Int) + (e.Nodes.length : Int) = ((n + e.Nodes.length : Nat) : Int) from by omega]
      rw [nodes_l1 l _ (fun q hq => hb q (List.mem_cons_of_mem _ hq)) (by omega)]
      simp [hr, Nat.add_assoc]
theorem rightE_flat {t : Tr} (hw : t.wf) (hs : t.size ≤ 1000) : rightE (t.flat 0) = true := by unfold rightE; rw [treeOf_flat hw hs]; rfl
theorem expr_Put_eq (e : DExpr) (he : e.Nodes.length ≤ 10000) (lt : List Tr) (hln : lt.length ≤ 1000) (hlt : ∀ t ∈ lt, t.wf ∧ t.size ≤ 1000) : ∃ p no, expr_Put e (lt.map exT) = some (p, no) ∧
    (no = 0 → ∃ t, treeOf e.Nodes = some t ∧ colsT lt.length t ∧ (pt lt t).size ≤ 1000 ∧ p = exT (pt lt t)) := by
  unfold expr_Put
  rw [app_ok (by simp; omega)]
  simp only [Option.bind_some]
  unfold expr_nodes
  have hn := nodes_l1 ([e] ++ lt.map exT) 0 (by
    intro q hq
    rcases List.mem_append.1 hq with hq | hq
    · simp only [List.mem_singleton] at hq; subst hq; omega
    · obtain ⟨t, ht, rfl⟩ := List.mem_map.1 hq
      have := (hlt t ht).2
      simp only [exT, Tr.flat_len]; omega) (by simp; omega)
  rw [show ((0 : Nat) : Int) = 0 from rfl] at hn
  rw [hn]
  simp only [Option.bind_some]
  have hall : ([e] ++ lt.map exT).all (fun e => rightE e.Nodes) = rightE e.Nodes := by
    rw [List.all_append]
    have : (lt.map exT).all (fun e => rightE e.Nodes) = true := by
      rw [List.all_eq_true]
      intro q hq
      obtain ⟨t, ht, rfl⟩ := List.mem_map.1 hq
      exact rightE_flat (hlt t ht).1 (hlt t ht).2
    rw [this]; simp
  rw [hall]
  cases hr : rightE e.Nodes with
  | false => exact ⟨_, 200, rfl, fun h => by cases h⟩
  | true =>
    simp only [if_true]
    rw [if_neg (by decide)]
    obtain ⟨cs, h1, h2⟩ := expr_Cols_eq e hr
    rw [h1]
    simp only [Option.bind_some]
    rw [Put_l1_eq]
    obtain ⟨t, ht⟩ : ∃ t, treeOf e.Nodes = some t := by
      unfold rightE at hr
      exact Option.isSome_iff_exists.1 hr
    obtain ⟨hw, hN, hs⟩ := treeOf_some ht
    by_cases hcs : cs.all (fun c => decide (c < ((lt.map exT).length : Int))) = true
    · rw [if_pos hcs]
      have hcol : ∀ m ∈ e.Nodes, m.Tag = 2 → 0 ≤ m.Col ∧ m.Col < (lt.length : Int) := by
        intro m hm htag
        have h3 := List.all_eq_true.1 hcs _ ((h2 m.Col).2 ⟨m, hm, htag, rfl⟩)
        rw [List.length_map] at h3
        exact ⟨(tree_col hw 0 (by rw [← hN]; exact hm) htag).1, of_decide_eq_true h3⟩
      have hcT : colsT lt.length t := by
        refine colsIn_tree _ t hw 0 ?_
        unfold colsIn
        rw [List.all_eq_true]
        intro m hm
        rw [← hN] at hm
        by_cases htag : m.Tag = 2
        · have := (hcol m hm htag).2
          simp [htag, this]
        · simp [htag]
      have h4 := Put_l2_eq e lt (fun t ht => (hlt t ht).2) e.Nodes 0 hcol (by omega)
      rw [show ((0 : Nat) : Int) = 0 from rfl] at h4
      rw [h4, hN, wts_flat lt t hw]
      by_cases hsz : 1000 < 0 + (pt lt t).size
      · rw [if_pos hsz]; exact ⟨_, 3, rfl, fun h => by cases h⟩
      · rw [if_neg hsz]
        have h5 : expr_over_api_Expr ⟨t.flat 0⟩ (expr_Put_1 (lt.map exT)) = some (exT (pt lt t), 0) := by
          unfold expr_over_api_Expr
          have := over_treeE lt (fun t ht => (hlt t ht).2) t hw hcT 0 [] [] (by simp; omega) (by omega)
          rw [List.append_nil] at this
          rw [this]
          rfl
        have e9 : e = ⟨t.flat 0⟩ := by cases e; simp only at hN; rw [hN]
        rw [e9, h5]
        exact ⟨_, 0, rfl, fun _ => ⟨t, by rw [e9] at ht; exact ht, hcT, by omega, rfl⟩⟩
    · rw [if_neg hcs]; exact ⟨_, 2, rfl, fun h => by cases h⟩
def cb (r : List DValue) : Tr → Bool
  | .lf n => !(n.Tag == 2) || colB r n.Col
  | .un _ a => cb r a
  | .bi _ a b => cb r a && cb r b
theorem colsB_flat (r : List DValue) (t : Tr) : t.wf → ∀ s, colsB r (t.flat s) = cb r t := by
  induction t with
  | lf n => intro _ s; simp only [colsB, Tr.flat, List.all_cons, List.all_nil, Bool.and_true, cb]; rfl
  | un n a ih =>
    intro ⟨⟨h1, _⟩, ha⟩ s
    have h2 : ¬ n.Tag = 2 := fun h => by have := pk2 h1 h; omega
    have hx := ih ha s
    unfold colsB at hx ⊢
    simp only [Tr.flat, List.all_append, hx, List.all_cons, List.all_nil, Bool.and_true, cb]
    have : (put2 n (((s + a.size : Nat) : Int) - 1) (-1)).Tag = n.Tag := rfl
    rw [this]; simp [h2]
  | bi n a b iha ihb =>
    intro ⟨⟨h1, _⟩, ha, hb⟩ s
    have h2 : ¬ n.Tag = 2 := fun h => by have := pk2 h1 h; omega
    have hx := iha ha s
    have hy := ihb hb (s + a.size)
    unfold colsB at hx hy ⊢
    simp only [Tr.flat, List.all_append, hx, hy, List.all_cons, List.all_nil, Bool.and_true, cb]
    have : (put2 n (((s + a.size : Nat) : Int) - 1) (((s + a.size + b.size : Nat) : Int) - 1)).Tag = n.Tag := rfl
    rw [this]; simp [h2]
theorem evP_flat (r : List DValue) {t : Tr} (hw : t.wf) (hs : t.size ≤ 1000) : evP r (t.flat 0) = if cb r t then ev r t else (zV, 2) := by
  unfold evP
  rw [treeOf_flat hw hs]
  simp only [colsB_flat r t hw]
def comesTo (own : List DValue) (t : Tr) : Prop := t.wf ∧ t.size ≤ 1000 ∧ rgT t ∧ cb own t = true ∧ (ev own t).2 = 0
theorem pt_wf (lt : List Tr) (hlt : ∀ t ∈ lt, t.wf) (t : Tr) : t.wf → colsT lt.length t → (pt lt t).wf := by
  induction t with
  | lf n =>
    intro hw hc
    unfold pt
    split
    · rename_i ht
      have hlt2 : n.Col.toNat < lt.length := by have := hc ht; have := (cnt2 hw.2.1 ht).1; omega
      rw [List.getElem?_eq_getElem hlt2]
      exact hlt _ (List.getElem_mem hlt2)
    · exact hw
  | un n a ih => intro ⟨h, ha⟩ hc; exact ⟨h, ih ha hc⟩
  | bi n a b iha ihb => intro ⟨h, ha, hb⟩ ⟨hca, hcb⟩; exact ⟨h, iha ha hca, ihb hb hcb⟩
theorem pt_rg (lt : List Tr) (hlt : ∀ t ∈ lt, rgT t) (t : Tr) : t.wf → colsT lt.length t → rgT t → rgT (pt lt t) := by
  induction t with
  | lf n =>
    intro hw hc hr
    unfold pt
    split
    · rename_i ht
      have hlt2 : n.Col.toNat < lt.length := by have := hc ht; have := (cnt2 hw.2.1 ht).1; omega
      rw [List.getElem?_eq_getElem hlt2]
      exact hlt _ (List.getElem_mem hlt2)
    · exact hr
  | un n a ih => intro ⟨h, ha⟩ hc hr; exact ih ha hc hr
  | bi n a b iha ihb => intro ⟨h, ha, hb⟩ ⟨hca, hcb⟩ ⟨hra, hrb⟩; exact ⟨iha ha hca hra, ihb hb hcb hrb⟩
theorem pt_cb (own : List DValue) (lt : List Tr) (hlt : ∀ t ∈ lt, cb own t = true) (t : Tr) : t.wf → colsT lt.length t → cb own (pt lt t) = true := by
  induction t with
  | lf n =>
    intro hw hc
    unfold pt
    split
    · rename_i ht
      have hlt2 : n.Col.toNat < lt.length := by have := hc ht; have := (cnt2 hw.2.1 ht).1; omega
      rw [List.getElem?_eq_getElem hlt2]
      exact hlt _ (List.getElem_mem hlt2)
    · rename_i ht; simp [cb, ht]
  | un n a ih => intro ⟨h, ha⟩ hc; exact ih ha hc
  | bi n a b iha ihb => intro ⟨h, ha, hb⟩ ⟨hca, hcb⟩; rw [pt_bi]; simp only [cb, iha ha hca, ihb hb hcb, Bool.and_self]
def comeR (own : List DValue) (lt : List Tr) : List DValue := lt.map fun t => (ev own t).1
theorem pt_ev (own : List DValue) (lt : List Tr) (hlt : ∀ t ∈ lt, (ev own t).2 = 0) (t : Tr) : t.wf → colsT lt.length t → ev own (pt lt t) = ev (comeR own lt) t := by
  induction t with
  | lf n =>
    intro hw hc
    unfold pt
    split
    · rename_i ht
      have hlt2 : n.Col.toNat < lt.length := by have := hc ht; have := (cnt2 hw.2.1 ht).1; omega
      rw [List.getElem?_eq_getElem hlt2]
      have e1 : ev (comeR own lt) (.lf n) = ((ev own lt[n.Col.toNat]).1, 0) := by
        rw [ev, if_neg (by omega)]
        unfold comeR
        rw [List.getElem?_map, List.getElem?_eq_getElem hlt2]
        rfl
      rw [e1]
      exact Prod.ext rfl (hlt _ (List.getElem_mem hlt2))
    · rename_i ht
      have ht1 : n.Tag = 1 := (pk0 hw.1).resolve_right ht
      rw [ev, ev, if_pos ht1, if_pos ht1]
  | un n a ih => intro ⟨h, ha⟩ hc; rw [pt_un, ev_un, ev_un, ih ha hc]
  | bi n a b iha ihb => intro ⟨h, ha, hb⟩ ⟨hca, hcb⟩; rw [pt_bi, ev_bi, ev_bi, iha ha hca, ihb hb hcb]
theorem come_pl {own : List DValue} (hown : rgR own) {t : Tr} (h : comesTo own t) : Pl (ev own t).1 := by
  obtain ⟨hw, hs, hr, hc, h0⟩ := h
  have hcV := colsB_tree hown t hw 0 (by rw [colsB_flat own t hw]; exact hc)
  rcases ev_cases own t hw hr hcV with ⟨_, h⟩ | h | h
  · exact h
  · rw [h] at h0; cases h0
  · rw [h] at h0; cases h0
theorem cnt3 {n : DENode} (h : cnt n = true) (ht : n.Tag ≠ 1) : n.Value = zV := by
  have h2 := ref10_counts_eq n
  rw [h] at h2
  unfold ref10_counts at h2
  rw [if_neg (by simpa using ht)] at h2
  split at h2
  · simp at h2; exact h2.1.1
  · simp at h2; exact h2.1
theorem rgT_E (t : Tr) : t.wf → rgT t → ∀ s, rgE (t.flat s) := by
  induction t with
  | lf n => intro _ hr s m hm; simp only [Tr.flat, List.mem_singleton] at hm; subst hm; exact hr
  | un n a ih =>
    intro ⟨⟨h1, h2, _⟩, hw⟩ hr s m hm
    simp only [Tr.flat, List.mem_append, List.mem_singleton] at hm
    rcases hm with hm | rfl
    · exact ih hw hr s m hm
    · show r64 n.Value.N
      rw [cnt3 h2 (fun h => by rw [h] at h1; simp [pk] at h1)]; exact ⟨by decide, by decide⟩
  | bi n a b iha ihb =>
    intro ⟨⟨h1, h2, _⟩, hwa, hwb⟩ ⟨hra, hrb⟩ s m hm
    simp only [Tr.flat, List.mem_append, List.mem_singleton] at hm
    rcases hm with (hm | hm) | rfl
    · exact iha hwa hra s m hm
    · exact ihb hwb hrb _ m hm
    · show r64 n.Value.N
      rw [cnt3 h2 (fun h => by rw [h] at h1; simp [pk] at h1)]; exact ⟨by decide, by decide⟩
theorem eval_tree (own : List DValue) (hown : rgR own) {t : Tr} (hw : t.wf) (hs : t.size ≤ 1000) (hr : rgT t) : expr_Eval (exT t) own = some (if cb own t then ev own t else (zV, 2)) := by
  rw [expr_Eval_eq (exT t) own (by simp only [exT, Tr.flat_len]; omega) (rgT_E t hw hr 0) hown]
  unfold exT
  rw [evP_flat own hw hs]
theorem tree_colT {m : Nat} {t : Tr} (hc : colsT m t) (hw : t.wf) : ∀ s {n : DENode}, n ∈ t.flat s → n.Tag = 2 → n.Col < (m : Int) := by
  induction t with
  | lf k =>
    intro s n hn ht
    simp only [Tr.flat, List.mem_singleton] at hn
    subst hn
    exact hc ht
  | un k a ih =>
    intro s n hn ht
    simp only [Tr.flat, List.mem_append, List.mem_singleton] at hn
    rcases hn with hn | rfl
    · exact ih hc hw.2 s hn ht
    · exact absurd (pk2 hw.1.1 ht) (by decide)
  | bi k a b iha ihb =>
    intro s n hn ht
    simp only [Tr.flat, List.mem_append, List.mem_singleton] at hn
    rcases hn with (hn | hn) | rfl
    · exact iha hc.1 hw.2.1 s hn ht
    · exact ihb hc.2 hw.2.2 _ hn ht
    · exact absurd (pk2 hw.1.1 ht) (by decide)
theorem through_k1 (ns : List DENode) (hl : ns.length ≤ 1000) (hg : rgE ns) (own : List DValue) (hown : rgR own) (lt : List Tr) (hln : lt.length ≤ 16) (hlt : ∀ t ∈ lt, comesTo own t) :
    law10_ExprThrough_k1 ⟨ns⟩ own (lt.map exT) (comeR own lt) = some true := by
  unfold law10_ExprThrough_k1
  obtain ⟨p, no, h1, h2⟩ := expr_Put_eq ⟨ns⟩ (by show ns.length ≤ 10000; omega) lt (by omega) fun t ht => ⟨(hlt t ht).1, (hlt t ht).2.1⟩
  rw [h1]
  simp only [Option.bind_some]
  by_cases h0 : no = 0
  · obtain ⟨t, ht, hcT, hsz, rfl⟩ := h2 h0
    obtain ⟨hw, hN, hs⟩ := treeOf_some ht
    have hN : ns = t.flat 0 := hN
    rw [if_neg (by simp [h0])]
    have hpw := pt_wf lt (fun t ht => (hlt t ht).1) t hw hcT
    have hgT : rgT t := rgE_tree t 0 (by rw [← hN]; exact hg)
    have hpr := pt_rg lt (fun t ht => (hlt t ht).2.2.1) t hw hcT hgT
    have hpc := pt_cb own lt (fun t ht => (hlt t ht).2.2.2.1) t hw hcT
    have hcome : rgR (comeR own lt) := by
      intro v hv
      obtain ⟨t, ht, rfl⟩ := List.mem_map.1 hv
      exact (come_pl hown (hlt t ht)).r64
    have hEp : expr_Eval (exT (pt lt t)) own = some (ev own (pt lt t)) := by
      have h3 := eval_tree own hown hpw hsz hpr
      rw [hpc] at h3
      exact h3
    rw [hEp]
    simp only [Option.bind_some]
    have hEe : expr_Eval ⟨ns⟩ (comeR own lt) = some (evP (comeR own lt) ns) := expr_Eval_eq ⟨ns⟩ _ (by show ns.length ≤ 50000; omega) hg hcome
    rw [hEe]
    simp only [Option.bind_some]
    have hcb : cb (comeR own lt) t = true := by
      rw [← colsB_flat _ t hw 0]
      unfold colsB
      rw [List.all_eq_true]
      intro n hn
      by_cases htag : n.Tag = 2
      · have h5 := (tree_col hw 0 hn htag).1
        have h6 : n.Col.toNat < lt.length := by
          have := tree_colT hcT hw 0 hn htag
          omega
        simp only [htag, beq_self_eq_true, Bool.not_true, Bool.false_or]
        unfold colB comeR
        rw [List.getElem?_map, List.getElem?_eq_getElem h6, List.length_map]
        have e1 : decide (n.Col < (lt.length : Int)) = true := by simp; omega
        rw [e1]
        simpa using (come_pl hown (hlt _ (List.getElem_mem h6))).plain
      · simp [htag]
    rw [hN, evP_flat _ hw hs, hcb, if_pos rfl, pt_ev own lt (fun t ht => (hlt t ht).2.2.2.2) t hw hcT]
    simp
  · rw [if_pos (by simpa using h0)]
theorem through_l1 (ns : List DENode) (hl : ns.length ≤ 1000) (hg : rgE ns) (own : List DValue) (hown : rgR own) : ∀ (l : List DExpr) (lt : List Tr), lt.length ≤ 16 → (∀ t ∈ lt, comesTo own t) → (∀ e ∈ l, rgE e.Nodes) →
    law10_ExprThrough_l1 ⟨ns⟩ own l lt.length (lt.map exT) (comeR own lt) = some true
  | [], lt, hln, hlt, _ => by
    unfold law10_ExprThrough_l1
    exact through_k1 ns hl hg own hown lt hln hlt
  | e :: l, lt, hln, hlt, hle => by
    unfold law10_ExprThrough_l1
    by_cases h16 : lt.length = 16
    · rw [if_pos (by simp [h16])]
      exact through_k1 ns hl hg own hown lt hln hlt
    · rw [if_neg (by simp; omega)]
      have h1 := short_eq e 60 (by omega)
      rw [show ((60 : Int)) = ((60 : Nat) : Int) from rfl, h1]
      simp only [Option.bind_some]
      rw [app_ok (by simp; omega)]
      simp only [Option.bind_some]
      rw [idx_nat, List.getElem?_append_right (by simp), List.length_map, Nat.sub_self]
      simp only [List.getElem?_cons_zero, Option.bind_some]
      have hlen := shortN_len e.Nodes 60
      have hrg := shortN_rg (hle e (List.mem_cons_self ..)) 60
      rw [expr_Eval_eq ⟨shortN e.Nodes 60⟩ own (by show (shortN e.Nodes 60).length ≤ 50000; omega) hrg hown]
      simp only [Option.bind_some]
      by_cases h0 : (evP own (shortN e.Nodes 60)).2 = 0
      · rw [if_neg (by simp [h0]), app_ok (by simp [comeR]; omega)]
        simp only [Option.bind_some]
        have hex : ∃ t, shortN e.Nodes 60 = t.flat 0 ∧ comesTo own t ∧ evP own (shortN e.Nodes 60) = ev own t := by
          unfold evP at h0
          cases ht : treeOf (shortN e.Nodes 60) with
          | none => rw [ht] at h0; cases h0
          | some t =>
            obtain ⟨hw, hN, hs⟩ := treeOf_some ht
            rw [hN] at hrg ⊢
            rw [ht] at h0
            simp only [hN, colsB_flat own t hw] at h0
            cases hc : cb own t with
            | false => rw [hc] at h0; cases h0
            | true =>
              rw [hc] at h0
              exact ⟨t, rfl, ⟨hw, hs, rgE_tree t 0 hrg, hc, h0⟩, by rw [evP_flat own hw hs, hc, if_pos rfl]⟩
        obtain ⟨t, hN, hct, hev⟩ := hex
        have e1 : lt.map exT ++ [(⟨shortN e.Nodes 60⟩ : DExpr)] = (lt ++ [t]).map exT := by rw [hN]; simp [exT]
        have e2 : comeR own lt ++ [(evP own (shortN e.Nodes 60)).1] = comeR own (lt ++ [t]) := by rw [hev]; simp [comeR]
        rw [e1, e2]
        have := through_l1 ns hl hg own hown l (lt ++ [t]) (by simp; omega) (fun q hq => by
          rcases List.mem_append.1 hq with hq | hq
          · exact hlt q hq
          · simp only [List.mem_singleton] at hq; subst hq; exact hct) (fun q hq => hle q (List.mem_cons_of_mem _ hq))
        simpa using this
      · rw [if_pos (by simpa using h0)]
theorem exprThrough_true (p : DExpr) (l : List DExpr) (r : List DValue) (hp : rgE p.Nodes) (hl : ∀ e ∈ l, rgE e.Nodes) (hr : rgR r) : law10_ExprThrough p l r = some true := by
  unfold law10_ExprThrough
  rw [wakes_eq]
  simp only [Option.bind_some, Bool.not_true, Bool.false_eq_true, if_false]
  have h1 := short_eq p 100 (by omega)
  rw [show ((100 : Int)) = ((100 : Nat) : Int) from rfl, h1, row_eq]
  simp only [Option.bind_some]
  have hlen := shortN_len p.Nodes 100
  exact through_l1 (shortN p.Nodes 100) (by omega) (shortN_rg hp 100) (rowR r) (rowR_rg hr) l [] (by simp) (fun t ht => by cases ht) hl
end Go.Proofs.YtdhledkpgaeoaaaGreatDoor

