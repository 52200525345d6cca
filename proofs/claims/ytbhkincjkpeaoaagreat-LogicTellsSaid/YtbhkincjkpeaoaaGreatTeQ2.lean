/- Facts of this claim: L9, L10. -/
import Derived.Test.YtbhkincjkpeaoaaGreatTeQ1
namespace Go.Proofs.YtbhkincjkpeaoaaGreat
open Go

theorem kindP_right {e : DExpr} {kinds : List Int} (h : (kindP e kinds).2 = 0) : rightE e.Nodes = true := by
  unfold kindP at h
  cases hr : rightE e.Nodes with
  | true => rfl
  | false => rw [hr] at h; simp at h
theorem truB_right {e : DExpr} {kinds : List Int} (h : truB e kinds = true) : rightE e.Nodes = true := by
  unfold truB at h
  simp only [Bool.and_eq_true, beq_iff_eq] at h
  exact kindP_right h.1
theorem agR_right {g : DAgg} {kinds : List Int} (h : (agR g kinds).2 = true) (hp : 0 < g.Arg.Nodes.length) : rightE g.Arg.Nodes = true := by
  rw [← (ag_same g kinds).1] at h
  unfold agP at h
  by_cases h1 : g.Tag = 1
  · rw [if_pos h1] at h
    simp at h
    rw [h] at hp; simp at hp
  rw [if_neg h1] at h
  by_cases h2 : g.Tag = 2
  · rw [if_pos h2] at h; exact kindP_right (by simpa using h)
  rw [if_neg h2] at h
  by_cases h3 : g.Tag = 3
  · rw [if_pos h3] at h
    simp only [Bool.and_eq_true, beq_iff_eq] at h
    exact kindP_right h.1
  rw [if_neg h3] at h
  by_cases h4 : g.Tag = 4 ∨ g.Tag = 5
  · rw [if_pos h4] at h; exact kindP_right (by simpa using h)
  · rw [if_neg h4] at h; cases h
theorem l4_right (n : DLNode) (a : List Int) : ∀ (tl : List DExpr) (i fu : Nat) (out : List Int) (ok : Bool) (k : List Int), n.Items.drop i = tl → n.Items.length ≤ 5000 → ref13_kinds_l4 n a fu out ok (i : Int) = some (k, true) → ok = true ∧ ∀ e ∈ tl, rightE e.Nodes = true := by
  intro tl
  induction tl with
  | nil =>
    intro i fu out ok k hd hl h
    cases fu with
    | zero => cases h
    | succ fu =>
      have := end_drop hd
      rw [ref13_kinds_l4, if_neg (by simp; omega)] at h
      injection h with h
      injection h with _ h
      simp only [Bool.and_eq_true] at h
      exact ⟨h.1.1, by simp⟩
  | cons x tl ih =>
    intro i fu out ok k hd hl h
    cases fu with
    | zero => cases h
    | succ fu =>
      obtain ⟨h1, h2, h3⟩ := at_drop hd
      rw [ref13_kinds_l4, if_pos (by simp; omega), h1] at h
      simp only [Option.bind_some, ref10_Kind_eq] at h
      cases ha : app out [(kindP x a).1] with
      | none => rw [ha] at h; cases h
      | some o =>
        rw [ha] at h
        simp only [Option.bind_some] at h
        rw [wrapI (by omega) (by omega), show ((i : Int) + 1) = ((i + 1 : Nat) : Int) from by omega] at h
        obtain ⟨g1, g2⟩ := ih (i + 1) fu o _ k h3 hl h
        simp only [Bool.and_eq_true, beq_iff_eq] at g1
        exact ⟨g1.1, fun e he => by
          rcases List.mem_cons.1 he with rfl | he
          · exact kindP_right g1.2
          · exact g2 e he⟩
theorem l3_right (n : DLNode) (a : List Int) : ∀ (tl : List DAgg) (i fu : Nat) (out : List Int) (ok : Bool) (k : List Int), n.Aggs.drop i = tl → n.Aggs.length ≤ 5000 → ref13_kinds_l3 n a fu out ok (i : Int) = some (k, true) → ok = true ∧ ∀ g ∈ tl, 0 < g.Arg.Nodes.length → rightE g.Arg.Nodes = true := by
  intro tl
  induction tl with
  | nil =>
    intro i fu out ok k hd hl h
    cases fu with
    | zero => cases h
    | succ fu =>
      have := end_drop hd
      rw [ref13_kinds_l3, if_neg (by simp; omega)] at h
      injection h with h
      injection h with _ h
      simp only [Bool.and_eq_true] at h
      exact ⟨h.1.1.1, by simp⟩
  | cons x tl ih =>
    intro i fu out ok k hd hl h
    cases fu with
    | zero => cases h
    | succ fu =>
      obtain ⟨h1, h2, h3⟩ := at_drop hd
      rw [ref13_kinds_l3, if_pos (by simp; omega), h1] at h
      simp only [Option.bind_some, ref13_aggregate_eq] at h
      cases ha : app out [(agR x a).1] with
      | none => rw [ha] at h; cases h
      | some o =>
        rw [ha] at h
        simp only [Option.bind_some] at h
        rw [wrapI (by omega) (by omega), show ((i : Int) + 1) = ((i + 1 : Nat) : Int) from by omega] at h
        obtain ⟨g1, g2⟩ := ih (i + 1) fu o _ k h3 hl h
        simp only [Bool.and_eq_true] at g1
        exact ⟨g1.1, fun g hg => by
          rcases List.mem_cons.1 hg with rfl | hg
          · exact agR_right g1.2
          · exact g2 g hg⟩
theorem l2_right (n : DLNode) (a : List Int) : ∀ (tl : List Int) (i fu : Nat) (out : List Int) (k : List Int), n.Keys.drop i = tl → n.Keys.length ≤ 5000 → ref13_kinds_l2 n a fu out (i : Int) = some (k, true) → ∃ o, ref13_kinds_l3 n a FUEL o true 0 = some (k, true) := by
  intro tl
  induction tl with
  | nil =>
    intro i fu out k hd hl h
    cases fu with
    | zero => cases h
    | succ fu =>
      have := end_drop hd
      rw [ref13_kinds_l2, if_neg (by simp; omega)] at h
      exact ⟨_, h⟩
  | cons x tl ih =>
    intro i fu out k hd hl h
    cases fu with
    | zero => cases h
    | succ fu =>
      obtain ⟨h1, h2, h3⟩ := at_drop hd
      rw [ref13_kinds_l2, if_pos (by simp; omega), h1] at h
      simp only [Option.bind_some] at h
      split at h
      · simp at h
      · cases hx : idx a x with
        | none => rw [hx] at h; cases h
        | some y =>
          rw [hx] at h
          simp only [Option.bind_some] at h
          cases ha : app out [y] with
          | none => rw [ha] at h; cases h
          | some o =>
            rw [ha] at h
            simp only [Option.bind_some] at h
            rw [wrapI (by omega) (by omega), show ((i : Int) + 1) = ((i + 1 : Nat) : Int) from by omega] at h
            exact ih (i + 1) fu o k h3 hl h
structure ExprsOK (n : DLNode) : Prop where
  cond : 0 < n.Cond.Nodes.length → rightE n.Cond.Nodes = true
  items : ∀ e ∈ n.Items, 0 < e.Nodes.length → rightE e.Nodes = true
  args : ∀ g ∈ n.Aggs, 0 < g.Arg.Nodes.length → rightE g.Arg.Nodes = true
theorem own_none {n : DLNode} (h : ownB n = true) : (n.Op ≠ 2 → n.Op ≠ 3 → n.Cond.Nodes.length = 0) ∧ (n.Op ≠ 4 → n.Aggs.length = 0) ∧ (n.Op ≠ 5 → n.Items.length = 0) := by
  have e := ref13_Own_eq n
  rw [h] at e
  unfold ref13_Own at e
  split at e
  · simp at e
  · split at e
    · simp at e
    · split at e
      · simp at e
      · rename_i h1 h2 h3
        simp only [Bool.or_eq_true, Bool.and_eq_true, bne_iff_ne, decide_eq_true_eq, not_or, not_and] at h1 h2 h3
        refine ⟨fun a b => ?_, fun a => ?_, fun a => ?_⟩
        · have := h2.2 ⟨a, b⟩; omega
        · have := (h3.1 a).2; omega
        · have := h3.2 a; omega
theorem exprs_ok {n : DLNode} {a b k : List Int} (hs : SmallN n) (hop : op8 n.Op = true) (ho : ownB n = true) (h : ref13_kinds n a b = some (k, true)) : ExprsOK n := by
  obtain ⟨o1, o2, o3⟩ := own_none ho
  have hnil : ∀ {α : Type} {l : List α} {p : α → Prop}, l.length = 0 → ∀ x ∈ l, p x := by
    intro α l p hl x hx
    rw [List.eq_nil_of_length_eq_zero hl] at hx; cases hx
  unfold ref13_kinds at h
  rcases op8_cases hop with c | c | c | c | c | c | c | c
  · exact ⟨fun hp => by have := o1 (by omega) (by omega); omega, hnil (o3 (by omega)), hnil (o2 (by omega))⟩
  · rw [if_neg (by simp [c]), if_pos (by simp [c])] at h
    refine ⟨fun _ => ?_, hnil (o3 (by omega)), hnil (o2 (by omega))⟩
    cases h1 : app ([] : List Int) a with
    | none => rw [h1] at h; cases h
    | some l1 =>
      rw [h1] at h
      simp only [Option.bind_some] at h
      cases h2 : app l1 b with
      | none => rw [h2] at h; cases h
      | some l2 =>
        rw [h2] at h
        simp only [Option.bind_some, ref13_truth_eq] at h
        injection h with h
        injection h with _ h
        exact truB_right h
  · rw [if_neg (by simp [c]), if_neg (by simp [c]), if_pos (by simp [c])] at h
    refine ⟨fun _ => ?_, hnil (o3 (by omega)), hnil (o2 (by omega))⟩
    simp only [Option.bind_some, ref13_truth_eq] at h
    injection h with h
    injection h with _ h
    exact truB_right h
  · rw [if_neg (by simp [c]), if_neg (by simp [c]), if_neg (by simp [c]), if_pos (by simp [c])] at h
    obtain ⟨o, h'⟩ := l2_right n a n.Keys 0 FUEL [] k rfl hs.keys h
    exact ⟨fun hp => by have := o1 (by omega) (by omega); omega, hnil (o3 (by omega)), (l3_right n a n.Aggs 0 FUEL o true k rfl hs.aggs h').2⟩
  · rw [if_neg (by simp [c]), if_neg (by simp [c]), if_neg (by simp [c]), if_neg (by simp [c]), if_pos (by simp [c])] at h
    exact ⟨fun hp => by have := o1 (by omega) (by omega); omega, fun e he _ => (l4_right n a n.Items 0 FUEL [] true k rfl hs.items h).2 e he, hnil (o2 (by omega))⟩
  · exact ⟨fun hp => by have := o1 (by omega) (by omega); omega, hnil (o3 (by omega)), hnil (o2 (by omega))⟩
  · exact ⟨fun hp => by have := o1 (by omega) (by omega); omega, hnil (o3 (by omega)), hnil (o2 (by omega))⟩
  · exact ⟨fun hp => by have := o1 (by omega) (by omega); omega, hnil (o3 (by omega)), hnil (o2 (by omega))⟩
def unsE (e : DExpr) : Bool := !e.Nodes.isEmpty && e.Nodes.any arB
def unsA (g : DAgg) : Bool := if g.Tag = 3 then true else unsE g.Arg
def unsN (n : DLNode) : Bool := unsE n.Cond || n.Items.any unsE || n.Aggs.any unsA
theorem IndexFunc_enode_eq {f : DENode → Option Bool} {g : DENode → Bool} (hf : ∀ v, f v = some (g v)) : ∀ (l : List DENode) (i : Nat), ∃ j : Int, slices_IndexFunc_api_ENode_api_ENode_l1 f l i = some j ∧ decide (0 ≤ j) = l.any g
  | [], i => ⟨-1, rfl, rfl⟩
  | e :: l, i => by
    unfold slices_IndexFunc_api_ENode_api_ENode_l1
    rw [hf, Option.bind_some]
    cases h : g e with
    | true => exact ⟨(i : Int), by simp, by simp [h]⟩
    | false =>
      obtain ⟨j, h1, h2⟩ := IndexFunc_enode_eq hf l (i + 1)
      exact ⟨j, by simpa using h1, by rw [h2]; simp [h]⟩
theorem IndexFunc_expr_eq {f : DExpr → Option Bool} {g : DExpr → Bool} : ∀ (l : List DExpr) (i : Nat), (∀ v ∈ l, f v = some (g v)) → ∃ j : Int, slices_IndexFunc_api_Expr_api_Expr_l1 f l i = some j ∧ decide (0 ≤ j) = l.any g
  | [], i, _ => ⟨-1, rfl, rfl⟩
  | e :: l, i, hf => by
    unfold slices_IndexFunc_api_Expr_api_Expr_l1
    rw [hf e (List.mem_cons_self ..), Option.bind_some]
    cases h : g e with
    | true => exact ⟨(i : Int), by simp, by simp [h]⟩
    | false =>
      obtain ⟨j, h1, h2⟩ := IndexFunc_expr_eq l (i + 1) (fun v hv => hf v (List.mem_cons_of_mem _ hv))
      exact ⟨j, by simpa using h1, by rw [h2]; simp [h]⟩
theorem IndexFunc_agg_eq {f : DAgg → Option Bool} {g : DAgg → Bool} : ∀ (l : List DAgg) (i : Nat), (∀ v ∈ l, f v = some (g v)) → ∃ j : Int, slices_IndexFunc_api_Agg_api_Agg_l1 f l i = some j ∧ decide (0 ≤ j) = l.any g
  | [], i, _ => ⟨-1, rfl, rfl⟩
  | e :: l, i, hf => by
    unfold slices_IndexFunc_api_Agg_api_Agg_l1
    rw [hf e (List.mem_cons_self ..), Option.bind_some]
    cases h : g e with
    | true => exact ⟨(i : Int), by simp, by simp [h]⟩
    | false =>
      obtain ⟨j, h1, h2⟩ := IndexFunc_agg_eq l (i + 1) (fun v hv => hf v (List.mem_cons_of_mem _ hv))
      exact ⟨j, by simpa using h1, by rw [h2]; simp [h]⟩
theorem lenpos2 {α : Type} (l : List α) : decide ((0 : Int) < (l.length : Int)) = !l.isEmpty := lenpos l
theorem Safe_1_eq (e : DExpr) (h : 0 < e.Nodes.length → rightE e.Nodes = true) : logic_Safe_1 e = some (unsE e) := by
  unfold logic_Safe_1 unsE
  rw [lenpos2]
  by_cases hp : 0 < e.Nodes.length
  · have hr := h hp
    have hl := rightE_len hr
    have : e.Nodes.isEmpty = false := by cases hh : e.Nodes with
      | nil => rw [hh] at hp; simp at hp
      | cons a l => rfl
    simp only [this, Bool.not_false, if_true, Bool.true_and]
    unfold expr_Safe
    rw [expr_Check_eq e (by omega), hr]
    simp only [if_true, Option.bind_some]
    rw [if_pos (by decide)]
    unfold slices_ContainsFunc_api_ENode_api_ENode slices_IndexFunc_api_ENode_api_ENode
    obtain ⟨j, h1, h2⟩ := IndexFunc_enode_eq (f := expr_Safe_1) (g := arB) (fun v => rfl) e.Nodes 0
    rw [h1]
    simp only [Option.bind_some, h2, Bool.not_not]
  · have : e.Nodes.isEmpty = true := by cases hh : e.Nodes with
      | nil => rfl
      | cons a l => rw [hh] at hp; simp at hp
    simp [this]
theorem ref13_unsafe_eq (e : DExpr) : ref13_unsafe e = some (unsE e) := by
  unfold ref13_unsafe unsE
  rw [lenpos2, ref10_Safe_eq]
  cases e.Nodes.isEmpty <;> simp
theorem Safe_l1_eq : ∀ ns : List DLNode, (∀ n ∈ ns, ExprsOK n) → logic_Safe_l1 ns = some (!(ns.any unsN))
  | [], _ => rfl
  | n :: ns, h => by
    have hn := h n (List.mem_cons_self ..)
    unfold logic_Safe_l1
    rw [Safe_1_eq _ hn.cond, Safe_l1_eq ns (fun m hm => h m (List.mem_cons_of_mem _ hm))]
    have c1 : slices_ContainsFunc_api_Expr_api_Expr n.Items logic_Safe_1 = some (n.Items.any unsE) := by
      unfold slices_ContainsFunc_api_Expr_api_Expr slices_IndexFunc_api_Expr_api_Expr
      obtain ⟨j, h1, h2⟩ := IndexFunc_expr_eq (f := logic_Safe_1) (g := unsE) n.Items 0 (fun v hv => Safe_1_eq v (hn.items v hv))
      rw [h1, Option.bind_some, h2]
    have c2 : slices_ContainsFunc_api_Agg_api_Agg n.Aggs (logic_Safe_2 logic_Safe_1) = some (n.Aggs.any unsA) := by
      unfold slices_ContainsFunc_api_Agg_api_Agg slices_IndexFunc_api_Agg_api_Agg
      obtain ⟨j, h1, h2⟩ := IndexFunc_agg_eq (f := logic_Safe_2 logic_Safe_1) (g := unsA) n.Aggs 0 (fun v hv => by
        unfold logic_Safe_2 unsA
        rw [Safe_1_eq _ (hn.args v hv)]
        by_cases h3 : v.Tag = 3 <;> simp [h3])
      rw [h1, Option.bind_some, h2]
    rw [c1, c2]
    simp only [Option.bind_some, List.any_cons, unsN]
    cases unsE n.Cond <;> cases n.Items.any unsE <;> cases n.Aggs.any unsA <;> simp
theorem unsA_opt (g : DAgg) : (if (!(g.Tag == (3 : Int))) = true then some (unsE g.Arg) else some true) = some (unsA g) := by
  unfold unsA
  by_cases h : g.Tag = 3 <;> simp [h]
theorem ref13_Safe_eq {l : DLogic} (hs : SmallL l) (hl : l.Nodes.length ≤ 5000) : ref13_Safe l = some (!(l.Nodes.any unsN)) := by
  have k3 : ∀ (nx : Int → Option Bool) (i : Int) (e : DLNode) (tl : List DAgg) (k fu : Nat), e.Aggs.length ≤ 5000 → e.Aggs.drop k = tl → k + tl.length = e.Aggs.length → tl.length < fu → ref13_Safe_l3 nx i e fu (k : Int) = if tl.any unsA then some false else nx (IntKind.i64.wrap (i + 1)) := by
    intro nx i e tl
    induction tl with
    | nil =>
      intro k fu _ hd hk hf
      obtain ⟨fu, rfl⟩ : ∃ k, fu = k + 1 := ⟨fu - 1, by omega⟩
      simp only [List.length_nil, Nat.add_zero] at hk
      rw [ref13_Safe_l3, if_neg (by simp; omega)]; rfl
    | cons x tl ih =>
      intro k fu h5 hd hk hf
      simp only [List.length_cons] at hk hf
      obtain ⟨fu, rfl⟩ : ∃ k, fu = k + 1 := ⟨fu - 1, by omega⟩
      obtain ⟨h1, h2, h3⟩ := at_drop hd
      rw [ref13_Safe_l3, if_pos (by simp; omega), h1]
      simp only [Option.bind_some, ref13_unsafe_eq]
      rw [wrapI (n := (k : Int) + 1) (by omega) (by omega), show ((k : Int) + 1) = ((k + 1 : Nat) : Int) from by omega, ih (k + 1) fu h5 h3 (by omega) (by omega)]
      rw [unsA_opt, List.any_cons]
      simp only [Option.bind_some]
      cases unsA x <;> simp
  have k2 : ∀ (nx : Int → Option Bool) (i : Int) (e : DLNode) (tl : List DExpr) (k fu : Nat), SmallN e → e.Items.drop k = tl → k + tl.length = e.Items.length → tl.length < fu → ref13_Safe_l2 nx i e fu (k : Int) = if tl.any unsE || e.Aggs.any unsA then some false else nx (IntKind.i64.wrap (i + 1)) := by
    intro nx i e tl
    induction tl with
    | nil =>
      intro k fu h5 hd hk hf
      obtain ⟨fu, rfl⟩ : ∃ k, fu = k + 1 := ⟨fu - 1, by omega⟩
      simp only [List.length_nil, Nat.add_zero] at hk
      rw [ref13_Safe_l2, if_neg (by simp; omega)]
      have hA := h5.aggs
      have := k3 nx i e e.Aggs 0 FUEL hA rfl (by simp) (fuel_len (by omega))
      exact this
    | cons x tl ih =>
      intro k fu h5 hd hk hf
      simp only [List.length_cons] at hk hf
      have hI := h5.items
      obtain ⟨fu, rfl⟩ : ∃ k, fu = k + 1 := ⟨fu - 1, by omega⟩
      obtain ⟨h1, h2, h3⟩ := at_drop hd
      rw [ref13_Safe_l2, if_pos (by simp; omega), h1]
      simp only [Option.bind_some, ref13_unsafe_eq]
      rw [wrapI (n := (k : Int) + 1) (by omega) (by omega), show ((k : Int) + 1) = ((k + 1 : Nat) : Int) from by omega, ih (k + 1) fu h5 h3 (by omega) (by omega)]
      cases hx : unsE x <;> simp [hx]
  have k1 : ∀ (tl : List DLNode) (i fu : Nat), l.Nodes.drop i = tl → i + tl.length = l.Nodes.length → tl.length < fu → (∀ n ∈ tl, SmallN n) → ref13_Safe_l1 l fu (i : Int) = some (!(tl.any unsN)) := by
    intro tl
    induction tl with
    | nil =>
      intro k fu hd hk hf _
      obtain ⟨fu, rfl⟩ : ∃ k, fu = k + 1 := ⟨fu - 1, by omega⟩
      simp only [List.length_nil, Nat.add_zero] at hk
      rw [ref13_Safe_l1, if_neg (by simp; omega)]; rfl
    | cons x tl ih =>
      intro k fu hd hk hf hm
      simp only [List.length_cons] at hk hf
      have hx := hm x (List.mem_cons_self ..)
      have hI := hx.items
      obtain ⟨fu, rfl⟩ : ∃ k, fu = k + 1 := ⟨fu - 1, by omega⟩
      obtain ⟨h1, h2, h3⟩ := at_drop hd
      rw [ref13_Safe_l1, if_pos (by simp; omega), h1]
      simp only [Option.bind_some, ref13_unsafe_eq]
      have e2 := k2 (ref13_Safe_l1 l fu) (k : Int) x x.Items 0 FUEL hx rfl (by simp) (fuel_len (by omega))
      rw [show ((0 : Int)) = ((0 : Nat) : Int) from rfl, e2]
      rw [wrapI (n := (k : Int) + 1) (by omega) (by omega), show ((k : Int) + 1) = ((k + 1 : Nat) : Int) from by omega, ih (k + 1) fu h3 (by omega) (by omega) (fun n hn => hm n (List.mem_cons_of_mem _ hn))]
      simp only [List.any_cons, unsN]
      cases unsE x.Cond <;> cases x.Items.any unsE <;> cases x.Aggs.any unsA <;> simp
  exact k1 l.Nodes 0 FUEL rfl (by simp) (fuel_len (by omega)) hs
end Go.Proofs.YtbhkincjkpeaoaaGreat

namespace Go.Proofs.YtbhkincjkpeaoaaGreat
open Go

theorem inc_unique : ∀ a b : List Int, a.Pairwise (· < ·) → b.Pairwise (· < ·) → (∀ x, x ∈ a ↔ x ∈ b) → a = b
  | [], [], _, _, _ => rfl
  | [], y :: b, _, _, h => absurd ((h y).2 (List.mem_cons_self ..)) (by simp)
  | x :: a, [], _, _, h => absurd ((h x).1 (List.mem_cons_self ..)) (by simp)
  | x :: a, y :: b, ha, hb, h => by
    obtain ⟨ha1, ha2⟩ := List.pairwise_cons.1 ha
    obtain ⟨hb1, hb2⟩ := List.pairwise_cons.1 hb
    have hxy : x = y := by
      rcases List.mem_cons.1 ((h x).1 (List.mem_cons_self ..)) with h1 | h1
      · exact h1
      · rcases List.mem_cons.1 ((h y).2 (List.mem_cons_self ..)) with h2 | h2
        · exact h2.symm
        · have := hb1 x h1; have := ha1 y h2; omega
    subst hxy
    rw [inc_unique a b ha2 hb2 fun z => ?_]
    constructor
    · intro hz
      have := ha1 z hz
      rcases List.mem_cons.1 ((h z).1 (List.mem_cons_of_mem _ hz)) with h1 | h1
      · omega
      · exact h1
    · intro hz
      have := hb1 z hz
      rcases List.mem_cons.1 ((h z).2 (List.mem_cons_of_mem _ hz)) with h1 | h1
      · omega
      · exact h1
theorem ddup_inc : ∀ (p : Int) (l : List Int), (p :: l).Pairwise (· ≤ ·) → (p :: ddup p l).Pairwise (· < ·)
  | p, [], _ => by rw [ddup_nil]; simp
  | p, x :: t, h => by
    obtain ⟨h1, h2⟩ := List.pairwise_cons.1 h
    have ih := ddup_inc x t h2
    by_cases hx : x = p
    · rw [ddup_same hx, ← hx]; exact ih
    · rw [ddup_ne hx]
      have hpx := h1 x (List.mem_cons_self ..)
      refine List.pairwise_cons.2 ⟨fun z hz => ?_, ih⟩
      rcases List.mem_cons.1 hz with rfl | hz
      · omega
      · have := (List.pairwise_cons.1 ih).1 z hz
        omega
theorem dedup_inc (l : List Int) (h : l.Pairwise (· ≤ ·)) : (dedup l).Pairwise (· < ·) := by
  cases l with
  | nil => exact List.Pairwise.nil
  | cons x t => exact ddup_inc x t h
theorem sortI_inc (l : List Int) : (sortI l).Pairwise (· ≤ ·) := by
  unfold sortI
  have := List.pairwise_mergeSort (le := fun x y : Int => decide (x ≤ y)) (fun a b c h1 h2 => by simp at *; omega) (fun a b => by simp; omega) l
  exact this.imp (fun h => by simpa using h)
def tabs (ns : List DLNode) : List Int := (ns.filter fun n => n.Op == 1).map (·.Table)
theorem Tables_l1_eq : ∀ (ns : List DLNode) (out : List Int), out.length + ns.length ≤ 5000 → logic_Tables_l1 ns out = some (dedup (sortI (out ++ tabs ns)))
  | [], out, h => by
    unfold logic_Tables_l1 sortIF
    rw [if_pos (by simp at h; omega)]
    simp only [Option.bind_some]
    rw [compact_eq _ (by rw [sortI_len]; simp at h; omega)]
    simp [tabs]
  | n :: ns, out, h => by
    simp only [List.length_cons] at h
    unfold logic_Tables_l1
    by_cases h1 : n.Op = 1
    · rw [if_pos (by simp [h1]), app_ok (by simp; omega)]
      simp only [Option.bind_some]
      rw [Tables_l1_eq ns _ (by simp; omega)]
      simp [tabs, h1]
    · rw [if_neg (by simpa using h1), Tables_l1_eq ns _ (by omega)]
      simp [tabs, h1]
def hasT (l : DLogic) (i : Nat) : Bool := l.Nodes.any fun n => (n.Op == 1) && (n.Table == (i : Int))
theorem ref13_Tables_eq {l : DLogic} (hl : l.Nodes.length ≤ 5000) : ref13_Tables l = some (((List.range 4).filter (hasT l)).map fun i : Nat => (i : Int)) := by
  have k2 : ∀ (nx : Nat → List Int → Option (List Int)) (i : Nat) (tl : List DLNode) (k fu : Nat) (out : List Int), out.length ≤ 1000 → l.Nodes.drop k = tl → k + tl.length = l.Nodes.length → tl.length < fu → ref13_Tables_l2 l nx i fu out (k : Int) = nx (i + 1) (if tl.any (fun n => (n.Op == 1) && (n.Table == (i : Int))) then out ++ [(i : Int)] else out) := by
    intro nx i tl
    induction tl with
    | nil =>
      intro k fu out _ hd hk hf
      obtain ⟨fu, rfl⟩ : ∃ k, fu = k + 1 := ⟨fu - 1, by omega⟩
      simp only [List.length_nil, Nat.add_zero] at hk
      rw [ref13_Tables_l2, if_neg (by simp; omega)]; rfl
    | cons x tl ih =>
      intro k fu out ho hd hk hf
      simp only [List.length_cons] at hk hf
      obtain ⟨fu, rfl⟩ : ∃ k, fu = k + 1 := ⟨fu - 1, by omega⟩
      obtain ⟨h1, h2, h3⟩ := at_drop hd
      rw [ref13_Tables_l2, if_pos (by simp; omega), h1]
      simp only [Option.bind_some]
      cases hx : (x.Op == 1) && (x.Table == (i : Int)) with
      | true =>
        rw [if_pos rfl, app_ok (by simp; omega)]
        simp [ref13_Tables_k1, hx]
      | false =>
        rw [if_neg (by decide), wrapI (by omega) (by omega), show ((k : Int) + 1) = ((k + 1 : Nat) : Int) from by omega, ih (k + 1) fu out ho h3 (by omega) (by omega)]
        simp [hx]
  have h1 : ∀ (k i : Nat) (out : List Int), out.length ≤ 500 → ref13_Tables_l1 l (k + 1) i out = ref13_Tables_l1 l k (i + 1) (if hasT l i then out ++ [(i : Int)] else out) := by
    intro k i out ho
    conv => lhs; unfold ref13_Tables_l1
    have := k2 (ref13_Tables_l1 l k) i l.Nodes 0 FUEL out (by omega) rfl (by simp) (fuel_len (by omega))
    exact this
  have hlen : ∀ (b : Bool) (out : List Int) (x : Int), (if b then out ++ [x] else out).length ≤ out.length + 1 := by
    intro b out x; cases b <;> simp
  unfold ref13_Tables
  rw [h1 3 0 [] (by simp), h1 2 1 _ (by have := hlen (hasT l 0) [] ((0 : Nat) : Int); simp only [List.length_nil] at this; omega), h1 1 2 _ ?_, h1 0 3 _ ?_]
  · unfold ref13_Tables_l1
    congr 1
    rw [show List.range 4 = [0, 1, 2, 3] from rfl]
    clear k2 h1 hlen
    cases h0 : hasT l 0 <;> cases h1 : hasT l 1 <;> cases h2 : hasT l 2 <;> cases h3 : hasT l 3 <;> simp [List.filter, h0, h1, h2, h3]
  · cases hasT l 0 <;> cases hasT l 1 <;> cases hasT l 2 <;> simp
  · cases hasT l 0 <;> cases hasT l 1 <;> simp
theorem table_in {n : DLNode} {a b k : List Int} (hs : SmallN n) (h1 : n.Op = 1) (h : ref13_kinds n a b = some (k, true)) : 0 ≤ n.Table ∧ n.Table ≤ 3 := by
  obtain ⟨k1, o, k', g1, g2, _⟩ := scan_same default n a b hs h1
  rw [h] at g2
  injection g2 with g2
  injection g2 with _ g2
  subst g2
  unfold logic_checker_scan at g1
  split at g1
  · rename_i hc
    simp only [Bool.and_eq_true, decide_eq_true_eq] at hc
    omega
  · simp at g1
theorem tables_same {l : DLogic} (h : ∀ n ∈ l.Nodes, n.Op = 1 → 0 ≤ n.Table ∧ n.Table ≤ 3) : dedup (sortI (tabs l.Nodes)) = ((List.range 4).filter (hasT l)).map fun i : Nat => (i : Int) := by
  refine inc_unique _ _ (dedup_inc _ (sortI_inc _)) ?_ fun x => ?_
  · refine List.Pairwise.map _ (fun a b (hab : a < b) => by show (a : Int) < (b : Int); omega) (List.Pairwise.filter _ List.pairwise_lt_range)
  · rw [mem_dedup, mem_sortI]
    simp only [tabs, List.mem_map, List.mem_filter, List.mem_range, hasT, List.any_eq_true, Bool.and_eq_true, beq_iff_eq]
    constructor
    · rintro ⟨n, ⟨hn, h1⟩, rfl⟩
      have := h n hn h1
      exact ⟨n.Table.toNat, ⟨by omega, n, hn, h1, by omega⟩, by omega⟩
    · rintro ⟨i, ⟨hi, n, hn, h1, h2⟩, rfl⟩
      exact ⟨n, ⟨hn, h1⟩, h2⟩
def partOf (l : DLogic) (e p : Nat) : DLogic := ⟨((l.Nodes.take (p + 1)).drop e).map (shN (-(e : Int)))⟩
theorem partOf_len {l : DLogic} {e p : Nat} (hp : p < l.Nodes.length) : (partOf l e p).Nodes.length = p + 1 - e := by
  unfold partOf; simp; omega
theorem partOf_small {l : DLogic} (h : SmallL l) (e p : Nat) : SmallL (partOf l e p) :=
  mem_shN fun n hn => h n (List.mem_of_mem_take (List.mem_of_mem_drop hn))
theorem Part_l1_eq {l : DLogic} (hS : SmallL l) (hl : l.Nodes.length ≤ 60) {p e : Nat} (hp : p < l.Nodes.length) (he : e ≤ 100) : ∀ (tl : List DLNode) (i fu : Nat) (out : DLogic), (l.Nodes.take (p + 1)).drop i = tl → i + tl.length = p + 1 → tl.length < fu → out.Nodes.length ≤ i → logic_Part_l1 l (p : Int) (e : Int) fu (i : Int) out = some (⟨out.Nodes ++ tl.map (shN (-(e : Int)))⟩, 0) := by
  intro tl
  induction tl with
  | nil =>
    intro i fu out hd hi hf _
    obtain ⟨fu, rfl⟩ : ∃ k, fu = k + 1 := ⟨fu - 1, by omega⟩
    simp only [List.length_nil, Nat.add_zero] at hi
    rw [logic_Part_l1, if_neg (by simp; omega)]
    simp
  | cons x tl ih =>
    intro i fu out hd hi hf ho
    simp only [List.length_cons] at hi hf
    obtain ⟨fu, rfl⟩ : ∃ k, fu = k + 1 := ⟨fu - 1, by omega⟩
    obtain ⟨h1, h2, h3⟩ := at_drop hd
    have h1' : idx l.Nodes (i : Int) = some x := by
      rw [idx_nat] at h1 ⊢
      rw [List.getElem?_take_of_lt (by omega)] at h1
      exact h1
    have hx : SmallN x := hS x (by rw [idx_nat] at h1'; exact List.mem_of_getElem? h1')
    rw [logic_Part_l1, if_pos (by simp; omega), h1']
    simp only [Option.bind_some]
    rw [wrapI (n := (0 : Int) - (e : Int)) (by omega) (by omega), logic_copied_eq hx]
    simp only [Option.bind_some]
    rw [app_ok (by simp; omega), wrapI (by omega) (by omega), show ((i : Int) + 1) = ((i + 1 : Nat) : Int) from by omega]
    simp only [Option.bind_some]
    rw [ih (i + 1) fu _ h3 (by omega) (by omega) (by simp; omega)]
    simp
theorem ref13_Part_l1_eq {l : DLogic} (hl : l.Nodes.length ≤ 60) {p e s : Nat} (hp : p < l.Nodes.length) (hs : e + s = p + 1) : ∀ (tl : List DLNode) (i fu : Nat) (out : DLogic), (l.Nodes.take (p + 1)).drop i = tl → i + tl.length = p + 1 → tl.length < fu → out.Nodes.length ≤ i → ref13_Part_l1 l (p : Int) (s : Int) fu (i : Int) out = some ⟨out.Nodes ++ tl.map (shN (-(e : Int)))⟩ := by
  intro tl
  induction tl with
  | nil =>
    intro i fu out hd hi hf _
    obtain ⟨fu, rfl⟩ : ∃ k, fu = k + 1 := ⟨fu - 1, by omega⟩
    simp only [List.length_nil, Nat.add_zero] at hi
    rw [ref13_Part_l1, if_neg (by simp; omega)]
    simp
  | cons x tl ih =>
    intro i fu out hd hi hf ho
    simp only [List.length_cons] at hi hf
    obtain ⟨fu, rfl⟩ : ∃ k, fu = k + 1 := ⟨fu - 1, by omega⟩
    obtain ⟨h1, h2, h3⟩ := at_drop hd
    have h1' : idx l.Nodes (i : Int) = some x := by
      rw [idx_nat] at h1 ⊢
      rw [List.getElem?_take_of_lt (by omega)] at h1
      exact h1
    rw [ref13_Part_l1, if_pos (by simp; omega), h1']
    simp only [Option.bind_some]
    rw [wrapI (n := (p : Int) - (s : Int)) (by omega) (by omega), wrapI (n := (p : Int) - (s : Int) + 1) (by omega) (by omega), wrapI (n := (0 : Int) - _) (by omega) (by omega), show (0 : Int) - ((p : Int) - (s : Int) + 1) = -(e : Int) from by omega, ref13_Copy_eq]
    simp only [Option.bind_some]
    rw [app_ok (by simp; omega), wrapI (by omega) (by omega), show ((i : Int) + 1) = ((i + 1 : Nat) : Int) from by omega]
    simp only [Option.bind_some]
    rw [ih (i + 1) fu _ h3 (by omega) (by omega) (by simp; omega)]
    simp
def begF (first : List Int) (p : Nat) : Nat := p + 1 - szF first p
theorem part_eq {l : DLogic} (hS : SmallL l) {ob : Dchecker} {j : Int} (hlook : logic_look l = some (ob, j, true)) (hL : LookOK l ob) {p : Nat} (hp : p < l.Nodes.length) : logic_Part l (p : Int) = some (partOf l (begF ob.first p) p, 0) ∧ ref13_Part l (p : Int) = some (partOf l (begF ob.first p) p) := by
  have hle := hL.le
  obtain ⟨N0, hf⟩ := hL.inv.at hp
  have h1 := N0.pos
  have h2 := N0.le
  have hb : (begF ob.first p : Int) = (p : Int) + 1 - (szF ob.first p : Int) := by unfold begF; omega
  have hb2 : begF ob.first p + szF ob.first p = p + 1 := by unfold begF; omega
  have hfi : idx ob.first (p : Int) = some (begF ob.first p : Int) := by rw [idx_nat, hf, hb]
  constructor
  · unfold logic_Part
    rw [hlook]
    simp only [Option.bind_some, Bool.not_true, Bool.false_eq_true, if_false]
    rw [if_neg (by simp; omega), hfi]
    simp only [Option.bind_some]
    rw [Part_l1_eq hS hle hp (by omega) ((l.Nodes.take (p + 1)).drop (begF ob.first p)) (begF ob.first p) FUEL _ rfl (by simp; omega) (fuel_len (by simp; omega)) (by simp)]
    rfl
  · unfold ref13_Part
    have hs : ref13_Size l (p : Int) = some (szF ob.first p : Int) := N0.size FUEL (fuel_len (by omega))
    rw [hs]
    simp only [Option.bind_some]
    rw [wrapI (n := (p : Int) - _) (by omega) (by omega), wrapI (by omega) (by omega), show (p : Int) - (szF ob.first p : Int) + 1 = (begF ob.first p : Int) from by omega]
    rw [ref13_Part_l1_eq hle hp hb2 ((l.Nodes.take (p + 1)).drop (begF ob.first p)) (begF ob.first p) FUEL _ rfl (by simp; omega) (fuel_len (by simp; omega)) (by simp)]
    rfl
theorem nodes_facts {l : DLogic} (hS : SmallL l) {ob : Dchecker} (hL : LookOK l ob) : ∀ n ∈ l.Nodes, ExprsOK n ∧ (n.Op = 1 → 0 ≤ n.Table ∧ n.Table ≤ 3) := by
  intro n hn
  obtain ⟨j, hj, rfl⟩ := List.mem_iff_getElem.1 hn
  obtain ⟨m, F⟩ := facts_of hL.inv hL.le hj
  have hm : m = l.Nodes[j] := by
    have := F.node
    rw [idx_nat, List.getElem?_eq_getElem hj] at this
    injection this with this
    exact this.symm
  subst hm
  exact ⟨exprs_ok (hS _ hn) F.op F.own F.kinds, fun h1 => table_in (hS _ hn) h1 F.kinds⟩
theorem logicTells_true (l : DLogic) (place : Int) : law13_LogicTells l place = some true := by
  unfold law13_LogicTells
  rw [wakes_true]
  simp only [Option.bind_some, Bool.not_true, Bool.false_eq_true, if_false]
  obtain ⟨b, h1, g1⟩ := over_le l
  rw [h1]
  simp only [Option.bind_some]
  cases b with
  | true => rfl
  | false =>
    simp only [Bool.false_eq_true, if_false]
    obtain ⟨hl, hS⟩ := g1 rfl
    obtain ⟨r1, ⟨j, r2⟩, ob, j', r3, r4⟩ := right_eq hS
    cases hr : rightL l with
    | false =>
      rw [hr] at r1 r2 r3
      unfold logic_Part logic_Safe logic_Tables
      rw [r3, r2, r1]
      rfl
    | true =>
      rw [hr] at r1 r2 r3
      obtain ⟨hL, _⟩ := r4 hr
      have hle := hL.le
      have hfacts := nodes_facts hS hL
      have hSafe : logic_Safe l = some (!(l.Nodes.any unsN)) := by
        unfold logic_Safe
        rw [r2]
        simp only [if_true, Option.bind_some]
        rw [if_neg (by decide)]
        exact Safe_l1_eq l.Nodes (fun n hn => (hfacts n hn).1)
      have hTab : logic_Tables l = some (((List.range 4).filter (hasT l)).map fun i : Nat => (i : Int)) := by
        unfold logic_Tables
        rw [r2]
        simp only [if_true, Option.bind_some]
        rw [if_neg (by decide), Tables_l1_eq l.Nodes [] (by simp; omega), List.nil_append, tables_same (fun n hn => (hfacts n hn).2)]
      rw [hSafe, hTab, r1, ref13_Safe_eq hS (by omega), ref13_Tables_eq (by omega)]
      by_cases hp : 0 ≤ place ∧ place < (l.Nodes.length : Int)
      · have e : place = ((place.toNat : Nat) : Int) := by omega
        obtain ⟨p1, p2⟩ := part_eq hS r3 hL (p := place.toNat) (by omega)
        rw [← e] at p1 p2
        rw [p1, p2]
        simp only [Option.bind_some, Bool.not_true, Bool.false_eq_true, if_false, bne_self_eq_false, Bool.not_false, if_true, ref13_SameInts_self]
        rw [if_neg (by simp; omega), if_pos (by decide), ref13_Same_self (partOf_small hS _ _) (by rw [partOf_len (by omega)]; omega)]
        rfl
      · have p1 : logic_Part l place = some (⟨[]⟩, 2) := by
          unfold logic_Part
          rw [r3]
          simp only [Option.bind_some, Bool.not_true, Bool.false_eq_true, if_false]
          rw [if_pos (by simp; omega)]
        rw [p1]
        simp only [Option.bind_some, Bool.not_true, Bool.false_eq_true, if_false, bne_self_eq_false, Bool.not_false, if_true, ref13_SameInts_self]
        rw [if_pos (by simp; omega)]
        rfl
end Go.Proofs.YtbhkincjkpeaoaaGreat

