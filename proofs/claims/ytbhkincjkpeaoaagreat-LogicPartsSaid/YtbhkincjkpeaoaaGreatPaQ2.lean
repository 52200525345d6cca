/- Facts of this claim: L9, L10, L11. -/
import Derived.Test.YtbhkincjkpeaoaaGreatPaQ1
namespace Go.Proofs.YtbhkincjkpeaoaaGreat
open Go

theorem kindP_right {e : DExpr} {kinds : List Int} (h : (kindP e kinds).2 = 0) : rightE e.Nodes = true := by
  unfold kindP at h
  cases hr : rightE e.Nodes with
  | true => rfl
  | false => rw [hr] at h; simp at h
theorem truB_right {e : DExpr} {kinds : List Int} (h : truB e kinds = true) : rightE e.Nodes = true := by
  unfold truB at h
  simp only [Bool.and_eq_true, beq_iff_eq] at h
  exact kindP_right h.1
theorem agR_right {g : DAgg} {kinds : List Int} (h : (agR g kinds).2 = true) (hp : 0 < g.Arg.Nodes.length) : rightE g.Arg.Nodes = true := by
  rw [← (ag_same g kinds).1] at h
  unfold agP at h
  by_cases h1 : g.Tag = 1
  · rw [if_pos h1] at h
    simp at h
    rw [h] at hp; simp at hp
  rw [if_neg h1] at h
  by_cases h2 : g.Tag = 2
  · rw [if_pos h2] at h; exact kindP_right (by simpa using h)
  rw [if_neg h2] at h
  by_cases h3 : g.Tag = 3
  · rw [if_pos h3] at h
    simp only [Bool.and_eq_true, beq_iff_eq] at h
    exact kindP_right h.1
  rw [if_neg h3] at h
  by_cases h4 : g.Tag = 4 ∨ g.Tag = 5
  · rw [if_pos h4] at h; exact kindP_right (by simpa using h)
  · rw [if_neg h4] at h; cases h
theorem l4_right (n : DLNode) (a : List Int) : ∀ (tl : List DExpr) (i fu : Nat) (out : List Int) (ok : Bool) (k : List Int), n.Items.drop i = tl → n.Items.length ≤ 5000 → ref13_kinds_l4 n a fu out ok (i : Int) = some (k, true) → ok = true ∧ ∀ e ∈ tl, rightE e.Nodes = true := by
  intro tl
  induction tl with
  | nil =>
    intro i fu out ok k hd hl h
    cases fu with
    | zero => cases h
    | succ fu =>
      have := end_drop hd
      rw [ref13_kinds_l4, if_neg (by simp; omega)] at h
      injection h with h
      injection h with _ h
      simp only [Bool.and_eq_true] at h
      exact ⟨h.1.1, by simp⟩
  | cons x tl ih =>
    intro i fu out ok k hd hl h
    cases fu with
    | zero => cases h
    | succ fu =>
      obtain ⟨h1, h2, h3⟩ := at_drop hd
      rw [ref13_kinds_l4, if_pos (by simp; omega), h1] at h
      simp only [Option.bind_some, ref10_Kind_eq] at h
      cases ha : app out [(kindP x a).1] with
      | none => rw [ha] at h; cases h
      | some o =>
        rw [ha] at h
        simp only [Option.bind_some] at h
        rw [wrapI (by omega) (by omega), show ((i : Int) + 1) = ((i + 1 : Nat) : Int) from by omega] at h
        obtain ⟨g1, g2⟩ := ih (i + 1) fu o _ k h3 hl h
        simp only [Bool.and_eq_true, beq_iff_eq] at g1
        exact ⟨g1.1, fun e he => by
          rcases List.mem_cons.1 he with rfl | he
          · exact kindP_right g1.2
          · exact g2 e he⟩
theorem l3_right (n : DLNode) (a : List Int) : ∀ (tl : List DAgg) (i fu : Nat) (out : List Int) (ok : Bool) (k : List Int), n.Aggs.drop i = tl → n.Aggs.length ≤ 5000 → ref13_kinds_l3 n a fu out ok (i : Int) = some (k, true) → ok = true ∧ ∀ g ∈ tl, 0 < g.Arg.Nodes.length → rightE g.Arg.Nodes = true := by
  intro tl
  induction tl with
  | nil =>
    intro i fu out ok k hd hl h
    cases fu with
    | zero => cases h
    | succ fu =>
      have := end_drop hd
      rw [ref13_kinds_l3, if_neg (by simp; omega)] at h
      injection h with h
      injection h with _ h
      simp only [Bool.and_eq_true] at h
      exact ⟨h.1.1.1, by simp⟩
  | cons x tl ih =>
    intro i fu out ok k hd hl h
    cases fu with
    | zero => cases h
    | succ fu =>
      obtain ⟨h1, h2, h3⟩ := at_drop hd
      rw [ref13_kinds_l3, if_pos (by simp; omega), h1] at h
      simp only [Option.bind_some, ref13_aggregate_eq] at h
      cases ha : app out [(agR x a).1] with
      | none => rw [ha] at h; cases h
      | some o =>
        rw [ha] at h
        simp only [Option.bind_some] at h
        rw [wrapI (by omega) (by omega), show ((i : Int) + 1) = ((i + 1 : Nat) : Int) from by omega] at h
        obtain ⟨g1, g2⟩ := ih (i + 1) fu o _ k h3 hl h
        simp only [Bool.and_eq_true] at g1
        exact ⟨g1.1, fun g hg => by
          rcases List.mem_cons.1 hg with rfl | hg
          · exact agR_right g1.2
          · exact g2 g hg⟩
theorem l2_right (n : DLNode) (a : List Int) : ∀ (tl : List Int) (i fu : Nat) (out : List Int) (k : List Int), n.Keys.drop i = tl → n.Keys.length ≤ 5000 → ref13_kinds_l2 n a fu out (i : Int) = some (k, true) → ∃ o, ref13_kinds_l3 n a FUEL o true 0 = some (k, true) := by
  intro tl
  induction tl with
  | nil =>
    intro i fu out k hd hl h
    cases fu with
    | zero => cases h
    | succ fu =>
      have := end_drop hd
      rw [ref13_kinds_l2, if_neg (by simp; omega)] at h
      exact ⟨_, h⟩
  | cons x tl ih =>
    intro i fu out k hd hl h
    cases fu with
    | zero => cases h
    | succ fu =>
      obtain ⟨h1, h2, h3⟩ := at_drop hd
      rw [ref13_kinds_l2, if_pos (by simp; omega), h1] at h
      simp only [Option.bind_some] at h
      split at h
      · simp at h
      · cases hx : idx a x with
        | none => rw [hx] at h; cases h
        | some y =>
          rw [hx] at h
          simp only [Option.bind_some] at h
          cases ha : app out [y] with
          | none => rw [ha] at h; cases h
          | some o =>
            rw [ha] at h
            simp only [Option.bind_some] at h
            rw [wrapI (by omega) (by omega), show ((i : Int) + 1) = ((i + 1 : Nat) : Int) from by omega] at h
            exact ih (i + 1) fu o k h3 hl h
structure ExprsOK (n : DLNode) : Prop where
  cond : 0 < n.Cond.Nodes.length → rightE n.Cond.Nodes = true
  items : ∀ e ∈ n.Items, 0 < e.Nodes.length → rightE e.Nodes = true
  args : ∀ g ∈ n.Aggs, 0 < g.Arg.Nodes.length → rightE g.Arg.Nodes = true
theorem own_none {n : DLNode} (h : ownB n = true) : (n.Op ≠ 2 → n.Op ≠ 3 → n.Cond.Nodes.length = 0) ∧ (n.Op ≠ 4 → n.Aggs.length = 0) ∧ (n.Op ≠ 5 → n.Items.length = 0) := by
  have e := ref13_Own_eq n
  rw [h] at e
  unfold ref13_Own at e
  split at e
  · simp at e
  · split at e
    · simp at e
    · split at e
      · simp at e
      · rename_i h1 h2 h3
        simp only [Bool.or_eq_true, Bool.and_eq_true, bne_iff_ne, decide_eq_true_eq, not_or, not_and] at h1 h2 h3
        refine ⟨fun a b => ?_, fun a => ?_, fun a => ?_⟩
        · have := h2.2 ⟨a, b⟩; omega
        · have := (h3.1 a).2; omega
        · have := h3.2 a; omega
theorem exprs_ok {n : DLNode} {a b k : List Int} (hs : SmallN n) (hop : op8 n.Op = true) (ho : ownB n = true) (h : ref13_kinds n a b = some (k, true)) : ExprsOK n := by
  obtain ⟨o1, o2, o3⟩ := own_none ho
  have hnil : ∀ {α : Type} {l : List α} {p : α → Prop}, l.length = 0 → ∀ x ∈ l, p x := by
    intro α l p hl x hx
    rw [List.eq_nil_of_length_eq_zero hl] at hx; cases hx
  unfold ref13_kinds at h
  rcases op8_cases hop with c | c | c | c | c | c | c | c
  · exact ⟨fun hp => by have := o1 (by omega) (by omega); omega, hnil (o3 (by omega)), hnil (o2 (by omega))⟩
  · rw [if_neg (by simp [c]), if_pos (by simp [c])] at h
    refine ⟨fun _ => ?_, hnil (o3 (by omega)), hnil (o2 (by omega))⟩
    cases h1 : app ([] : List Int) a with
    | none => rw [h1] at h; cases h
    | some l1 =>
      rw [h1] at h
      simp only [Option.bind_some] at h
      cases h2 : app l1 b with
      | none => rw [h2] at h; cases h
      | some l2 =>
        rw [h2] at h
        simp only [Option.bind_some, ref13_truth_eq] at h
        injection h with h
        injection h with _ h
        exact truB_right h
  · rw [if_neg (by simp [c]), if_neg (by simp [c]), if_pos (by simp [c])] at h
    refine ⟨fun _ => ?_, hnil (o3 (by omega)), hnil (o2 (by omega))⟩
    simp only [Option.bind_some, ref13_truth_eq] at h
    injection h with h
    injection h with _ h
    exact truB_right h
  · rw [if_neg (by simp [c]), if_neg (by simp [c]), if_neg (by simp [c]), if_pos (by simp [c])] at h
    obtain ⟨o, h'⟩ := l2_right n a n.Keys 0 FUEL [] k rfl hs.keys h
    exact ⟨fun hp => by have := o1 (by omega) (by omega); omega, hnil (o3 (by omega)), (l3_right n a n.Aggs 0 FUEL o true k rfl hs.aggs h').2⟩
  · rw [if_neg (by simp [c]), if_neg (by simp [c]), if_neg (by simp [c]), if_neg (by simp [c]), if_pos (by simp [c])] at h
    exact ⟨fun hp => by have := o1 (by omega) (by omega); omega, fun e he _ => (l4_right n a n.Items 0 FUEL [] true k rfl hs.items h).2 e he, hnil (o2 (by omega))⟩
  · exact ⟨fun hp => by have := o1 (by omega) (by omega); omega, hnil (o3 (by omega)), hnil (o2 (by omega))⟩
  · exact ⟨fun hp => by have := o1 (by omega) (by omega); omega, hnil (o3 (by omega)), hnil (o2 (by omega))⟩
  · exact ⟨fun hp => by have := o1 (by omega) (by omega); omega, hnil (o3 (by omega)), hnil (o2 (by omega))⟩
def unsE (e : DExpr) : Bool := !e.Nodes.isEmpty && e.Nodes.any arB
def unsA (g : DAgg) : Bool := if g.Tag = 3 then true else unsE g.Arg
def unsN (n : DLNode) : Bool := unsE n.Cond || n.Items.any unsE || n.Aggs.any unsA
theorem IndexFunc_enode_eq {f : DENode → Option Bool} {g : DENode → Bool} (hf : ∀ v, f v = some (g v)) : ∀ (l : List DENode) (i : Nat), ∃ j : Int, slices_IndexFunc_api_ENode_api_ENode_l1 f l i = some j ∧ decide (0 ≤ j) = l.any g
  | [], i => ⟨-1, rfl, rfl⟩
  | e :: l, i => by
    unfold slices_IndexFunc_api_ENode_api_ENode_l1
    rw [hf, Option.bind_some]
    cases h : g e with
    | true => exact ⟨(i : Int), by simp, by simp [h]⟩
    | false =>
      obtain ⟨j, h1, h2⟩ := IndexFunc_enode_eq hf l (i + 1)
      exact ⟨j, by simpa using h1, by rw [h2]; simp [h]⟩
theorem IndexFunc_expr_eq {f : DExpr → Option Bool} {g : DExpr → Bool} : ∀ (l : List DExpr) (i : Nat), (∀ v ∈ l, f v = some (g v)) → ∃ j : Int, slices_IndexFunc_api_Expr_api_Expr_l1 f l i = some j ∧ decide (0 ≤ j) = l.any g
  | [], i, _ => ⟨-1, rfl, rfl⟩
  | e :: l, i, hf => by
    unfold slices_IndexFunc_api_Expr_api_Expr_l1
    rw [hf e (List.mem_cons_self ..), Option.bind_some]
    cases h : g e with
    | true => exact ⟨(i : Int), by simp, by simp [h]⟩
    | false =>
      obtain ⟨j, h1, h2⟩ := IndexFunc_expr_eq l (i + 1) (fun v hv => hf v (List.mem_cons_of_mem _ hv))
      exact ⟨j, by simpa using h1, by rw [h2]; simp [h]⟩
theorem IndexFunc_agg_eq {f : DAgg → Option Bool} {g : DAgg → Bool} : ∀ (l : List DAgg) (i : Nat), (∀ v ∈ l, f v = some (g v)) → ∃ j : Int, slices_IndexFunc_api_Agg_api_Agg_l1 f l i = some j ∧ decide (0 ≤ j) = l.any g
  | [], i, _ => ⟨-1, rfl, rfl⟩
  | e :: l, i, hf => by
    unfold slices_IndexFunc_api_Agg_api_Agg_l1
    rw [hf e (List.mem_cons_self ..), Option.bind_some]
    cases h : g e with
    | true => exact ⟨(i : Int), by simp, by simp [h]⟩
    | false =>
      obtain ⟨j, h1, h2⟩ := IndexFunc_agg_eq l (i + 1) (fun v hv => hf v (List.mem_cons_of_mem _ hv))
      exact ⟨j, by simpa using h1, by rw [h2]; simp [h]⟩
theorem lenpos2 {α : Type} (l : List α) : decide ((0 : Int) < (l.length : Int)) = !l.isEmpty := lenpos l
theorem Safe_1_eq (e : DExpr) (h : 0 < e.Nodes.length → rightE e.Nodes = true) : logic_Safe_1 e = some (unsE e) := by
  unfold logic_Safe_1 unsE
  rw [lenpos2]
  by_cases hp : 0 < e.Nodes.length
  · have hr := h hp
    have hl := rightE_len hr
    have : e.Nodes.isEmpty = false := by cases hh : e.Nodes with
      | nil => rw [hh] at hp; simp at hp
      | cons a l => rfl
    simp only [this, Bool.not_false, if_true, Bool.true_and]
    unfold expr_Safe
    rw [expr_Check_eq e (by omega), hr]
    simp only [if_true, Option.bind_some]
    rw [if_pos (by decide)]
    unfold slices_ContainsFunc_api_ENode_api_ENode slices_IndexFunc_api_ENode_api_ENode
    obtain ⟨j, h1, h2⟩ := IndexFunc_enode_eq (f := expr_Safe_1) (g := arB) (fun v => rfl) e.Nodes 0
    rw [h1]
    simp only [Option.bind_some, h2, Bool.not_not]
  · have : e.Nodes.isEmpty = true := by cases hh : e.Nodes with
      | nil => rfl
      | cons a l => rw [hh] at hp; simp at hp
    simp [this]
theorem Safe_l1_eq : ∀ ns : List DLNode, (∀ n ∈ ns, ExprsOK n) → logic_Safe_l1 ns = some (!(ns.any unsN))
  | [], _ => rfl
  | n :: ns, h => by
    have hn := h n (List.mem_cons_self ..)
    unfold logic_Safe_l1
    rw [Safe_1_eq _ hn.cond, Safe_l1_eq ns (fun m hm => h m (List.mem_cons_of_mem _ hm))]
    have c1 : slices_ContainsFunc_api_Expr_api_Expr n.Items logic_Safe_1 = some (n.Items.any unsE) := by
      unfold slices_ContainsFunc_api_Expr_api_Expr slices_IndexFunc_api_Expr_api_Expr
      obtain ⟨j, h1, h2⟩ := IndexFunc_expr_eq (f := logic_Safe_1) (g := unsE) n.Items 0 (fun v hv => Safe_1_eq v (hn.items v hv))
      rw [h1, Option.bind_some, h2]
    have c2 : slices_ContainsFunc_api_Agg_api_Agg n.Aggs (logic_Safe_2 logic_Safe_1) = some (n.Aggs.any unsA) := by
      unfold slices_ContainsFunc_api_Agg_api_Agg slices_IndexFunc_api_Agg_api_Agg
      obtain ⟨j, h1, h2⟩ := IndexFunc_agg_eq (f := logic_Safe_2 logic_Safe_1) (g := unsA) n.Aggs 0 (fun v hv => by
        unfold logic_Safe_2 unsA
        rw [Safe_1_eq _ (hn.args v hv)]
        by_cases h3 : v.Tag = 3 <;> simp [h3])
      rw [h1, Option.bind_some, h2]
    rw [c1, c2]
    simp only [Option.bind_some, List.any_cons, unsN]
    cases unsE n.Cond <;> cases n.Items.any unsE <;> cases n.Aggs.any unsA <;> simp
end Go.Proofs.YtbhkincjkpeaoaaGreat

namespace Go.Proofs.YtbhkincjkpeaoaaGreat
open Go

theorem table_in {n : DLNode} {a b k : List Int} (hs : SmallN n) (h1 : n.Op = 1) (h : ref13_kinds n a b = some (k, true)) : 0 ≤ n.Table ∧ n.Table ≤ 3 := by
  obtain ⟨k1, o, k', g1, g2, _⟩ := scan_same default n a b hs h1
  rw [h] at g2
  injection g2 with g2
  injection g2 with _ g2
  subst g2
  unfold logic_checker_scan at g1
  split at g1
  · rename_i hc
    simp only [Bool.and_eq_true, decide_eq_true_eq] at hc
    omega
  · simp at g1
def partOf (l : DLogic) (e p : Nat) : DLogic := ⟨((l.Nodes.take (p + 1)).drop e).map (shN (-(e : Int)))⟩
theorem partOf_len {l : DLogic} {e p : Nat} (hp : p < l.Nodes.length) : (partOf l e p).Nodes.length = p + 1 - e := by
  unfold partOf; simp; omega
theorem partOf_small {l : DLogic} (h : SmallL l) (e p : Nat) : SmallL (partOf l e p) :=
  mem_shN fun n hn => h n (List.mem_of_mem_take (List.mem_of_mem_drop hn))
theorem Part_l1_eq {l : DLogic} (hS : SmallL l) (hl : l.Nodes.length ≤ 60) {p e : Nat} (hp : p < l.Nodes.length) (he : e ≤ 100) : ∀ (tl : List DLNode) (i fu : Nat) (out : DLogic), (l.Nodes.take (p + 1)).drop i = tl → i + tl.length = p + 1 → tl.length < fu → out.Nodes.length ≤ i → logic_Part_l1 l (p : Int) (e : Int) fu (i : Int) out = some (⟨out.Nodes ++ tl.map (shN (-(e : Int)))⟩, 0) := by
  intro tl
  induction tl with
  | nil =>
    intro i fu out hd hi hf _
    obtain ⟨fu, rfl⟩ : ∃ k, fu = k + 1 := ⟨fu - 1, by omega⟩
    simp only [List.length_nil, Nat.add_zero] at hi
    rw [logic_Part_l1, if_neg (by simp; omega)]
    simp
  | cons x tl ih =>
    intro i fu out hd hi hf ho
    simp only [List.length_cons] at hi hf
    obtain ⟨fu, rfl⟩ : ∃ k, fu = k + 1 := ⟨fu - 1, by omega⟩
    obtain ⟨h1, h2, h3⟩ := at_drop hd
    have h1' : idx l.Nodes (i : Int) = some x := by
      rw [idx_nat] at h1 ⊢
      rw [List.getElem?_take_of_lt (by omega)] at h1
      exact h1
    have hx : SmallN x := hS x (by rw [idx_nat] at h1'; exact List.mem_of_getElem? h1')
    rw [logic_Part_l1, if_pos (by simp; omega), h1']
    simp only [Option.bind_some]
    rw [wrapI (n := (0 : Int) - (e : Int)) (by omega) (by omega), logic_copied_eq hx]
    simp only [Option.bind_some]
    rw [app_ok (by simp; omega), wrapI (by omega) (by omega), show ((i : Int) + 1) = ((i + 1 : Nat) : Int) from by omega]
    simp only [Option.bind_some]
    rw [ih (i + 1) fu _ h3 (by omega) (by omega) (by simp; omega)]
    simp
theorem ref13_Part_l1_eq {l : DLogic} (hl : l.Nodes.length ≤ 60) {p e s : Nat} (hp : p < l.Nodes.length) (hs : e + s = p + 1) : ∀ (tl : List DLNode) (i fu : Nat) (out : DLogic), (l.Nodes.take (p + 1)).drop i = tl → i + tl.length = p + 1 → tl.length < fu → out.Nodes.length ≤ i → ref13_Part_l1 l (p : Int) (s : Int) fu (i : Int) out = some ⟨out.Nodes ++ tl.map (shN (-(e : Int)))⟩ := by
  intro tl
  induction tl with
  | nil =>
    intro i fu out hd hi hf _
    obtain ⟨fu, rfl⟩ : ∃ k, fu = k + 1 := ⟨fu - 1, by omega⟩
    simp only [List.length_nil, Nat.add_zero] at hi
    rw [ref13_Part_l1, if_neg (by simp; omega)]
    simp
  | cons x tl ih =>
    intro i fu out hd hi hf ho
    simp only [List.length_cons] at hi hf
    obtain ⟨fu, rfl⟩ : ∃ k, fu = k + 1 := ⟨fu - 1, by omega⟩
    obtain ⟨h1, h2, h3⟩ := at_drop hd
    have h1' : idx l.Nodes (i : Int) = some x := by
      rw [idx_nat] at h1 ⊢
      rw [List.getElem?_take_of_lt (by omega)] at h1
      exact h1
    rw [ref13_Part_l1, if_pos (by simp; omega), h1']
    simp only [Option.bind_some]
    rw [wrapI (n := (p : Int) - (s : Int)) (by omega) (by omega), wrapI (n := (p : Int) - (s : Int) + 1) (by omega) (by omega), wrapI (n := (0 : Int) - _) (by omega) (by omega), show (0 : Int) - ((p : Int) - (s : Int) + 1) = -(e : Int) from by omega, ref13_Copy_eq]
    simp only [Option.bind_some]
    rw [app_ok (by simp; omega), wrapI (by omega) (by omega), show ((i : Int) + 1) = ((i + 1 : Nat) : Int) from by omega]
    simp only [Option.bind_some]
    rw [ih (i + 1) fu _ h3 (by omega) (by omega) (by simp; omega)]
    simp
def begF (first : List Int) (p : Nat) : Nat := p + 1 - szF first p
theorem part_eq {l : DLogic} (hS : SmallL l) {ob : Dchecker} {j : Int} (hlook : logic_look l = some (ob, j, true)) (hL : LookOK l ob) {p : Nat} (hp : p < l.Nodes.length) : logic_Part l (p : Int) = some (partOf l (begF ob.first p) p, 0) ∧ ref13_Part l (p : Int) = some (partOf l (begF ob.first p) p) := by
  have hle := hL.le
  obtain ⟨N0, hf⟩ := hL.inv.at hp
  have h1 := N0.pos
  have h2 := N0.le
  have hb : (begF ob.first p : Int) = (p : Int) + 1 - (szF ob.first p : Int) := by unfold begF; omega
  have hb2 : begF ob.first p + szF ob.first p = p + 1 := by unfold begF; omega
  have hfi : idx ob.first (p : Int) = some (begF ob.first p : Int) := by rw [idx_nat, hf, hb]
  constructor
  · unfold logic_Part
    rw [hlook]
    simp only [Option.bind_some, Bool.not_true, Bool.false_eq_true, if_false]
    rw [if_neg (by simp; omega), hfi]
    simp only [Option.bind_some]
    rw [Part_l1_eq hS hle hp (by omega) ((l.Nodes.take (p + 1)).drop (begF ob.first p)) (begF ob.first p) FUEL _ rfl (by simp; omega) (fuel_len (by simp; omega)) (by simp)]
    rfl
  · unfold ref13_Part
    have hs : ref13_Size l (p : Int) = some (szF ob.first p : Int) := N0.size FUEL (fuel_len (by omega))
    rw [hs]
    simp only [Option.bind_some]
    rw [wrapI (n := (p : Int) - _) (by omega) (by omega), wrapI (by omega) (by omega), show (p : Int) - (szF ob.first p : Int) + 1 = (begF ob.first p : Int) from by omega]
    rw [ref13_Part_l1_eq hle hp hb2 ((l.Nodes.take (p + 1)).drop (begF ob.first p)) (begF ob.first p) FUEL _ rfl (by simp; omega) (fuel_len (by simp; omega)) (by simp)]
    rfl
theorem nodes_facts {l : DLogic} (hS : SmallL l) {ob : Dchecker} (hL : LookOK l ob) : ∀ n ∈ l.Nodes, ExprsOK n ∧ (n.Op = 1 → 0 ≤ n.Table ∧ n.Table ≤ 3) := by
  intro n hn
  obtain ⟨j, hj, rfl⟩ := List.mem_iff_getElem.1 hn
  obtain ⟨m, F⟩ := facts_of hL.inv hL.le hj
  have hm : m = l.Nodes[j] := by
    have := F.node
    rw [idx_nat, List.getElem?_eq_getElem hj] at this
    injection this with this
    exact this.symm
  subst hm
  exact ⟨exprs_ok (hS _ hn) F.op F.own F.kinds, fun h1 => table_in (hS _ hn) h1 F.kinds⟩
end Go.Proofs.YtbhkincjkpeaoaaGreat

namespace Go.Proofs.YtbhkincjkpeaoaaGreat
open Go

theorem Equal_int_self (a : List Int) : slices_Equal_int_int a a = some true := by
  unfold slices_Equal_int_int
  rw [if_neg (by simp)]
  have key : ∀ (tl : List Int) (i : Nat), a.drop i = tl → slices_Equal_int_int_l1 a tl i = some true := by
    intro tl
    induction tl with
    | nil => intro i _; rfl
    | cons x tl ih =>
      intro i h
      obtain ⟨h1, _, h3⟩ := at_drop h
      unfold slices_Equal_int_int_l1
      rw [h1]
      simp only [Option.bind_some, bne_self_eq_false, Bool.false_eq_true, if_false]
      exact ih (i + 1) h3
  exact key a 0 rfl
theorem Equal_ord_self (a : List DOrd) : slices_Equal_api_Ord_api_Ord a a = some true := by
  unfold slices_Equal_api_Ord_api_Ord
  rw [if_neg (by simp)]
  have key : ∀ (tl : List DOrd) (i : Nat), a.drop i = tl → slices_Equal_api_Ord_api_Ord_l1 a tl i = some true := by
    intro tl
    induction tl with
    | nil => intro i _; rfl
    | cons x tl ih =>
      intro i h
      obtain ⟨h1, _, h3⟩ := at_drop h
      unfold slices_Equal_api_Ord_api_Ord_l1
      rw [h1]
      simp only [Option.bind_some, decide_true, Bool.not_true, Bool.false_eq_true, if_false]
      exact ih (i + 1) h3
  exact key a 0 rfl
theorem expr_Same_self (e : DExpr) : expr_Same e e = some true := by
  unfold expr_Same slices_Equal_api_ENode_api_ENode
  rw [if_neg (by simp)]
  have key : ∀ (tl : List DENode) (i : Nat), e.Nodes.drop i = tl → slices_Equal_api_ENode_api_ENode_l1 e.Nodes tl i = some true := by
    intro tl
    induction tl with
    | nil => intro i _; rfl
    | cons x tl ih =>
      intro i h
      obtain ⟨h1, _, h3⟩ := at_drop h
      unfold slices_Equal_api_ENode_api_ENode_l1
      rw [h1]
      simp only [Option.bind_some, decide_true, Bool.not_true, Bool.false_eq_true, if_false]
      exact ih (i + 1) h3
  rw [key e.Nodes 0 rfl]; rfl
theorem EqualFunc_agg_self (a : List DAgg) : slices_EqualFunc_api_Agg_api_Agg_api_Agg_api_Agg a a logic_same_1 = some true := by
  unfold slices_EqualFunc_api_Agg_api_Agg_api_Agg_api_Agg
  rw [if_neg (by simp)]
  have key : ∀ (tl : List DAgg) (i : Nat), a.drop i = tl → slices_EqualFunc_api_Agg_api_Agg_api_Agg_api_Agg_l1 a logic_same_1 tl i = some true := by
    intro tl
    induction tl with
    | nil => intro i _; rfl
    | cons x tl ih =>
      intro i h
      obtain ⟨h1, _, h3⟩ := at_drop h
      unfold slices_EqualFunc_api_Agg_api_Agg_api_Agg_api_Agg_l1
      rw [h1]
      simp only [Option.bind_some]
      have : logic_same_1 x x = some true := by unfold logic_same_1; rw [if_pos (by simp), expr_Same_self]; rfl
      rw [this]
      simp only [Option.bind_some, Bool.not_true, Bool.false_eq_true, if_false]
      exact ih (i + 1) h3
  exact key a 0 rfl
theorem EqualFunc_expr_self (a : List DExpr) : slices_EqualFunc_api_Expr_api_Expr_api_Expr_api_Expr a a expr_Same = some true := by
  unfold slices_EqualFunc_api_Expr_api_Expr_api_Expr_api_Expr
  rw [if_neg (by simp)]
  have key : ∀ (tl : List DExpr) (i : Nat), a.drop i = tl → slices_EqualFunc_api_Expr_api_Expr_api_Expr_api_Expr_l1 a expr_Same tl i = some true := by
    intro tl
    induction tl with
    | nil => intro i _; rfl
    | cons x tl ih =>
      intro i h
      obtain ⟨h1, _, h3⟩ := at_drop h
      unfold slices_EqualFunc_api_Expr_api_Expr_api_Expr_api_Expr_l1
      rw [h1]
      simp only [Option.bind_some]
      rw [expr_Same_self]
      simp only [Option.bind_some, Bool.not_true, Bool.false_eq_true, if_false]
      exact ih (i + 1) h3
  exact key a 0 rfl
theorem logic_same_self (n : DLNode) : logic_same n n = some true := by
  unfold logic_same
  simp only [Equal_int_self, Equal_ord_self, expr_Same_self, EqualFunc_agg_self, EqualFunc_expr_self, Option.bind_some, if_true, beq_self_eq_true, Bool.and_self]
theorem logic_Same_self (l : DLogic) : logic_Same l l = some true := by
  unfold logic_Same slices_EqualFunc_api_LNode_api_LNode_api_LNode_api_LNode
  rw [if_neg (by simp)]
  have key : ∀ (tl : List DLNode) (i : Nat), l.Nodes.drop i = tl → slices_EqualFunc_api_LNode_api_LNode_api_LNode_api_LNode_l1 l.Nodes logic_same tl i = some true := by
    intro tl
    induction tl with
    | nil => intro i _; rfl
    | cons x tl ih =>
      intro i h
      obtain ⟨h1, _, h3⟩ := at_drop h
      unfold slices_EqualFunc_api_LNode_api_LNode_api_LNode_api_LNode_l1
      rw [h1]
      simp only [Option.bind_some]
      rw [logic_same_self]
      simp only [Option.bind_some, Bool.not_true, Bool.false_eq_true, if_false]
      exact ih (i + 1) h3
  rw [key l.Nodes 0 rfl]; rfl
theorem kinds_l1_sh (n : DLNode) (d : Int) : ∀ (fu : Nat) (ok : Bool) (i : Int), ref13_kinds_l1 (shN d n) fu ok i = ref13_kinds_l1 n fu ok i := by
  intro fu
  induction fu with
  | zero => intros; rfl
  | succ fu ih => intros; simp only [ref13_kinds_l1, ih]; rfl
theorem kinds_l3_sh (n : DLNode) (d : Int) (a : List Int) : ∀ (fu : Nat) (out : List Int) (ok : Bool) (i : Int), ref13_kinds_l3 (shN d n) a fu out ok i = ref13_kinds_l3 n a fu out ok i := by
  intro fu
  induction fu with
  | zero => intros; rfl
  | succ fu ih => intros; simp only [ref13_kinds_l3, ih]; rfl
theorem kinds_l2_sh (n : DLNode) (d : Int) (a : List Int) : ∀ (fu : Nat) (out : List Int) (i : Int), ref13_kinds_l2 (shN d n) a fu out i = ref13_kinds_l2 n a fu out i := by
  intro fu
  induction fu with
  | zero => intros; rfl
  | succ fu ih => intros; simp only [ref13_kinds_l2, ih, kinds_l3_sh]; rfl
theorem kinds_l4_sh (n : DLNode) (d : Int) (a : List Int) : ∀ (fu : Nat) (out : List Int) (ok : Bool) (i : Int), ref13_kinds_l4 (shN d n) a fu out ok i = ref13_kinds_l4 n a fu out ok i := by
  intro fu
  induction fu with
  | zero => intros; rfl
  | succ fu ih => intros; simp only [ref13_kinds_l4, ih]; rfl
theorem kinds_l6_sh (n : DLNode) (d : Int) (a : List Int) : ∀ (fu : Nat) (ok : Bool) (i : Int), ref13_kinds_l6 (shN d n) a fu ok i = ref13_kinds_l6 n a fu ok i := by
  intro fu
  induction fu with
  | zero => intros; rfl
  | succ fu ih => intros; simp only [ref13_kinds_l6, ih]; rfl
theorem kinds_sh (n : DLNode) (d : Int) (a b : List Int) : ref13_kinds (shN d n) a b = ref13_kinds n a b := by
  unfold ref13_kinds
  simp only [kinds_l1_sh, kinds_l2_sh, kinds_l4_sh, kinds_l6_sh]
  rfl
theorem ownB_sh (n : DLNode) (d : Int) : ownB (shN d n) = ownB n := rfl
section
variable {l : DLogic} {sz : Nat → Nat} {ks : Nat → List Int}
abbrev AllF (l : DLogic) (sz : Nat → Nat) (ks : Nat → List Int) : Prop := ∀ j, j < l.Nodes.length → ∃ n, NFacts l sz ks j n
theorem nest (H : AllF l sz ks) : ∀ (p : Nat), p < l.Nodes.length → ∀ q, p + 1 - sz p ≤ q → q ≤ p → p + 1 - sz p ≤ q + 1 - sz q := by
  intro p
  induction p using Nat.strongRecOn with
  | ind p ih =>
    intro hp q h1 h2
    by_cases hq : q = p
    · subst hq; exact Nat.le_refl _
    obtain ⟨n, F⟩ := H p hp
    by_cases c1 : n.Op = 1
    · obtain ⟨_, _, e⟩ := F.lf c1
      omega
    by_cases c27 : n.Op = 2 ∨ n.Op = 7
    · obtain ⟨a, b, c, d, e⟩ := F.bi c27
      obtain ⟨nA, FA⟩ := H (p - 1 - sz (p - 1)) (by omega)
      have hpA := FA.pos
      have hlA := FA.le
      by_cases hB : p - 1 + 1 - sz (p - 1) ≤ q
      · have := ih (p - 1) (by omega) (by omega) q hB (by omega)
        omega
      · have := ih (p - 1 - sz (p - 1)) (by omega) (by omega) q (by omega) (by omega)
        omega
    · obtain ⟨a, b, c, d⟩ := F.un c1 (fun h => c27 (.inl h)) (fun h => c27 (.inr h))
      have := ih (p - 1) (by omega) (by omega) q (by omega) (by omega)
      omega
theorem inside (H : AllF l sz ks) {p i : Nat} (hp : p < l.Nodes.length) (h1 : p + 1 - sz p ≤ i) (h2 : i ≤ p) {n : DLNode} (F : NFacts l sz ks i n) : (n.A = -1 ∨ ((p + 1 - sz p : Nat) : Int) ≤ n.A ∧ n.A < (i : Int)) ∧ (n.B = -1 ∨ ((p + 1 - sz p : Nat) : Int) ≤ n.B ∧ n.B < (i : Int)) := by
  have hn := nest H p hp i h1 h2
  by_cases c1 : n.Op = 1
  · obtain ⟨a, b, _⟩ := F.lf c1
    exact ⟨.inl a, .inl b⟩
  by_cases c27 : n.Op = 2 ∨ n.Op = 7
  · obtain ⟨a, b, c, d, e⟩ := F.bi c27
    obtain ⟨nA, FA⟩ := H (i - 1 - sz (i - 1)) (by omega)
    have hpA := FA.pos
    have hlA := FA.le
    exact ⟨.inr (by omega), .inr (by omega)⟩
  · obtain ⟨a, b, c, d⟩ := F.un c1 (fun h => c27 (.inl h)) (fun h => c27 (.inr h))
    obtain ⟨nA, FA⟩ := H (i - 1) (by omega)
    have hpA := FA.pos
    exact ⟨.inr (by omega), .inl c⟩
theorem shI_neg {d x : Int} (h : x = -1) : shI d x = -1 := by unfold shI; rw [if_neg (by omega), h]
theorem shI_in {e x : Int} (h : 0 ≤ e) (h2 : e ≤ x) (h3 : x ≤ 100000) : shI (-e) x = x - e := by
  unfold shI
  rw [if_pos (by omega), wrapI (by omega) (by omega)]
  omega
theorem part_facts (H : AllF l sz ks) (hl : l.Nodes.length ≤ 60) {p : Nat} (hp : p < l.Nodes.length) (hs : sz p ≤ p + 1) : AllF (partOf l (p + 1 - sz p) p) (fun j => sz (p + 1 - sz p + j)) (fun j => ks (p + 1 - sz p + j)) := by
  obtain ⟨e, he⟩ : ∃ e, e = p + 1 - sz p := ⟨_, rfl⟩
  rw [← he]
  intro j hj
  rw [partOf_len hp] at hj
  obtain ⟨n, F⟩ := H (e + j) (by omega)
  have hin := inside H hp (i := e + j) (by omega) (by omega) F
  have hnest := nest H p hp (e + j) (by omega) (by omega)
  rw [← he] at hin hnest
  obtain ⟨hA, hB⟩ := hin
  refine ⟨shN (-(e : Int)) n, ⟨?_, F.op, by rw [ownB_sh]; exact F.own, fun c1 => ?_, fun c1 c2 c7 => ?_, fun c27 => ?_, ?_, fun c8 => ?_, F.len, F.pos, ?_⟩⟩
  · have h1 := F.node
    rw [idx_nat] at h1 ⊢
    unfold partOf
    simp only
    rw [List.getElem?_map, List.getElem?_drop, List.getElem?_take_of_lt (by omega), h1]
    rfl
  · obtain ⟨a, b, c⟩ := F.lf c1
    exact ⟨shI_neg a, shI_neg b, c⟩
  · obtain ⟨a, b, c, d⟩ := F.un c1 c2 c7
    obtain ⟨nA, FA⟩ := H (e + j - 1) (by omega)
    have hpA := FA.pos
    have eA : shI (-(e : Int)) n.A = n.A - (e : Int) := shI_in (by omega) (by omega) (by omega)
    refine ⟨by omega, ?_, shI_neg c, ?_⟩
    · show shI (-(e : Int)) n.A = _
      rw [eA]; omega
    · show sz (e + j) = sz (e + (j - 1)) + 1
      rw [d, show e + j - 1 = e + (j - 1) from by omega]
  · obtain ⟨a, b, c, d, g⟩ := F.bi c27
    obtain ⟨nA, FA⟩ := H (e + j - 1 - sz (e + j - 1)) (by omega)
    have hpA := FA.pos
    have eA : shI (-(e : Int)) n.A = n.A - (e : Int) := shI_in (by omega) (by omega) (by omega)
    have eB : shI (-(e : Int)) n.B = n.B - (e : Int) := shI_in (by omega) (by omega) (by omega)
    have ej : e + (j - 1) = e + j - 1 := by omega
    refine ⟨by omega, ?_, ?_, ?_, ?_⟩
    · show shI (-(e : Int)) n.B = _
      rw [eB]; omega
    · show sz (e + (j - 1)) < j
      rw [ej]; omega
    · show shI (-(e : Int)) n.A = (j : Int) - 1 - (sz (e + (j - 1)) : Int)
      rw [eA, ej]; omega
    · show sz (e + j) = sz (e + (j - 1 - sz (e + (j - 1)))) + sz (e + (j - 1)) + 1
      rw [ej, g, show e + (j - 1 - sz (e + j - 1)) = e + j - 1 - sz (e + j - 1) from by omega]
  · rw [kinds_sh]
    have key : ∀ x : Int, (x = -1 ∨ (e : Int) ≤ x ∧ x < ((e + j : Nat) : Int)) → (if shI (-(e : Int)) x < 0 then ([] : List Int) else ks (e + (shI (-(e : Int)) x).toNat)) = if x < 0 then [] else ks x.toNat := by
      intro x hx
      rcases hx with hx | hx
      · rw [shI_neg hx, if_pos (by decide), if_pos (by omega)]
      · rw [shI_in (by omega) hx.1 (by omega), if_neg (by omega), if_neg (by omega)]
        congr 1
        omega
    have h1 := F.kinds
    rw [← key n.A hA, ← key n.B hB] at h1
    exact h1
  · have := F.last c8
    rw [partOf_len hp]
    omega
  · show sz (e + j) ≤ j + 1
    have := F.le
    omega
theorem part_right (H : AllF l sz ks) (hl : l.Nodes.length ≤ 60) {p : Nat} (hp : p < l.Nodes.length) (hs : sz p ≤ p + 1) (hs1 : 1 ≤ sz p) : rightL (partOf l (p + 1 - sz p) p) = true := by
  have hlen := partOf_len (l := l) (e := p + 1 - sz p) hp
  refine facts_right (by rw [hlen]; omega) (by rw [hlen]; omega) (part_facts H hl hp hs) ?_
  rw [hlen]
  show sz (p + 1 - sz p + (p + 1 - (p + 1 - sz p) - 1)) = _
  rw [show p + 1 - sz p + (p + 1 - (p + 1 - sz p) - 1) = p from by omega]
  omega
theorem sh_back {n : DLNode} {e : Nat} (hA : n.A = -1 ∨ (e : Int) ≤ n.A ∧ n.A < 10000) (hB : n.B = -1 ∨ (e : Int) ≤ n.B ∧ n.B < 10000) : shN (e : Int) (shN (-(e : Int)) n) = n := by
  have key : ∀ x : Int, (x = -1 ∨ (e : Int) ≤ x ∧ x < 10000) → shI (e : Int) (shI (-(e : Int)) x) = x := by
    intro x hx
    rcases hx with hx | hx
    · rw [shI_neg hx, shI_neg rfl, hx]
    · rw [shI_in (by omega) hx.1 (by omega)]
      unfold shI
      rw [if_pos (by omega), wrapI (by omega) (by omega)]
      omega
  have e1 : shN (e : Int) (shN (-(e : Int)) n) = { n with A := shI (e : Int) (shI (-(e : Int)) n.A), B := shI (e : Int) (shI (-(e : Int)) n.B) } := rfl
  rw [e1, key _ hA, key _ hB]
theorem part_back (H : AllF l sz ks) (hl : l.Nodes.length ≤ 60) {p : Nat} (hp : p < l.Nodes.length) (hs1 : 1 ≤ sz p) : (partOf l (p + 1 - sz p) p).Nodes.map (shN ((p + 1 - sz p : Nat) : Int)) = (l.Nodes.take (p + 1)).drop (p + 1 - sz p) := by
  unfold partOf
  simp only [List.map_map]
  conv => rhs; rw [← List.map_id ((l.Nodes.take (p + 1)).drop (p + 1 - sz p))]
  refine List.map_congr_left fun m hm => ?_
  obtain ⟨i, hi, rfl⟩ := List.mem_iff_getElem.1 hm
  rw [List.length_drop, List.length_take] at hi
  have hm2 : ((l.Nodes.take (p + 1)).drop (p + 1 - sz p))[i]'(by rw [List.length_drop, List.length_take]; exact hi) = l.Nodes[p + 1 - sz p + i]'(by omega) := by simp
  rw [hm2]
  obtain ⟨n, F⟩ := H (p + 1 - sz p + i) (by omega)
  have hn := F.node
  rw [idx_nat, List.getElem?_eq_getElem (by omega)] at hn
  injection hn with hn
  rw [hn]
  obtain ⟨hA, hB⟩ := inside H hp (by omega) (by omega) F
  exact sh_back (by rcases hA with h | h; exact .inl h; exact .inr ⟨h.1, by omega⟩) (by rcases hB with h | h; exact .inl h; exact .inr ⟨h.1, by omega⟩)
end
theorem mk_eq {n : DLNode} {a b : Int} (hA : n.A = a) (hB : n.B = b) : DLNode.mk n.Op a b n.Table n.Kinds n.Left n.Cond n.Keys n.Aggs n.Items n.Order n.Limit = n := by subst hA hB; rfl
theorem laid_l2_eq (nx : Nat → DLNode → DLogic → DLogic → Option (DLogic × Int)) (i : Nat) (n : DLNode) (x out : DLogic) : ∀ (tl : List DLNode) (out1 : DLogic), (∀ m ∈ tl, SmallN m) → out1.Nodes.length + tl.length ≤ 100000 → logic_laid_l2 nx i n x out tl out1 = (if ((i : Int) == (0 : Int)) then nx (i + 1) (DLNode.mk n.Op (IntKind.i64.wrap (((out1.Nodes ++ tl.map (shN (out.Nodes.length : Int))).length : Int) - (1 : Int))) n.B n.Table n.Kinds n.Left n.Cond n.Keys n.Aggs n.Items n.Order n.Limit) x ⟨out1.Nodes ++ tl.map (shN (out.Nodes.length : Int))⟩ else nx (i + 1) (DLNode.mk n.Op n.A (IntKind.i64.wrap (((out1.Nodes ++ tl.map (shN (out.Nodes.length : Int))).length : Int) - (1 : Int))) n.Table n.Kinds n.Left n.Cond n.Keys n.Aggs n.Items n.Order n.Limit) x ⟨out1.Nodes ++ tl.map (shN (out.Nodes.length : Int))⟩) := by
  intro tl
  induction tl with
  | nil => intro out1 _ _; unfold logic_laid_l2; simp only [List.map_nil, List.append_nil]
  | cons m tl ih2 =>
    intro out1 hm hl1
    simp only [List.length_cons] at hl1
    rw [logic_laid_l2, logic_copied_eq (hm m (List.mem_cons_self ..))]
    simp only [Option.bind_some]
    rw [app_ok (by simp; omega)]
    simp only [Option.bind_some]
    rw [ih2 _ (fun z hz => hm z (List.mem_cons_of_mem _ hz)) (by simp; omega)]
    simp only [List.map_cons, List.append_assoc, List.cons_append, List.nil_append]
theorem laid_end {n : DLNode} {x out l : DLogic} (hn : SmallN n) (hA : n.A ≤ 100000) (hB : n.B ≤ 100000) (hS : SmallL l) (hr : rightL l = true) (he : out.Nodes ++ [n] = l.Nodes) (hl : l.Nodes.length ≤ 1000) (i : Nat) : logic_laid_l1 [] i n x out = some (l, 0) := by
  unfold logic_laid_l1
  rw [logic_copied_eq hn, shN_zero hA hB]
  simp only [Option.bind_some]
  have hol : out.Nodes.length + 1 = l.Nodes.length := by rw [← he]; simp
  rw [app_ok (by simp; omega)]
  simp only [Option.bind_some]
  have e : ({ out with Nodes := out.Nodes ++ [n] } : DLogic) = l := by
    cases l; simp only at he; rw [← he]
  rw [e]
  obtain ⟨_, ⟨j, h2⟩, _⟩ := right_eq hS
  rw [h2, hr]
  rfl
theorem laid_next {n : DLNode} {x out a : DLogic} (ha : SmallL a) (hr : rightL a = true) (hl : a.Nodes.length ≤ 1000) (ho : out.Nodes.length ≤ 1000) (parts : List DLogic) (i : Nat) : logic_laid_l1 (a :: parts) i n x out = (if ((i : Int) == (0 : Int)) then logic_laid_l1 parts (i + 1) (DLNode.mk n.Op (IntKind.i64.wrap (((out.Nodes ++ a.Nodes.map (shN (out.Nodes.length : Int))).length : Int) - (1 : Int))) n.B n.Table n.Kinds n.Left n.Cond n.Keys n.Aggs n.Items n.Order n.Limit) x ⟨out.Nodes ++ a.Nodes.map (shN (out.Nodes.length : Int))⟩ else logic_laid_l1 parts (i + 1) (DLNode.mk n.Op n.A (IntKind.i64.wrap (((out.Nodes ++ a.Nodes.map (shN (out.Nodes.length : Int))).length : Int) - (1 : Int))) n.Table n.Kinds n.Left n.Cond n.Keys n.Aggs n.Items n.Order n.Limit) x ⟨out.Nodes ++ a.Nodes.map (shN (out.Nodes.length : Int))⟩) := by
  conv => lhs; unfold logic_laid_l1
  obtain ⟨_, ⟨j, h2⟩, _⟩ := right_eq ha
  rw [h2, hr]
  simp only [if_true, Option.bind_some]
  rw [if_neg (by decide), laid_l2_eq _ i n x out a.Nodes out ha (by omega)]
theorem logicParts_true (l : DLogic) : law13_LogicParts l = some true := by
  unfold law13_LogicParts
  rw [wakes_true]
  simp only [Option.bind_some, Bool.not_true, Bool.false_eq_true, if_false]
  obtain ⟨b, h1, g1⟩ := over_le l
  rw [h1]
  simp only [Option.bind_some]
  cases b with
  | true => rfl
  | false =>
    simp only [Bool.false_eq_true, if_false]
    obtain ⟨hl, hS⟩ := g1 rfl
    obtain ⟨r1, ⟨j0, r2⟩, ob, j', r3, r4⟩ := right_eq hS
    rw [r2]
    simp only [Option.bind_some]
    cases hr : rightL l with
    | false => rfl
    | true =>
      simp only [if_true]
      rw [if_neg (by decide)]
      rw [hr] at r3
      obtain ⟨hL, _⟩ := r4 hr
      have hle := hL.le
      have hpos := hL.pos
      have hfacts := nodes_facts hS hL
      have hSafe : logic_Safe l = some (!(l.Nodes.any unsN)) := by
        unfold logic_Safe
        rw [r2, hr]
        simp only [if_true, Option.bind_some]
        rw [if_neg (by decide)]
        exact Safe_l1_eq l.Nodes (fun n hn => (hfacts n hn).1)
      rw [hSafe]
      simp only [Option.bind_some]
      obtain ⟨sz, hsz⟩ : ∃ sz, sz = szF ob.first := ⟨_, rfl⟩
      have H : AllF l sz (ksF ob.kinds) := by rw [hsz]; exact fun j hj => facts_of hL.inv hL.le hj
      have hwhole : sz (l.Nodes.length - 1) = l.Nodes.length := by
        obtain ⟨N0, _⟩ := hL.inv.at (j := l.Nodes.length - 1) (by omega)
        have e1 := N0.size FUEL (fuel_len (by omega))
        have e2 := hL.whole
        unfold ref13_Size at e2
        rw [show (l.Nodes.length : Int) - 1 = ((l.Nodes.length - 1 : Nat) : Int) from by omega, e1] at e2
        injection e2 with e2
        rw [hsz]; omega
      -- each part
      have hpart : ∀ p, p < l.Nodes.length → logic_Part l (p : Int) = some (partOf l (p + 1 - sz p) p, 0) ∧ rightL (partOf l (p + 1 - sz p) p) = true := by
        intro p hp
        obtain ⟨n, F⟩ := H p hp
        refine ⟨?_, part_right H hle hp F.le F.pos⟩
        have := (part_eq hS r3 hL hp).1
        unfold begF at this
        rw [← hsz] at this
        exact this
      have hend : law13_LogicParts_l1 l (!(l.Nodes.any unsN)) [] l.Nodes.length = some true := by
        unfold law13_LogicParts_l1
        obtain ⟨n, F⟩ := H (l.Nodes.length - 1) (by omega)
        have hnode := F.node
        rw [wrapI (by omega) (by omega), show (l.Nodes.length : Int) - 1 = ((l.Nodes.length - 1 : Nat) : Int) from by omega, hnode]
        simp only [Option.bind_some]
        have hn : SmallN n := hS n (by rw [idx_nat] at hnode; exact List.mem_of_getElem? hnode)
        have hlast : l.Nodes.take (l.Nodes.length - 1) ++ [n] = l.Nodes := by
          rw [idx_nat, List.getElem?_eq_getElem (by omega)] at hnode
          injection hnode with hnode
          rw [← hnode]
          have := List.take_succ_eq_append_getElem (l := l.Nodes) (i := l.Nodes.length - 1) (by omega)
          rw [show l.Nodes.length - 1 + 1 = l.Nodes.length from by omega, List.take_length] at this
          exact this.symm
        by_cases c1 : n.Op = 1
        · obtain ⟨a, b, c⟩ := F.lf c1
          rw [if_pos (by simp [a])]
          unfold logic_Leaf logic_laid
          have hn1 : l.Nodes.length = 1 := by omega
          rw [mk_eq a b, laid_end (l := l) hn (by omega) (by omega) hS hr (by
            rw [hn1] at hlast
            simpa using hlast) (by omega)]
          simp only [Option.bind_some]
          rw [if_pos (by decide), logic_Same_self]
          rfl
        · by_cases c27 : n.Op = 2 ∨ n.Op = 7
          · obtain ⟨a, b, c, d, e⟩ := F.bi c27
            obtain ⟨pb, hpb⟩ : ∃ pb, pb = l.Nodes.length - 1 - 1 := ⟨_, rfl⟩
            obtain ⟨pa, hpa⟩ : ∃ pa, pa = l.Nodes.length - 1 - 1 - sz (l.Nodes.length - 1 - 1) := ⟨_, rfl⟩
            rw [← hpa, ← hpb] at e
            rw [← hpb] at d c hpa
            obtain ⟨nB, FB⟩ := H pb (by omega)
            obtain ⟨nA, FA⟩ := H pa (by omega)
            have b1 := FB.pos
            have b2 := FB.le
            have a1 := FA.pos
            have a2 := FA.le
            obtain ⟨pA1, pA2⟩ := hpart pa (by omega)
            obtain ⟨pB1, pB2⟩ := hpart pb (by omega)
            have eA : n.A = (pa : Int) := by omega
            have eB : n.B = (pb : Int) := by omega
            have bgA : pa + 1 - sz pa = 0 := by omega
            have bgB : pb + 1 - sz pb = pa + 1 := by omega
            have bkA := part_back H hle (p := pa) (by omega) a1
            have bkB := part_back H hle (p := pb) (by omega) b1
            rw [bgA] at pA1 pA2 bkA
            rw [bgB] at pB1 pB2 bkB
            rw [if_neg (by simp; omega), if_neg (by simp; omega), eA, eB, pA1, pB1]
            simp only [Option.bind_some]
            rw [if_neg (by decide)]
            have hlenA := partOf_len (l := l) (e := 0) (p := pa) (by omega)
            have hlenB := partOf_len (l := l) (e := pa + 1) (p := pb) (by omega)
            have two : logic_laid n [partOf l 0 pa, partOf l (pa + 1) pb] = some (l, 0) := by
              unfold logic_laid
              rw [laid_next (partOf_small hS _ _) pA2 (by rw [hlenA]; omega) (by simp), if_pos (by simp)]
              simp only [List.nil_append, List.length_nil]
              have e3 : (partOf l 0 pa).Nodes.map (shN ((0 : Nat) : Int)) = l.Nodes.take (pa + 1) := by rw [bkA, List.drop_zero]
              rw [e3]
              have e4 : (l.Nodes.take (pa + 1)).length = pa + 1 := by rw [List.length_take]; omega
              rw [laid_next (partOf_small hS _ _) pB2 (by rw [hlenB]; omega) (by simp; omega), if_neg (by decide)]
              simp only [e4]
              rw [bkB]
              have e5 : l.Nodes.take (pa + 1) ++ (l.Nodes.take (pb + 1)).drop (pa + 1) = l.Nodes.take (pb + 1) := by
                conv => rhs; rw [← List.take_append_drop (pa + 1) (l.Nodes.take (pb + 1))]
                rw [List.take_take, Nat.min_eq_left (by omega)]
              rw [e5]
              have e6 : (l.Nodes.take (pb + 1)).length = pb + 1 := by rw [List.length_take]; omega
              rw [e6, wrapI (n := ((pa + 1 : Nat) : Int) - 1) (by omega) (by omega), wrapI (n := ((pb + 1 : Nat) : Int) - 1) (by omega) (by omega)]
              rw [mk_eq (n := n) (by omega) (by omega)]
              exact laid_end hn (by omega) (by omega) hS hr (by rw [show pb + 1 = l.Nodes.length - 1 from by omega]; exact hlast) (by omega) 2
            unfold logic_Two
            rw [two]
            simp only [Option.bind_some]
            rw [if_pos (by decide), logic_Same_self]
            rfl
          · obtain ⟨a, b, c, d⟩ := F.un c1 (fun h => c27 (.inl h)) (fun h => c27 (.inr h))
            obtain ⟨pa, hpa⟩ : ∃ pa, pa = l.Nodes.length - 1 - 1 := ⟨_, rfl⟩
            rw [← hpa] at d
            obtain ⟨nA, FA⟩ := H pa (by omega)
            have a1 := FA.pos
            have a2 := FA.le
            obtain ⟨pA1, pA2⟩ := hpart pa (by omega)
            have eA : n.A = (pa : Int) := by omega
            have bgA : pa + 1 - sz pa = 0 := by omega
            have bkA := part_back H hle (p := pa) (by omega) a1
            rw [bgA] at pA1 pA2 bkA
            rw [if_neg (by simp; omega), if_pos (by simp; omega), eA, pA1]
            simp only [Option.bind_some]
            rw [if_neg (by decide)]
            have hlenA := partOf_len (l := l) (e := 0) (p := pa) (by omega)
            have one : logic_laid n [partOf l 0 pa] = some (l, 0) := by
              unfold logic_laid
              rw [laid_next (partOf_small hS _ _) pA2 (by rw [hlenA]; omega) (by simp), if_pos (by simp)]
              simp only [List.nil_append, List.length_nil]
              have e3 : (partOf l 0 pa).Nodes.map (shN ((0 : Nat) : Int)) = l.Nodes.take (pa + 1) := by rw [bkA, List.drop_zero]
              rw [e3]
              have e4 : (l.Nodes.take (pa + 1)).length = pa + 1 := by rw [List.length_take]; omega
              rw [e4, wrapI (n := ((pa + 1 : Nat) : Int) - 1) (by omega) (by omega)]
              rw [mk_eq (n := n) (by omega) (by omega)]
              exact laid_end hn (by omega) (by omega) hS hr (by rw [show pa + 1 = l.Nodes.length - 1 from by omega]; exact hlast) (by omega) 1
            unfold logic_One
            rw [one]
            simp only [Option.bind_some]
            rw [if_pos (by decide), logic_Same_self]
            rfl
      have key : ∀ (tl : List DLNode) (i : Nat), l.Nodes.drop i = tl → i + tl.length = l.Nodes.length → law13_LogicParts_l1 l (!(l.Nodes.any unsN)) tl i = some true := by
        intro tl
        induction tl with
        | nil =>
          intro i _ hi
          simp only [List.length_nil, Nat.add_zero] at hi
          rw [hi]; exact hend
        | cons n tl ih =>
          intro i hd hi
          simp only [List.length_cons] at hi
          obtain ⟨_, h2, h3⟩ := at_drop hd
          obtain ⟨p1, p2⟩ := hpart i h2
          unfold law13_LogicParts_l1
          rw [p1]
          simp only [Option.bind_some]
          rw [if_neg (by decide)]
          have hqS : SmallL (partOf l (i + 1 - sz i) i) := partOf_small hS _ _
          obtain ⟨_, ⟨j1, q2⟩, _⟩ := right_eq hqS
          rw [q2, p2]
          simp only [if_true, Option.bind_some]
          rw [if_pos (by decide)]
          have hqSafe : (!(l.Nodes.any unsN)) = true → logic_Safe (partOf l (i + 1 - sz i) i) = some true := by
            intro hsafe
            unfold logic_Safe
            rw [q2, p2]
            simp only [if_true, Option.bind_some]
            rw [if_neg (by decide), Safe_l1_eq]
            · congr 1
              rw [Bool.not_eq_true'] at hsafe ⊢
              rw [List.any_eq_false] at hsafe ⊢
              intro m hm
              unfold partOf at hm
              obtain ⟨m0, hm0, rfl⟩ := List.mem_map.1 hm
              exact hsafe m0 (List.mem_of_mem_take (List.mem_of_mem_drop hm0))
            · intro m hm
              unfold partOf at hm
              obtain ⟨m0, hm0, rfl⟩ := List.mem_map.1 hm
              have := (hfacts m0 (List.mem_of_mem_take (List.mem_of_mem_drop hm0))).1
              exact ⟨this.cond, this.items, this.args⟩
          cases hsafe : (!(l.Nodes.any unsN)) with
          | true =>
            rw [hqSafe hsafe]
            simp only [if_true, Option.bind_some, Bool.not_true, Bool.false_eq_true, if_false]
            have hih := ih (i + 1) h3 (by omega)
            rw [hsafe] at hih
            exact hih
          | false =>
            simp only [Bool.false_eq_true, if_false, Option.bind_some]
            have hih := ih (i + 1) h3 (by omega)
            rw [hsafe] at hih
            exact hih
      exact key l.Nodes 0 rfl (by simp)
end Go.Proofs.YtbhkincjkpeaoaaGreat

