/- Facts of this claim: L9, L10, L11, L12, L13, L14. -/
import Derived.Test.YtbhkincjkpeaoaaDoQ1
namespace Go.Proofs.Ytbhkincjkpeaoaa
open Go

theorem kindP_right {e : DExpr} {kinds : List Int} (h : (kindP e kinds).2 = 0) : rightE e.Nodes = true := by
  unfold kindP at h
  cases hr : rightE e.Nodes with
  | true => rfl
  | false => rw [hr] at h; simp at h
theorem truB_right {e : DExpr} {kinds : List Int} (h : truB e kinds = true) : rightE e.Nodes = true := by
  unfold truB at h
  simp only [Bool.and_eq_true, beq_iff_eq] at h
  exact kindP_right h.1
theorem agR_right {g : DAgg} {kinds : List Int} (h : (agR g kinds).2 = true) (hp : 0 < g.Arg.Nodes.length) : rightE g.Arg.Nodes = true := by
  rw [← (ag_same g kinds).1] at h
  unfold agP at h
  by_cases h1 : g.Tag = 1
  · rw [if_pos h1] at h
    simp at h
    rw [h] at hp; simp at hp
  rw [if_neg h1] at h
  by_cases h2 : g.Tag = 2
  · rw [if_pos h2] at h; exact kindP_right (by simpa using h)
  rw [if_neg h2] at h
  by_cases h3 : g.Tag = 3
  · rw [if_pos h3] at h
    simp only [Bool.and_eq_true, beq_iff_eq] at h
    exact kindP_right h.1
  rw [if_neg h3] at h
  by_cases h4 : g.Tag = 4 ∨ g.Tag = 5
  · rw [if_pos h4] at h; exact kindP_right (by simpa using h)
  · rw [if_neg h4] at h; cases h
theorem l4_right (n : DLNode) (a : List Int) : ∀ (tl : List DExpr) (i fu : Nat) (out : List Int) (ok : Bool) (k : List Int), n.Items.drop i = tl → n.Items.length ≤ 5000 → ref13_kinds_l4 n a fu out ok (i : Int) = some (k, true) → ok = true ∧ ∀ e ∈ tl, rightE e.Nodes = true := by
  intro tl
  induction tl with
  | nil =>
    intro i fu out ok k hd hl h
    cases fu with
    | zero => cases h
    | succ fu =>
      have := end_drop hd
      rw [ref13_kinds_l4, if_neg (by simp; omega)] at h
      injection h with h
      injection h with _ h
      simp only [Bool.and_eq_true] at h
      exact ⟨h.1.1, by simp⟩
  | cons x tl ih =>
    intro i fu out ok k hd hl h
    cases fu with
    | zero => cases h
    | succ fu =>
      obtain ⟨h1, h2, h3⟩ := at_drop hd
      rw [ref13_kinds_l4, if_pos (by simp; omega), h1] at h
      simp only [Option.bind_some, ref10_Kind_eq] at h
      cases ha : app out [(kindP x a).1] with
      | none => rw [ha] at h; cases h
      | some o =>
        rw [ha] at h
        simp only [Option.bind_some] at h
        rw [wrapI (by omega) (by omega), show ((i : Int) + 1) = ((i + 1 : Nat) : Int) from by omega] at h
        obtain ⟨g1, g2⟩ := ih (i + 1) fu o _ k h3 hl h
        simp only [Bool.and_eq_true, beq_iff_eq] at g1
        exact ⟨g1.1, fun e he => by
          rcases List.mem_cons.1 he with rfl | he
          · exact kindP_right g1.2
          · exact g2 e he⟩
theorem l3_right (n : DLNode) (a : List Int) : ∀ (tl : List DAgg) (i fu : Nat) (out : List Int) (ok : Bool) (k : List Int), n.Aggs.drop i = tl → n.Aggs.length ≤ 5000 → ref13_kinds_l3 n a fu out ok (i : Int) = some (k, true) → ok = true ∧ ∀ g ∈ tl, 0 < g.Arg.Nodes.length → rightE g.Arg.Nodes = true := by
  intro tl
  induction tl with
  | nil =>
    intro i fu out ok k hd hl h
    cases fu with
    | zero => cases h
    | succ fu =>
      have := end_drop hd
      rw [ref13_kinds_l3, if_neg (by simp; omega)] at h
      injection h with h
      injection h with _ h
      simp only [Bool.and_eq_true] at h
      exact ⟨h.1.1.1, by simp⟩
  | cons x tl ih =>
    intro i fu out ok k hd hl h
    cases fu with
    | zero => cases h
    | succ fu =>
      obtain ⟨h1, h2, h3⟩ := at_drop hd
      rw [ref13_kinds_l3, if_pos (by simp; omega), h1] at h
      simp only [Option.bind_some, ref13_aggregate_eq] at h
      cases ha : app out [(agR x a).1] with
      | none => rw [ha] at h; cases h
      | some o =>
        rw [ha] at h
        simp only [Option.bind_some] at h
        rw [wrapI (by omega) (by omega), show ((i : Int) + 1) = ((i + 1 : Nat) : Int) from by omega] at h
        obtain ⟨g1, g2⟩ := ih (i + 1) fu o _ k h3 hl h
        simp only [Bool.and_eq_true] at g1
        exact ⟨g1.1, fun g hg => by
          rcases List.mem_cons.1 hg with rfl | hg
          · exact agR_right g1.2
          · exact g2 g hg⟩
theorem l2_right (n : DLNode) (a : List Int) : ∀ (tl : List Int) (i fu : Nat) (out : List Int) (k : List Int), n.Keys.drop i = tl → n.Keys.length ≤ 5000 → ref13_kinds_l2 n a fu out (i : Int) = some (k, true) → ∃ o, ref13_kinds_l3 n a FUEL o true 0 = some (k, true) := by
  intro tl
  induction tl with
  | nil =>
    intro i fu out k hd hl h
    cases fu with
    | zero => cases h
    | succ fu =>
      have := end_drop hd
      rw [ref13_kinds_l2, if_neg (by simp; omega)] at h
      exact ⟨_, h⟩
  | cons x tl ih =>
    intro i fu out k hd hl h
    cases fu with
    | zero => cases h
    | succ fu =>
      obtain ⟨h1, h2, h3⟩ := at_drop hd
      rw [ref13_kinds_l2, if_pos (by simp; omega), h1] at h
      simp only [Option.bind_some] at h
      split at h
      · simp at h
      · cases hx : idx a x with
        | none => rw [hx] at h; cases h
        | some y =>
          rw [hx] at h
          simp only [Option.bind_some] at h
          cases ha : app out [y] with
          | none => rw [ha] at h; cases h
          | some o =>
            rw [ha] at h
            simp only [Option.bind_some] at h
            rw [wrapI (by omega) (by omega), show ((i : Int) + 1) = ((i + 1 : Nat) : Int) from by omega] at h
            exact ih (i + 1) fu o k h3 hl h
structure ExprsOK (n : DLNode) : Prop where
  cond : 0 < n.Cond.Nodes.length → rightE n.Cond.Nodes = true
  items : ∀ e ∈ n.Items, 0 < e.Nodes.length → rightE e.Nodes = true
  args : ∀ g ∈ n.Aggs, 0 < g.Arg.Nodes.length → rightE g.Arg.Nodes = true
theorem own_none {n : DLNode} (h : ownB n = true) : (n.Op ≠ 2 → n.Op ≠ 3 → n.Cond.Nodes.length = 0) ∧ (n.Op ≠ 4 → n.Aggs.length = 0) ∧ (n.Op ≠ 5 → n.Items.length = 0) := by
  have e := ref13_Own_eq n
  rw [h] at e
  unfold ref13_Own at e
  split at e
  · simp at e
  · split at e
    · simp at e
    · split at e
      · simp at e
      · rename_i h1 h2 h3
        simp only [Bool.or_eq_true, Bool.and_eq_true, bne_iff_ne, decide_eq_true_eq, not_or, not_and] at h1 h2 h3
        refine ⟨fun a b => ?_, fun a => ?_, fun a => ?_⟩
        · have := h2.2 ⟨a, b⟩; omega
        · have := (h3.1 a).2; omega
        · have := h3.2 a; omega
theorem exprs_ok {n : DLNode} {a b k : List Int} (hs : SmallN n) (hop : op8 n.Op = true) (ho : ownB n = true) (h : ref13_kinds n a b = some (k, true)) : ExprsOK n := by
  obtain ⟨o1, o2, o3⟩ := own_none ho
  have hnil : ∀ {α : Type} {l : List α} {p : α → Prop}, l.length = 0 → ∀ x ∈ l, p x := by
    intro α l p hl x hx
    rw [List.eq_nil_of_length_eq_zero hl] at hx; cases hx
  unfold ref13_kinds at h
  rcases op8_cases hop with c | c | c | c | c | c | c | c
  · exact ⟨fun hp => by have := o1 (by omega) (by omega); omega, hnil (o3 (by omega)), hnil (o2 (by omega))⟩
  · rw [if_neg (by simp [c]), if_pos (by simp [c])] at h
    refine ⟨fun _ => ?_, hnil (o3 (by omega)), hnil (o2 (by omega))⟩
    cases h1 : app ([] : List Int) a with
    | none => rw [h1] at h; cases h
    | some l1 =>
      rw [h1] at h
      simp only [Option.bind_some] at h
      cases h2 : app l1 b with
      | none => rw [h2] at h; cases h
      | some l2 =>
        rw [h2] at h
        simp only [Option.bind_some, ref13_truth_eq] at h
        injection h with h
        injection h with _ h
        exact truB_right h
  · rw [if_neg (by simp [c]), if_neg (by simp [c]), if_pos (by simp [c])] at h
    refine ⟨fun _ => ?_, hnil (o3 (by omega)), hnil (o2 (by omega))⟩
    simp only [Option.bind_some, ref13_truth_eq] at h
    injection h with h
    injection h with _ h
    exact truB_right h
  · rw [if_neg (by simp [c]), if_neg (by simp [c]), if_neg (by simp [c]), if_pos (by simp [c])] at h
    obtain ⟨o, h'⟩ := l2_right n a n.Keys 0 FUEL [] k rfl hs.keys h
    exact ⟨fun hp => by have := o1 (by omega) (by omega); omega, hnil (o3 (by omega)), (l3_right n a n.Aggs 0 FUEL o true k rfl hs.aggs h').2⟩
  · rw [if_neg (by simp [c]), if_neg (by simp [c]), if_neg (by simp [c]), if_neg (by simp [c]), if_pos (by simp [c])] at h
    exact ⟨fun hp => by have := o1 (by omega) (by omega); omega, fun e he _ => (l4_right n a n.Items 0 FUEL [] true k rfl hs.items h).2 e he, hnil (o2 (by omega))⟩
  · exact ⟨fun hp => by have := o1 (by omega) (by omega); omega, hnil (o3 (by omega)), hnil (o2 (by omega))⟩
  · exact ⟨fun hp => by have := o1 (by omega) (by omega); omega, hnil (o3 (by omega)), hnil (o2 (by omega))⟩
  · exact ⟨fun hp => by have := o1 (by omega) (by omega); omega, hnil (o3 (by omega)), hnil (o2 (by omega))⟩
def unsE (e : DExpr) : Bool := !e.Nodes.isEmpty && e.Nodes.any arB
def unsA (g : DAgg) : Bool := if g.Tag = 3 then true else unsE g.Arg
def unsN (n : DLNode) : Bool := unsE n.Cond || n.Items.any unsE || n.Aggs.any unsA
theorem IndexFunc_enode_eq {f : DENode → Option Bool} {g : DENode → Bool} (hf : ∀ v, f v = some (g v)) : ∀ (l : List DENode) (i : Nat), ∃ j : Int, slices_IndexFunc_api_ENode_api_ENode_l1 f l i = some j ∧ decide (0 ≤ j) = l.any g
  | [], i => ⟨-1, rfl, rfl⟩
  | e :: l, i => by
    unfold slices_IndexFunc_api_ENode_api_ENode_l1
    rw [hf, Option.bind_some]
    cases h : g e with
    | true => exact ⟨(i : Int), by simp, by simp [h]⟩
    | false =>
      obtain ⟨j, h1, h2⟩ := IndexFunc_enode_eq hf l (i + 1)
      exact ⟨j, by simpa using h1, by rw [h2]; simp [h]⟩
theorem IndexFunc_expr_eq {f : DExpr → Option Bool} {g : DExpr → Bool} : ∀ (l : List DExpr) (i : Nat), (∀ v ∈ l, f v = some (g v)) → ∃ j : Int, slices_IndexFunc_api_Expr_api_Expr_l1 f l i = some j ∧ decide (0 ≤ j) = l.any g
  | [], i, _ => ⟨-1, rfl, rfl⟩
  | e :: l, i, hf => by
    unfold slices_IndexFunc_api_Expr_api_Expr_l1
    rw [hf e (List.mem_cons_self ..), Option.bind_some]
    cases h : g e with
    | true => exact ⟨(i : Int), by simp, by simp [h]⟩
    | false =>
      obtain ⟨j, h1, h2⟩ := IndexFunc_expr_eq l (i + 1) (fun v hv => hf v (List.mem_cons_of_mem _ hv))
      exact ⟨j, by simpa using h1, by rw [h2]; simp [h]⟩
theorem IndexFunc_agg_eq {f : DAgg → Option Bool} {g : DAgg → Bool} : ∀ (l : List DAgg) (i : Nat), (∀ v ∈ l, f v = some (g v)) → ∃ j : Int, slices_IndexFunc_api_Agg_api_Agg_l1 f l i = some j ∧ decide (0 ≤ j) = l.any g
  | [], i, _ => ⟨-1, rfl, rfl⟩
  | e :: l, i, hf => by
    unfold slices_IndexFunc_api_Agg_api_Agg_l1
    rw [hf e (List.mem_cons_self ..), Option.bind_some]
    cases h : g e with
    | true => exact ⟨(i : Int), by simp, by simp [h]⟩
    | false =>
      obtain ⟨j, h1, h2⟩ := IndexFunc_agg_eq l (i + 1) (fun v hv => hf v (List.mem_cons_of_mem _ hv))
      exact ⟨j, by simpa using h1, by rw [h2]; simp [h]⟩
theorem lenpos2 {α : Type} (l : List α) : decide ((0 : Int) < (l.length : Int)) = !l.isEmpty := lenpos l
theorem Safe_1_eq (e : DExpr) (h : 0 < e.Nodes.length → rightE e.Nodes = true) : logic_Safe_1 e = some (unsE e) := by
  unfold logic_Safe_1 unsE
  rw [lenpos2]
  by_cases hp : 0 < e.Nodes.length
  · have hr := h hp
    have hl := rightE_len hr
    have : e.Nodes.isEmpty = false := by cases hh : e.Nodes with
      | nil => rw [hh] at hp; simp at hp
      | cons a l => rfl
    simp only [this, Bool.not_false, if_true, Bool.true_and]
    unfold expr_Safe
    rw [expr_Check_eq e (by omega), hr]
    simp only [if_true, Option.bind_some]
    rw [if_pos (by decide)]
    unfold slices_ContainsFunc_api_ENode_api_ENode slices_IndexFunc_api_ENode_api_ENode
    obtain ⟨j, h1, h2⟩ := IndexFunc_enode_eq (f := expr_Safe_1) (g := arB) (fun v => rfl) e.Nodes 0
    rw [h1]
    simp only [Option.bind_some, h2, Bool.not_not]
  · have : e.Nodes.isEmpty = true := by cases hh : e.Nodes with
      | nil => rfl
      | cons a l => rw [hh] at hp; simp at hp
    simp [this]
theorem Safe_l1_eq : ∀ ns : List DLNode, (∀ n ∈ ns, ExprsOK n) → logic_Safe_l1 ns = some (!(ns.any unsN))
  | [], _ => rfl
  | n :: ns, h => by
    have hn := h n (List.mem_cons_self ..)
    unfold logic_Safe_l1
    rw [Safe_1_eq _ hn.cond, Safe_l1_eq ns (fun m hm => h m (List.mem_cons_of_mem _ hm))]
    have c1 : slices_ContainsFunc_api_Expr_api_Expr n.Items logic_Safe_1 = some (n.Items.any unsE) := by
      unfold slices_ContainsFunc_api_Expr_api_Expr slices_IndexFunc_api_Expr_api_Expr
      obtain ⟨j, h1, h2⟩ := IndexFunc_expr_eq (f := logic_Safe_1) (g := unsE) n.Items 0 (fun v hv => Safe_1_eq v (hn.items v hv))
      rw [h1, Option.bind_some, h2]
    have c2 : slices_ContainsFunc_api_Agg_api_Agg n.Aggs (logic_Safe_2 logic_Safe_1) = some (n.Aggs.any unsA) := by
      unfold slices_ContainsFunc_api_Agg_api_Agg slices_IndexFunc_api_Agg_api_Agg
      obtain ⟨j, h1, h2⟩ := IndexFunc_agg_eq (f := logic_Safe_2 logic_Safe_1) (g := unsA) n.Aggs 0 (fun v hv => by
        unfold logic_Safe_2 unsA
        rw [Safe_1_eq _ (hn.args v hv)]
        by_cases h3 : v.Tag = 3 <;> simp [h3])
      rw [h1, Option.bind_some, h2]
    rw [c1, c2]
    simp only [Option.bind_some, List.any_cons, unsN]
    cases unsE n.Cond <;> cases n.Items.any unsE <;> cases n.Aggs.any unsA <;> simp
end Go.Proofs.Ytbhkincjkpeaoaa

namespace Go.Proofs.Ytbhkincjkpeaoaa
open Go

theorem inc_unique : ∀ a b : List Int, a.Pairwise (· < ·) → b.Pairwise (· < ·) → (∀ x, x ∈ a ↔ x ∈ b) → a = b
  | [], [], _, _, _ => rfl
  | [], y :: b, _, _, h => absurd ((h y).2 (List.mem_cons_self ..)) (by simp)
  | x :: a, [], _, _, h => absurd ((h x).1 (List.mem_cons_self ..)) (by simp)
  | x :: a, y :: b, ha, hb, h => by
    obtain ⟨ha1, ha2⟩ := List.pairwise_cons.1 ha
    obtain ⟨hb1, hb2⟩ := List.pairwise_cons.1 hb
    have hxy : x = y := by
      rcases List.mem_cons.1 ((h x).1 (List.mem_cons_self ..)) with h1 | h1
      · exact h1
      · rcases List.mem_cons.1 ((h y).2 (List.mem_cons_self ..)) with h2 | h2
        · exact h2.symm
        · have := hb1 x h1; have := ha1 y h2; omega
    subst hxy
    rw [inc_unique a b ha2 hb2 fun z => ?_]
    constructor
    · intro hz
      have := ha1 z hz
      rcases List.mem_cons.1 ((h z).1 (List.mem_cons_of_mem _ hz)) with h1 | h1
      · omega
      · exact h1
    · intro hz
      have := hb1 z hz
      rcases List.mem_cons.1 ((h z).2 (List.mem_cons_of_mem _ hz)) with h1 | h1
      · omega
      · exact h1
theorem ddup_inc : ∀ (p : Int) (l : List Int), (p :: l).Pairwise (· ≤ ·) → (p :: ddup p l).Pairwise (· < ·)
  | p, [], _ => by rw [ddup_nil]; simp
  | p, x :: t, h => by
    obtain ⟨h1, h2⟩ := List.pairwise_cons.1 h
    have ih := ddup_inc x t h2
    by_cases hx : x = p
    · rw [ddup_same hx, ← hx]; exact ih
    · rw [ddup_ne hx]
      have hpx := h1 x (List.mem_cons_self ..)
      refine List.pairwise_cons.2 ⟨fun z hz => ?_, ih⟩
      rcases List.mem_cons.1 hz with rfl | hz
      · omega
      · have := (List.pairwise_cons.1 ih).1 z hz
        omega
theorem dedup_inc (l : List Int) (h : l.Pairwise (· ≤ ·)) : (dedup l).Pairwise (· < ·) := by
  cases l with
  | nil => exact List.Pairwise.nil
  | cons x t => exact ddup_inc x t h
theorem sortI_inc (l : List Int) : (sortI l).Pairwise (· ≤ ·) := by
  unfold sortI
  have := List.pairwise_mergeSort (le := fun x y : Int => decide (x ≤ y)) (fun a b c h1 h2 => by simp at *; omega) (fun a b => by simp; omega) l
  exact this.imp (fun h => by simpa using h)
def tabs (ns : List DLNode) : List Int := (ns.filter fun n => n.Op == 1).map (·.Table)
theorem Tables_l1_eq : ∀ (ns : List DLNode) (out : List Int), out.length + ns.length ≤ 5000 → logic_Tables_l1 ns out = some (dedup (sortI (out ++ tabs ns)))
  | [], out, h => by
    unfold logic_Tables_l1 sortIF
    rw [if_pos (by simp at h; omega)]
    simp only [Option.bind_some]
    rw [compact_eq _ (by rw [sortI_len]; simp at h; omega)]
    simp [tabs]
  | n :: ns, out, h => by
    simp only [List.length_cons] at h
    unfold logic_Tables_l1
    by_cases h1 : n.Op = 1
    · rw [if_pos (by simp [h1]), app_ok (by simp; omega)]
      simp only [Option.bind_some]
      rw [Tables_l1_eq ns _ (by simp; omega)]
      simp [tabs, h1]
    · rw [if_neg (by simpa using h1), Tables_l1_eq ns _ (by omega)]
      simp [tabs, h1]
theorem table_in {n : DLNode} {a b k : List Int} (hs : SmallN n) (h1 : n.Op = 1) (h : ref13_kinds n a b = some (k, true)) : 0 ≤ n.Table ∧ n.Table ≤ 3 := by
  obtain ⟨k1, o, k', g1, g2, _⟩ := scan_same default n a b hs h1
  rw [h] at g2
  injection g2 with g2
  injection g2 with _ g2
  subst g2
  unfold logic_checker_scan at g1
  split at g1
  · rename_i hc
    simp only [Bool.and_eq_true, decide_eq_true_eq] at hc
    omega
  · simp at g1
theorem nodes_facts {l : DLogic} (hS : SmallL l) {ob : Dchecker} (hL : LookOK l ob) : ∀ n ∈ l.Nodes, ExprsOK n ∧ (n.Op = 1 → 0 ≤ n.Table ∧ n.Table ≤ 3) := by
  intro n hn
  obtain ⟨j, hj, rfl⟩ := List.mem_iff_getElem.1 hn
  obtain ⟨m, F⟩ := facts_of hL.inv hL.le hj
  have hm : m = l.Nodes[j] := by
    have := F.node
    rw [idx_nat, List.getElem?_eq_getElem hj] at this
    injection this with this
    exact this.symm
  subst hm
  exact ⟨exprs_ok (hS _ hn) F.op F.own F.kinds, fun h1 => table_in (hS _ hn) h1 F.kinds⟩
end Go.Proofs.Ytbhkincjkpeaoaa

namespace Go.Proofs.Ytbhkincjkpeaoaa
open Go

theorem kinds_l1_sh (n : DLNode) (d : Int) : ∀ (fu : Nat) (ok : Bool) (i : Int), ref13_kinds_l1 (shN d n) fu ok i = ref13_kinds_l1 n fu ok i := by
  intro fu
  induction fu with
  | zero => intros; rfl
  | succ fu ih => intros; simp only [ref13_kinds_l1, ih]; rfl
theorem kinds_l3_sh (n : DLNode) (d : Int) (a : List Int) : ∀ (fu : Nat) (out : List Int) (ok : Bool) (i : Int), ref13_kinds_l3 (shN d n) a fu out ok i = ref13_kinds_l3 n a fu out ok i := by
  intro fu
  induction fu with
  | zero => intros; rfl
  | succ fu ih => intros; simp only [ref13_kinds_l3, ih]; rfl
theorem kinds_l2_sh (n : DLNode) (d : Int) (a : List Int) : ∀ (fu : Nat) (out : List Int) (i : Int), ref13_kinds_l2 (shN d n) a fu out i = ref13_kinds_l2 n a fu out i := by
  intro fu
  induction fu with
  | zero => intros; rfl
  | succ fu ih => intros; simp only [ref13_kinds_l2, ih, kinds_l3_sh]; rfl
theorem kinds_l4_sh (n : DLNode) (d : Int) (a : List Int) : ∀ (fu : Nat) (out : List Int) (ok : Bool) (i : Int), ref13_kinds_l4 (shN d n) a fu out ok i = ref13_kinds_l4 n a fu out ok i := by
  intro fu
  induction fu with
  | zero => intros; rfl
  | succ fu ih => intros; simp only [ref13_kinds_l4, ih]; rfl
theorem kinds_l6_sh (n : DLNode) (d : Int) (a : List Int) : ∀ (fu : Nat) (ok : Bool) (i : Int), ref13_kinds_l6 (shN d n) a fu ok i = ref13_kinds_l6 n a fu ok i := by
  intro fu
  induction fu with
  | zero => intros; rfl
  | succ fu ih => intros; simp only [ref13_kinds_l6, ih]; rfl
theorem kinds_sh (n : DLNode) (d : Int) (a b : List Int) : ref13_kinds (shN d n) a b = ref13_kinds n a b := by
  unfold ref13_kinds
  simp only [kinds_l1_sh, kinds_l2_sh, kinds_l4_sh, kinds_l6_sh]
  rfl
theorem ownB_sh (n : DLNode) (d : Int) : ownB (shN d n) = ownB n := rfl
section
variable {l : DLogic} {sz : Nat → Nat} {ks : Nat → List Int}
abbrev AllF (l : DLogic) (sz : Nat → Nat) (ks : Nat → List Int) : Prop := ∀ j, j < l.Nodes.length → ∃ n, NFacts l sz ks j n
theorem shI_neg {d x : Int} (h : x = -1) : shI d x = -1 := by unfold shI; rw [if_neg (by omega), h]
end
theorem laid_l2_eq (nx : Nat → DLNode → DLogic → DLogic → Option (DLogic × Int)) (i : Nat) (n : DLNode) (x out : DLogic) : ∀ (tl : List DLNode) (out1 : DLogic), (∀ m ∈ tl, SmallN m) → out1.Nodes.length + tl.length ≤ 100000 → logic_laid_l2 nx i n x out tl out1 = (if ((i : Int) == (0 : Int)) then nx (i + 1) (DLNode.mk n.Op (IntKind.i64.wrap (((out1.Nodes ++ tl.map (shN (out.Nodes.length : Int))).length : Int) - (1 : Int))) n.B n.Table n.Kinds n.Left n.Cond n.Keys n.Aggs n.Items n.Order n.Limit) x ⟨out1.Nodes ++ tl.map (shN (out.Nodes.length : Int))⟩ else nx (i + 1) (DLNode.mk n.Op n.A (IntKind.i64.wrap (((out1.Nodes ++ tl.map (shN (out.Nodes.length : Int))).length : Int) - (1 : Int))) n.Table n.Kinds n.Left n.Cond n.Keys n.Aggs n.Items n.Order n.Limit) x ⟨out1.Nodes ++ tl.map (shN (out.Nodes.length : Int))⟩) := by
  intro tl
  induction tl with
  | nil => intro out1 _ _; unfold logic_laid_l2; simp only [List.map_nil, List.append_nil]
  | cons m tl ih2 =>
    intro out1 hm hl1
    simp only [List.length_cons] at hl1
    rw [logic_laid_l2, logic_copied_eq (hm m (List.mem_cons_self ..))]
    simp only [Option.bind_some]
    rw [app_ok (by simp; omega)]
    simp only [Option.bind_some]
    rw [ih2 _ (fun z hz => hm z (List.mem_cons_of_mem _ hz)) (by simp; omega)]
    simp only [List.map_cons, List.append_assoc, List.cons_append, List.nil_append]
theorem laid_next {n : DLNode} {x out a : DLogic} (ha : SmallL a) (hr : rightL a = true) (hl : a.Nodes.length ≤ 1000) (ho : out.Nodes.length ≤ 1000) (parts : List DLogic) (i : Nat) : logic_laid_l1 (a :: parts) i n x out = (if ((i : Int) == (0 : Int)) then logic_laid_l1 parts (i + 1) (DLNode.mk n.Op (IntKind.i64.wrap (((out.Nodes ++ a.Nodes.map (shN (out.Nodes.length : Int))).length : Int) - (1 : Int))) n.B n.Table n.Kinds n.Left n.Cond n.Keys n.Aggs n.Items n.Order n.Limit) x ⟨out.Nodes ++ a.Nodes.map (shN (out.Nodes.length : Int))⟩ else logic_laid_l1 parts (i + 1) (DLNode.mk n.Op n.A (IntKind.i64.wrap (((out.Nodes ++ a.Nodes.map (shN (out.Nodes.length : Int))).length : Int) - (1 : Int))) n.Table n.Kinds n.Left n.Cond n.Keys n.Aggs n.Items n.Order n.Limit) x ⟨out.Nodes ++ a.Nodes.map (shN (out.Nodes.length : Int))⟩) := by
  conv => lhs; unfold logic_laid_l1
  obtain ⟨_, ⟨j, h2⟩, _⟩ := right_eq ha
  rw [h2, hr]
  simp only [if_true, Option.bind_some]
  rw [if_neg (by decide), laid_l2_eq _ i n x out a.Nodes out ha (by omega)]
end Go.Proofs.Ytbhkincjkpeaoaa

namespace Go.Proofs.Ytbhkincjkpeaoaa
open Go

section
variable {l d : DLogic} {sz sz' : Nat → Nat} {ks ks' : Nat → List Int}
theorem place_cases {j : Nat} {n : DLNode} (F : NFacts l sz ks j n) : (n.A = -1 ∨ 0 ≤ n.A ∧ n.A < (j : Int)) ∧ (n.B = -1 ∨ 0 ≤ n.B ∧ n.B < (j : Int)) := by
  by_cases c1 : n.Op = 1
  · obtain ⟨a, b, _⟩ := F.lf c1
    exact ⟨.inl a, .inl b⟩
  by_cases c27 : n.Op = 2 ∨ n.Op = 7
  · obtain ⟨a, b, c, d, e⟩ := F.bi c27
    exact ⟨.inr (by omega), .inr (by omega)⟩
  · obtain ⟨a, b, c, d⟩ := F.un c1 (fun h => c27 (.inl h)) (fun h => c27 (.inr h))
    exact ⟨.inr (by omega), .inl c⟩
theorem shI_add {e : Nat} {x : Int} (h : 0 ≤ x) (h2 : x ≤ 10000) (h3 : e ≤ 10000) : shI (e : Int) x = x + e := by
  unfold shI
  rw [if_pos h, wrapI (by omega) (by omega)]
theorem shift_facts {e j : Nat} {n : DLNode} (F : NFacts l sz ks j n) (h8 : n.Op ≠ 8) (hidx : idx d.Nodes ((e + j : Nat) : Int) = some (shN (e : Int) n)) (hj : e + j ≤ 1000) (hs : ∀ x, x ≤ j → sz' (e + x) = sz x) (hk : ∀ x, x ≤ j → ks' (e + x) = ks x) : NFacts d sz' ks' (e + j) (shN (e : Int) n) := by
  obtain ⟨hA, hB⟩ := place_cases F
  refine ⟨hidx, F.op, by rw [ownB_sh]; exact F.own, fun c1 => ?_, fun c1 c2 c7 => ?_, fun c27 => ?_, ?_, fun c8 => absurd c8 h8, by rw [hk j (Nat.le_refl _)]; exact F.len, by rw [hs j (Nat.le_refl _)]; exact F.pos, by rw [hs j (Nat.le_refl _)]; have := F.le; omega⟩
  · obtain ⟨a, b, c⟩ := F.lf c1
    exact ⟨shI_neg a, shI_neg b, by rw [hs j (Nat.le_refl _)]; exact c⟩
  · obtain ⟨a, b, c, g⟩ := F.un c1 c2 c7
    refine ⟨by omega, ?_, shI_neg c, ?_⟩
    · show shI (e : Int) n.A = _
      rw [shI_add (by omega) (by omega) (by omega)]; omega
    · rw [hs j (Nat.le_refl _), show e + j - 1 = e + (j - 1) from by omega, hs (j - 1) (by omega)]; exact g
  · obtain ⟨a, b, c, g, q⟩ := F.bi c27
    have ej : e + j - 1 = e + (j - 1) := by omega
    refine ⟨by omega, ?_, ?_, ?_, ?_⟩
    · show shI (e : Int) n.B = _
      rw [shI_add (by omega) (by omega) (by omega)]; omega
    · rw [ej, hs (j - 1) (by omega)]; omega
    · show shI (e : Int) n.A = _
      rw [ej, hs (j - 1) (by omega), shI_add (by omega) (by omega) (by omega)]; omega
    · rw [hs j (Nat.le_refl _), ej, hs (j - 1) (by omega), show e + (j - 1) - sz (j - 1) = e + (j - 1 - sz (j - 1)) from by omega, hs _ (by omega)]; exact q
  · rw [kinds_sh, hk j (Nat.le_refl _)]
    have key : ∀ x : Int, (x = -1 ∨ 0 ≤ x ∧ x < (j : Int)) → (if shI (e : Int) x < 0 then ([] : List Int) else ks' (shI (e : Int) x).toNat) = if x < 0 then [] else ks x.toNat := by
      intro x hx
      rcases hx with hx | hx
      · rw [shI_neg hx, if_pos (by decide), if_pos (by omega)]
      · rw [shI_add (by omega) (by omega) (by omega), if_neg (by omega), if_neg (by omega), show (x + (e : Int)).toNat = e + x.toNat from by omega, hk _ (by omega)]
    have h1 := F.kinds
    rw [← key n.A hA, ← key n.B hB] at h1
    exact h1
theorem uniq {e m : Nat} (H : AllF l sz ks) (H' : AllF d sz' ks') (hm : m ≤ l.Nodes.length) (hl : l.Nodes.length ≤ 200) (he : e ≤ 200) (hd : e + m ≤ d.Nodes.length) (hn : ∀ j, j < m → ∀ n, idx l.Nodes (j : Int) = some n → idx d.Nodes ((e + j : Nat) : Int) = some (shN (e : Int) n)) : ∀ j, j < m → sz' (e + j) = sz j ∧ ks' (e + j) = ks j := by
  intro j
  induction j using Nat.strongRecOn with
  | ind j ih =>
    intro hj
    obtain ⟨n, F⟩ := H j (by omega)
    obtain ⟨n', F'⟩ := H' (e + j) (by omega)
    have hnn : n' = shN (e : Int) n := by
      have h1 := hn j hj n F.node
      rw [F'.node] at h1
      injection h1
    subst hnn
    obtain ⟨hA, hB⟩ := place_cases F
    constructor
    · by_cases c1 : n.Op = 1
      · rw [(F'.lf c1).2.2, (F.lf c1).2.2]
      by_cases c27 : n.Op = 2 ∨ n.Op = 7
      · obtain ⟨a, b, c, g, q⟩ := F.bi c27
        obtain ⟨a', b', c', g', q'⟩ := F'.bi c27
        have ej : e + j - 1 = e + (j - 1) := by omega
        rw [ej, (ih (j - 1) (by omega) (by omega)).1, show e + (j - 1) - sz (j - 1) = e + (j - 1 - sz (j - 1)) from by omega, (ih (j - 1 - sz (j - 1)) (by omega) (by omega)).1] at q'
        rw [q', q]
      · obtain ⟨a, b, c, g⟩ := F.un c1 (fun h => c27 (.inl h)) (fun h => c27 (.inr h))
        obtain ⟨a', b', c', g'⟩ := F'.un c1 (fun h => c27 (.inl h)) (fun h => c27 (.inr h))
        rw [show e + j - 1 = e + (j - 1) from by omega, (ih (j - 1) (by omega) (by omega)).1] at g'
        rw [g', g]
    · have key : ∀ x : Int, (x = -1 ∨ 0 ≤ x ∧ x < (j : Int)) → (if shI (e : Int) x < 0 then ([] : List Int) else ks' (shI (e : Int) x).toNat) = if x < 0 then [] else ks x.toNat := by
        intro x hx
        rcases hx with hx | hx
        · rw [shI_neg hx, if_pos (by decide), if_pos (by omega)]
        · rw [shI_add (by omega) (by omega) (by omega), if_neg (by omega), if_neg (by omega), show (x + (e : Int)).toNat = e + x.toNat from by omega, (ih x.toNat (by omega) (by omega)).2]
      have h1 := F'.kinds
      have hA' : (shN (e : Int) n).A = shI (e : Int) n.A := rfl
      have hB' : (shN (e : Int) n).B = shI (e : Int) n.B := rfl
      rw [kinds_sh, hA', hB', key n.A hA, key n.B hB, F.kinds] at h1
      injection h1 with h1
      injection h1 with h1 _
      exact h1.symm
end
theorem Kinds_no {l : DLogic} (hS : SmallL l) (h : rightL l = false) : logic_Kinds l = some ([], 230) := by
  obtain ⟨_, _, ob, j, r3, _⟩ := right_eq hS
  unfold logic_Kinds
  rw [r3, h]
  rfl
structure Known (l : DLogic) (sz : Nat → Nat) (ks : Nat → List Int) : Prop where
  pos : 1 ≤ l.Nodes.length
  le : l.Nodes.length ≤ 60
  all : AllF l sz ks
  whole : sz (l.Nodes.length - 1) = l.Nodes.length
  kinds : logic_Kinds l = some (ks (l.Nodes.length - 1), 0)
theorem known_of {l : DLogic} (hS : SmallL l) (h : rightL l = true) : ∃ sz ks, Known l sz ks := by
  obtain ⟨_, _, ob, j, r3, r4⟩ := right_eq hS
  obtain ⟨hL, hj⟩ := r4 h
  have hle := hL.le
  have hpos := hL.pos
  obtain ⟨N0, _⟩ := hL.inv.at (j := l.Nodes.length - 1) (by omega)
  refine ⟨szF ob.first, ksF ob.kinds, hpos, hle, fun j hj => facts_of hL.inv hle hj, ?_, ?_⟩
  · have e1 := N0.size FUEL (fuel_len (by omega))
    have e2 := hL.whole
    unfold ref13_Size at e2
    rw [show (l.Nodes.length : Int) - 1 = ((l.Nodes.length - 1 : Nat) : Int) from by omega, e1] at e2
    injection e2 with e2
    omega
  · unfold logic_Kinds
    rw [r3, h]
    simp only [Option.bind_some, Bool.not_true, Bool.false_eq_true, if_false]
    have hk : idx ob.kinds j = some (ksF ob.kinds (l.Nodes.length - 1)) := by
      rw [hj, show (l.Nodes.length : Int) - 1 = ((l.Nodes.length - 1 : Nat) : Int) from by omega, idx_nat]
      unfold ksF
      rw [List.getElem?_eq_getElem (by rw [hL.inv.kl]; omega)]; rfl
    rw [hk]
    simp only [Option.bind_some]
    rw [Clone_int_eq _ (by have := N0.len; omega)]
    rfl
end Go.Proofs.Ytbhkincjkpeaoaa

namespace Go.Proofs.Ytbhkincjkpeaoaa
open Go

def atN (x y : Int) (n : DLNode) : DLNode := { n with A := x, B := y }
theorem kinds_l1_at (n : DLNode) (x y : Int) : ∀ (fu : Nat) (ok : Bool) (i : Int), ref13_kinds_l1 (atN x y n) fu ok i = ref13_kinds_l1 n fu ok i := by
  intro fu
  induction fu with
  | zero => intros; rfl
  | succ fu ih => intros; simp only [ref13_kinds_l1, ih]; rfl
theorem kinds_l3_at (n : DLNode) (x y : Int) (a : List Int) : ∀ (fu : Nat) (out : List Int) (ok : Bool) (i : Int), ref13_kinds_l3 (atN x y n) a fu out ok i = ref13_kinds_l3 n a fu out ok i := by
  intro fu
  induction fu with
  | zero => intros; rfl
  | succ fu ih => intros; simp only [ref13_kinds_l3, ih]; rfl
theorem kinds_l2_at (n : DLNode) (x y : Int) (a : List Int) : ∀ (fu : Nat) (out : List Int) (i : Int), ref13_kinds_l2 (atN x y n) a fu out i = ref13_kinds_l2 n a fu out i := by
  intro fu
  induction fu with
  | zero => intros; rfl
  | succ fu ih => intros; simp only [ref13_kinds_l2, ih, kinds_l3_at]; rfl
theorem kinds_l4_at (n : DLNode) (x y : Int) (a : List Int) : ∀ (fu : Nat) (out : List Int) (ok : Bool) (i : Int), ref13_kinds_l4 (atN x y n) a fu out ok i = ref13_kinds_l4 n a fu out ok i := by
  intro fu
  induction fu with
  | zero => intros; rfl
  | succ fu ih => intros; simp only [ref13_kinds_l4, ih]; rfl
theorem kinds_l6_at (n : DLNode) (x y : Int) (a : List Int) : ∀ (fu : Nat) (ok : Bool) (i : Int), ref13_kinds_l6 (atN x y n) a fu ok i = ref13_kinds_l6 n a fu ok i := by
  intro fu
  induction fu with
  | zero => intros; rfl
  | succ fu ih => intros; simp only [ref13_kinds_l6, ih]; rfl
theorem kinds_at (n : DLNode) (x y : Int) (a b : List Int) : ref13_kinds (atN x y n) a b = ref13_kinds n a b := by
  unfold ref13_kinds
  simp only [kinds_l1_at, kinds_l2_at, kinds_l4_at, kinds_l6_at]
  rfl
theorem ownB_at (n : DLNode) (x y : Int) : ownB (atN x y n) = ownB n := rfl
def d2 (n : DLNode) (a b : DLogic) : DLogic := ⟨(a.Nodes ++ b.Nodes.map (shN (a.Nodes.length : Int))) ++ [atN ((a.Nodes.length : Int) - 1) ((a.Nodes.length : Int) + (b.Nodes.length : Int) - 1) n]⟩
theorem d2_len (n : DLNode) (a b : DLogic) : (d2 n a b).Nodes.length = a.Nodes.length + b.Nodes.length + 1 := by simp [d2]; omega
theorem d2_small {n : DLNode} {a b : DLogic} (hn : SmallN n) (ha : SmallL a) (hb : SmallL b) : SmallL (d2 n a b) := by
  intro m hm
  rcases List.mem_append.1 hm with h | h
  · rcases List.mem_append.1 h with h | h
    · exact ha m h
    · exact mem_shN hb m h
  · rw [List.mem_singleton.1 h]; exact hn.at _ _
theorem laid_final {n : DLNode} {x out : DLogic} (hn : SmallN n) (hA : n.A ≤ 100000) (hB : n.B ≤ 100000) (ho : SmallL out) (hl : out.Nodes.length ≤ 4000) (i : Nat) : logic_laid_l1 [] i n x out = some (if rightL ⟨out.Nodes ++ [n]⟩ then (⟨out.Nodes ++ [n]⟩, 0) else (⟨[]⟩, 230)) := by
  unfold logic_laid_l1
  rw [logic_copied_eq hn, shN_zero hA hB]
  simp only [Option.bind_some]
  rw [app_ok (by simp; omega)]
  simp only [Option.bind_some]
  have hs : SmallL (⟨out.Nodes ++ [n]⟩ : DLogic) := by
    intro m hm
    rcases List.mem_append.1 hm with h | h
    · exact ho m h
    · rw [List.mem_singleton.1 h]; exact hn
  obtain ⟨_, ⟨j, h2⟩, _⟩ := right_eq hs
  have h2' : logic_Check ({ out with Nodes := out.Nodes ++ [n] } : DLogic) = _ := h2
  rw [h2']
  cases hr : rightL (⟨out.Nodes ++ [n]⟩ : DLogic) <;> simp
theorem laid_not {n : DLNode} {x out a : DLogic} (ha : SmallL a) (hr : rightL a = false) (parts : List DLogic) (i : Nat) : logic_laid_l1 (a :: parts) i n x out = some (⟨[]⟩, 230) := by
  unfold logic_laid_l1
  obtain ⟨_, ⟨j, h2⟩, _⟩ := right_eq ha
  rw [h2, hr]
  rfl
theorem map_sh0 {a : DLogic} {sz : Nat → Nat} {ks : Nat → List Int} (K : Known a sz ks) : a.Nodes.map (shN ((([] : List DLNode).length : Nat) : Int)) = a.Nodes := by
  conv => rhs; rw [← List.map_id a.Nodes]
  refine List.map_congr_left fun m hm => ?_
  obtain ⟨j, hj, rfl⟩ := List.mem_iff_getElem.1 hm
  obtain ⟨n, F⟩ := K.all j hj
  have hn := F.node
  rw [idx_nat, List.getElem?_eq_getElem hj] at hn
  injection hn with hn
  rw [hn]
  obtain ⟨hA, hB⟩ := place_cases F
  have hle := K.le
  exact shN_zero (by omega) (by omega)
theorem laid_two {n : DLNode} {a b : DLogic} (hn : SmallN n) (ha : SmallL a) (hb : SmallL b) (hra : rightL a = true) (hrb : rightL b = true) : logic_laid n [a, b] = some (if rightL (d2 n a b) then (d2 n a b, 0) else (⟨[]⟩, 230)) := by
  obtain ⟨sza, ksa, Ka⟩ := known_of ha hra
  obtain ⟨szb, ksb, Kb⟩ := known_of hb hrb
  have la := Ka.le
  have lb := Kb.le
  have pa := Ka.pos
  have pb := Kb.pos
  unfold logic_laid
  rw [laid_next ha hra (by omega) (by simp), if_pos (by simp), map_sh0 Ka]
  simp only [List.nil_append]
  rw [laid_next hb hrb (by omega) (by simp; omega), if_neg (by decide)]
  rw [wrapI (n := (a.Nodes.length : Int) - 1) (by omega) (by omega), wrapI (by simp; omega) (by simp; omega)]
  rw [laid_final]
  · have e : (a.Nodes ++ b.Nodes.map (shN (a.Nodes.length : Int))) ++ [DLNode.mk n.Op ((a.Nodes.length : Int) - 1) (((a.Nodes ++ b.Nodes.map (shN (a.Nodes.length : Int))).length : Int) - 1) n.Table n.Kinds n.Left n.Cond n.Keys n.Aggs n.Items n.Order n.Limit] = (d2 n a b).Nodes := by
      unfold d2 atN
      simp only [List.length_append, List.length_map, Int.natCast_add]
    simp only [e]
  · exact hn.at _ _
  · show (a.Nodes.length : Int) - 1 ≤ _
    omega
  · show ((a.Nodes ++ b.Nodes.map (shN (a.Nodes.length : Int))).length : Int) - 1 ≤ _
    simp; omega
  · intro m hm
    rcases List.mem_append.1 hm with h | h
    · exact ha m h
    · exact mem_shN hb m h
  · simp; omega
theorem laid_two_no {n : DLNode} {a b : DLogic} (ha : SmallL a) (hb : SmallL b) (h : rightL a = false ∨ rightL b = false) : logic_laid n [a, b] = some (⟨[]⟩, 230) := by
  unfold logic_laid
  cases hra : rightL a with
  | false => rw [laid_not ha hra]
  | true =>
    have hrb : rightL b = false := by rcases h with h | h; rw [hra] at h; cases h; exact h
    obtain ⟨sza, ksa, Ka⟩ := known_of ha hra
    have la := Ka.le
    rw [laid_next ha hra (by omega) (by simp), if_pos (by simp), laid_not hb hrb]
theorem d2_a {n : DLNode} {a b : DLogic} {j : Nat} (hj : j < a.Nodes.length) : idx (d2 n a b).Nodes (j : Int) = idx a.Nodes (j : Int) := by
  rw [idx_nat, idx_nat]
  unfold d2
  simp only
  rw [List.getElem?_append_left (by simp; omega), List.getElem?_append_left hj]
theorem d2_b {n : DLNode} {a b : DLogic} {j : Nat} {m : DLNode} (hj : j < b.Nodes.length) (h : idx b.Nodes (j : Int) = some m) : idx (d2 n a b).Nodes ((a.Nodes.length + j : Nat) : Int) = some (shN (a.Nodes.length : Int) m) := by
  rw [idx_nat] at h ⊢
  unfold d2
  simp only
  rw [List.getElem?_append_left (by simp; omega), List.getElem?_append_right (by omega), show a.Nodes.length + j - a.Nodes.length = j from by omega, List.getElem?_map, h]
  rfl
theorem d2_r {n : DLNode} {a b : DLogic} : idx (d2 n a b).Nodes ((a.Nodes.length + b.Nodes.length : Nat) : Int) = some (atN ((a.Nodes.length : Int) - 1) ((a.Nodes.length : Int) + (b.Nodes.length : Int) - 1) n) := by
  rw [idx_nat]
  unfold d2
  simp only
  rw [List.getElem?_append_right (by simp), show a.Nodes.length + b.Nodes.length - (a.Nodes ++ b.Nodes.map (shN (a.Nodes.length : Int))).length = 0 from by simp]
  rfl
theorem known_sh0 {a : DLogic} {sz : Nat → Nat} {ks : Nat → List Int} (K : Known a sz ks) {j : Nat} {n : DLNode} (F : NFacts a sz ks j n) (hj : j < a.Nodes.length) : shN ((0 : Nat) : Int) n = n := by
  obtain ⟨hA, hB⟩ := place_cases F
  have hle := K.le
  exact shN_zero (by omega) (by omega)
theorem root2 {n : DLNode} {a b : DLogic} {sza szb szd : Nat → Nat} {ksa ksb ksd : Nat → List Int} (Ka : Known a sza ksa) (Kb : Known b szb ksb) (Kd : Known (d2 n a b) szd ksd) : ref13_kinds n (ksa (a.Nodes.length - 1)) (ksb (b.Nodes.length - 1)) = some (ksd (a.Nodes.length + b.Nodes.length), true) := by
  have la := Ka.le
  have lb := Kb.le
  have pa := Ka.pos
  have pb := Kb.pos
  have hlen := d2_len n a b
  have ld := Kd.le
  have ua := uniq (l := a) (d := d2 n a b) (e := 0) (m := a.Nodes.length) Ka.all Kd.all (Nat.le_refl _) (by omega) (by omega) (by omega) (fun j hj m hm => by
    obtain ⟨m', F⟩ := Ka.all j hj
    have e : m' = m := by have := F.node; rw [hm] at this; injection this with this; exact this.symm
    subst e
    rw [Nat.zero_add, d2_a hj, hm, known_sh0 Ka F hj]) (a.Nodes.length - 1) (by omega)
  have ub := uniq (l := b) (d := d2 n a b) (e := a.Nodes.length) (m := b.Nodes.length) Kb.all Kd.all (Nat.le_refl _) (by omega) (by omega) (by omega) (fun j hj m hm => d2_b hj hm) (b.Nodes.length - 1) (by omega)
  obtain ⟨r, F⟩ := Kd.all (a.Nodes.length + b.Nodes.length) (by omega)
  have hr : r = atN ((a.Nodes.length : Int) - 1) ((a.Nodes.length : Int) + (b.Nodes.length : Int) - 1) n := by
    have := F.node
    rw [d2_r] at this
    injection this with this
    exact this.symm
  subst hr
  have h := F.kinds
  rw [kinds_at] at h
  have eA : (atN ((a.Nodes.length : Int) - 1) ((a.Nodes.length : Int) + (b.Nodes.length : Int) - 1) n).A = (a.Nodes.length : Int) - 1 := rfl
  have eB : (atN ((a.Nodes.length : Int) - 1) ((a.Nodes.length : Int) + (b.Nodes.length : Int) - 1) n).B = (a.Nodes.length : Int) + (b.Nodes.length : Int) - 1 := rfl
  rw [eA, eB, if_neg (by omega), if_neg (by omega)] at h
  rw [show ((a.Nodes.length : Int) - 1).toNat = 0 + (a.Nodes.length - 1) from by omega, ua.2, show ((a.Nodes.length : Int) + (b.Nodes.length : Int) - 1).toNat = a.Nodes.length + (b.Nodes.length - 1) from by omega, ub.2] at h
  exact h
theorem not8 {a : DLogic} {sz : Nat → Nat} {ks : Nat → List Int} (K : Known a sz ks) {r : DLNode} (hr : idx a.Nodes ((a.Nodes.length - 1 : Nat) : Int) = some r) (h8 : r.Op ≠ 8) {j : Nat} {n : DLNode} (F : NFacts a sz ks j n) : n.Op ≠ 8 := by
  intro h
  have hl := F.last h
  have hn := F.node
  rw [show j = a.Nodes.length - 1 from by omega, hr] at hn
  injection hn with hn
  rw [hn] at h8
  exact h8 h
theorem comb2 {n : DLNode} {a b : DLogic} {sza szb : Nat → Nat} {ksa ksb : Nat → List Int} (Ka : Known a sza ksa) (Kb : Known b szb ksb) {ra rb : DLNode} (hra : idx a.Nodes ((a.Nodes.length - 1 : Nat) : Int) = some ra) (ha8 : ra.Op ≠ 8) (hrb : idx b.Nodes ((b.Nodes.length - 1 : Nat) : Int) = some rb) (hb8 : rb.Op ≠ 8) (hop : n.Op = 2 ∨ n.Op = 7) (ho : ownB n = true) {k : List Int} (hk : ref13_kinds n (ksa (a.Nodes.length - 1)) (ksb (b.Nodes.length - 1)) = some (k, true)) (hkl : k.length ≤ 16) (hlen : a.Nodes.length + b.Nodes.length + 1 ≤ 60) : rightL (d2 n a b) = true := by
  have pa := Ka.pos
  have pb := Kb.pos
  obtain ⟨la, hla⟩ : ∃ la, la = a.Nodes.length := ⟨_, rfl⟩
  obtain ⟨lb, hlb⟩ : ∃ lb, lb = b.Nodes.length := ⟨_, rfl⟩
  have hdl := d2_len n a b
  obtain ⟨sz, hsz⟩ : ∃ sz : Nat → Nat, sz = fun j => if j < la then sza j else if j < la + lb then szb (j - la) else la + lb + 1 := ⟨_, rfl⟩
  obtain ⟨ks, hks⟩ : ∃ ks : Nat → List Int, ks = fun j => if j < la then ksa j else if j < la + lb then ksb (j - la) else k := ⟨_, rfl⟩
  have s1 : ∀ x, x < la → sz x = sza x ∧ ks x = ksa x := fun x hx => by rw [hsz, hks]; simp [hx]
  have s2 : ∀ x, x < lb → sz (la + x) = szb x ∧ ks (la + x) = ksb x := fun x hx => by
    rw [hsz, hks]
    have h1 : ¬ (la + x < la) := by omega
    have h2 : la + x < la + lb := by omega
    simp only [h1, h2, if_false, if_true, Nat.add_sub_cancel_left, and_self]
  have s3 : sz (la + lb) = la + lb + 1 ∧ ks (la + lb) = k := by
    rw [hsz, hks]
    have h1 : ¬ (la + lb < la) := by omega
    have h2 : ¬ (la + lb < la + lb) := by omega
    simp only [h1, h2, if_false, and_self]
  rw [← hla, ← hlb] at hdl hlen
  have wa := Ka.whole
  have wb := Kb.whole
  rw [← hla] at wa hra hk pa
  rw [← hlb] at wb hrb hk pb
  have H : AllF (d2 n a b) sz ks := by
    intro j hj
    rw [hdl] at hj
    by_cases c1 : j < la
    · obtain ⟨m, F⟩ := Ka.all j (by omega)
      have hm8 : m.Op ≠ 8 := not8 Ka (r := ra) (by rw [← hla]; exact hra) ha8 F
      have hidx : idx (d2 n a b).Nodes ((0 + j : Nat) : Int) = some (shN ((0 : Nat) : Int) m) := by
        rw [Nat.zero_add, d2_a (by omega), F.node, known_sh0 Ka F (by omega)]
      have G := shift_facts (d := d2 n a b) (sz' := sz) (ks' := ks) (e := 0) F hm8 hidx (by omega) (fun x hx => by rw [Nat.zero_add]; exact (s1 x (by omega)).1) (fun x hx => by rw [Nat.zero_add]; exact (s1 x (by omega)).2)
      rw [Nat.zero_add] at G
      exact ⟨_, G⟩
    by_cases c2 : j < la + lb
    · obtain ⟨m, F⟩ := Kb.all (j - la) (by omega)
      have hm8 : m.Op ≠ 8 := not8 Kb (r := rb) (by rw [← hlb]; exact hrb) hb8 F
      have hidx : idx (d2 n a b).Nodes ((la + (j - la) : Nat) : Int) = some (shN (la : Int) m) := by
        rw [hla]; exact d2_b (by omega) (by rw [← hla]; exact F.node)
      have G := shift_facts (d := d2 n a b) (sz' := sz) (ks' := ks) (e := la) F hm8 hidx (by omega) (fun x hx => (s2 x (by omega)).1) (fun x hx => (s2 x (by omega)).2)
      rw [show la + (j - la) = j from by omega] at G
      exact ⟨_, G⟩
    · have hje : j = la + lb := by omega
      subst hje
      have eA : (atN ((la : Int) - 1) ((la : Int) + (lb : Int) - 1) n).A = (la : Int) - 1 := rfl
      have eB : (atN ((la : Int) - 1) ((la : Int) + (lb : Int) - 1) n).B = (la : Int) + (lb : Int) - 1 := rfl
      have b1 := s2 (lb - 1) (by omega)
      have b2 := s1 (la - 1) (by omega)
      rw [show la + (lb - 1) = la + lb - 1 from by omega] at b1
      refine ⟨atN ((la : Int) - 1) ((la : Int) + (lb : Int) - 1) n, ⟨by rw [hla, hlb]; exact d2_r, by rcases hop with h | h <;> (show op8 n.Op = true) <;> rw [h] <;> rfl, by rw [ownB_at]; exact ho, fun c => ?_, fun _ c2' c7 => ?_, fun _ => ?_, ?_, fun c => ?_, by rw [s3.2]; exact hkl, by rw [s3.1]; omega, by rw [s3.1]; omega⟩⟩
      · have : n.Op = 1 := c
        omega
      · rcases hop with h | h
        · exact absurd h c2'
        · exact absurd h c7
      · refine ⟨by omega, ?_, ?_, ?_, ?_⟩
        · rw [eB]; omega
        · rw [b1.1, wb]; omega
        · rw [eA, b1.1, wb]; omega
        · rw [s3.1, b1.1, wb, show la + lb - 1 - lb = la - 1 from by omega, b2.1, wa]
      · rw [kinds_at, eA, eB, if_neg (by omega), if_neg (by omega), show ((la : Int) - 1).toNat = la - 1 from by omega, show ((la : Int) + (lb : Int) - 1).toNat = la + lb - 1 from by omega, b1.2, b2.2, s3.2]
        exact hk
      · have : n.Op = 8 := c
        omega
  exact facts_right (by omega) (by omega) H (by rw [hdl, show la + lb + 1 - 1 = la + lb from by omega, s3.1])
theorem right_le {l : DLogic} (hS : SmallL l) (h : rightL l = true) : l.Nodes.length ≤ 60 := by
  obtain ⟨sz, ks, K⟩ := known_of hS h
  exact K.le
theorem sorted2 {n : DLNode} {a b : DLogic} (hS : SmallL (d2 n a b)) {ra : DLNode} (pa : 1 ≤ a.Nodes.length) (hra : idx a.Nodes ((a.Nodes.length - 1 : Nat) : Int) = some ra) (h8 : ra.Op = 8) : rightL (d2 n a b) = false := by
  cases hr : rightL (d2 n a b) with
  | false => rfl
  | true =>
    exfalso
    obtain ⟨sz, ks, K⟩ := known_of hS hr
    have hdl := d2_len n a b
    obtain ⟨m, F⟩ := K.all (a.Nodes.length - 1) (by omega)
    have hm := F.node
    rw [d2_a (by omega), hra] at hm
    injection hm with hm
    subst hm
    have := F.last h8
    omega
end Go.Proofs.Ytbhkincjkpeaoaa

namespace Go.Proofs.Ytbhkincjkpeaoaa
open Go

theorem known_len {l : DLogic} {sz : Nat → Nat} {ks : Nat → List Int} (K : Known l sz ks) : (ks (l.Nodes.length - 1)).length ≤ 16 := by
  have := K.pos
  obtain ⟨n, F⟩ := K.all (l.Nodes.length - 1) (by omega)
  exact F.len
def nUnion : DLNode := ⟨(7 : Int), (0 : Int), (0 : Int), (0 : Int), [], false, ⟨[]⟩, [], [], [], [], (0 : Int)⟩
theorem small_simple (op lim : Int) (left : Bool) (e : DExpr) (he : e.Nodes.length ≤ 10) : SmallN ⟨op, 0, 0, 0, [], left, e, [], [], [], [], lim⟩ :=
  ⟨by show e.Nodes.length ≤ 5000; omega, by simp, by simp, by simp, by simp, by simp, by simp, by simp⟩
theorem l5_self (b : List Int) : ∀ (tl : List Int) (i : Nat) (out : List Int), b.drop i = tl → out.length + tl.length ≤ 1000 → ref13_kinds_l5 b tl i out true = some (out ++ tl, true) := by
  intro tl
  induction tl with
  | nil => intro i out _ _; rw [ref13_kinds_l5]; simp
  | cons x tl ih =>
    intro i out hd hl
    simp only [List.length_cons] at hl
    obtain ⟨h1, h2, h3⟩ := at_drop hd
    have step : ref13_kinds_k1 b (ref13_kinds_l5 b tl) i out true x = some (out ++ x :: tl, true) := by
      unfold ref13_kinds_k1
      rw [app_ok (by simp; omega), h1]
      simp only [Option.bind_some, if_true, beq_self_eq_true, Bool.not_true, Bool.false_eq_true, if_false]
      rw [ih (i + 1) _ h3 (by simp; omega)]
      simp
    rw [ref13_kinds_l5]
    by_cases hx : x = 0
    · rw [if_pos (by simp [hx]), h1]
      exact step
    · rw [if_neg (by simpa using hx)]
      exact step
theorem union_self {k : List Int} (h : k.length ≤ 16) : ref13_kinds nUnion k k = some (k, true) := by
  unfold ref13_kinds
  rw [if_neg (by decide), if_neg (by decide), if_neg (by decide), if_neg (by decide), if_neg (by decide), if_neg (by decide), if_pos (by decide), if_neg (by simp), l5_self k k 0 [] rfl (by simp; omega)]
  rfl
theorem safe_right {l : DLogic} (hS : SmallL l) (h : rightL l = true) : logic_Safe l = some (!(l.Nodes.any unsN)) := by
  obtain ⟨_, ⟨j, r2⟩, ob, j', r3, r4⟩ := right_eq hS
  obtain ⟨hL, _⟩ := r4 h
  unfold logic_Safe
  rw [r2, h]
  simp only [if_true, Option.bind_some]
  rw [if_neg (by decide)]
  exact Safe_l1_eq l.Nodes (fun n hn => (nodes_facts hS hL n hn).1)
theorem tables_right {l : DLogic} (hS : SmallL l) (h : rightL l = true) : logic_Tables l = some (dedup (sortI (tabs l.Nodes))) := by
  obtain ⟨_, ⟨j, r2⟩, ob, j', r3, r4⟩ := right_eq hS
  have hle := right_le hS h
  unfold logic_Tables
  rw [r2, h]
  simp only [if_true, Option.bind_some]
  rw [if_neg (by decide), Tables_l1_eq l.Nodes [] (by simp; omega), List.nil_append]
theorem tabs_sh (d : Int) (ns : List DLNode) : tabs (ns.map (shN d)) = tabs ns := by
  induction ns with
  | nil => rfl
  | cons n ns ih =>
    unfold tabs at *
    rw [List.map_cons]
    have e : (shN d n).Op = n.Op := rfl
    have e2 : (shN d n).Table = n.Table := rfl
    by_cases h : n.Op = 1
    · rw [List.filter_cons_of_pos (by rw [e]; simp [h]), List.filter_cons_of_pos (by simp [h]), List.map_cons, List.map_cons, ih, e2]
    · rw [List.filter_cons_of_neg (by rw [e]; simp [h]), List.filter_cons_of_neg (by simp [h]), ih]
theorem logicDoubles_true (l : DLogic) : law13_LogicDoubles l = some true := by
  unfold law13_LogicDoubles
  rw [wakes_true]
  simp only [Option.bind_some, Bool.not_true, Bool.false_eq_true, if_false]
  obtain ⟨o1, h1, g1⟩ := over_le l
  rw [h1]
  simp only [Option.bind_some]
  cases o1 with
  | true => rfl
  | false =>
    simp only [Bool.false_eq_true, if_false]
    obtain ⟨ll, hS⟩ := g1 rfl
    have hU : SmallN nUnion := small_simple 7 0 false ⟨[]⟩ (by decide)
    have eU : (⟨(7 : Int), (0 : Int), (0 : Int), (0 : Int), [], false, (⟨[]⟩ : DExpr), [], [], [], [], (0 : Int)⟩ : DLNode) = nUnion := rfl
    rw [eU]
    unfold logic_Two
    cases hr : rightL l with
    | false =>
      rw [Kinds_no hS hr, laid_two_no hS hS (.inl hr)]
      simp only [Option.bind_some]
      rw [if_neg (by decide)]
      rfl
    | true =>
      obtain ⟨sz, ks, K⟩ := known_of hS hr
      have pa := K.pos
      have le := K.le
      obtain ⟨ra, hroot⟩ : ∃ ra, idx l.Nodes ((l.Nodes.length - 1 : Nat) : Int) = some ra := by
        rw [idx_nat, List.getElem?_eq_getElem (by omega)]; exact ⟨_, rfl⟩
      rw [K.kinds, laid_two hU hS hS hr hr]
      simp only [Option.bind_some]
      rw [if_pos (by decide), wrapI (n := (l.Nodes.length : Int) - 1) (by omega) (by omega), show (l.Nodes.length : Int) - 1 = ((l.Nodes.length - 1 : Nat) : Int) from by omega, hroot]
      simp only [Option.bind_some]
      rw [wrapI (n := (2 : Int) * (l.Nodes.length : Int)) (by omega) (by omega), wrapI (by omega) (by omega)]
      by_cases hc : ra.Op = 8 ∨ 60 < 2 * l.Nodes.length + 1
      · have hno : rightL (d2 nUnion l l) = false := by
          rcases hc with h8 | h60
          · exact sorted2 (d2_small hU hS hS) pa hroot h8
          · cases hr2 : rightL (d2 nUnion l l) with
            | false => rfl
            | true =>
              have := right_le (d2_small hU hS hS) hr2
              rw [d2_len] at this
              omega
        rw [hno, if_pos (by simp; omega)]
        rfl
      · have h8 : ra.Op ≠ 8 := fun h => hc (.inl h)
        rw [if_neg (by simp; omega)]
        have hd : rightL (d2 nUnion l l) = true := comb2 K K hroot h8 hroot h8 (.inr rfl) (by kernel_rfl) (union_self (known_len K)) (known_len K) (by omega)
        have hdS := d2_small hU hS hS
        obtain ⟨szd, ksd, Kd⟩ := known_of hdS hd
        have hk : ksd (l.Nodes.length + l.Nodes.length) = ks (l.Nodes.length - 1) := by
          have h2 := root2 K K Kd
          rw [union_self (known_len K)] at h2
          injection h2 with h2
          injection h2 with h2 _
          exact h2.symm
        have hkd : logic_Kinds (d2 nUnion l l) = some (ks (l.Nodes.length - 1), 0) := by
          rw [Kd.kinds, d2_len, Nat.add_sub_cancel, hk]
        rw [hd]
        simp only [if_true]
        rw [hkd]
        simp only [Option.bind_some]
        rw [if_pos (by simp), safe_right hdS hd, safe_right hS hr, tables_right hdS hd, tables_right hS hr]
        have hsf : (d2 nUnion l l).Nodes.any unsN = l.Nodes.any unsN := by
          unfold d2
          simp only [List.any_append, List.any_map, List.any_cons, List.any_nil]
          have e1 : (unsN ∘ shN (l.Nodes.length : Int)) = unsN := rfl
          have e2 : unsN (atN ((l.Nodes.length : Int) - 1) ((l.Nodes.length : Int) + (l.Nodes.length : Int) - 1) nUnion) = false := rfl
          rw [e1, e2]
          cases l.Nodes.any unsN <;> rfl
        have htb : dedup (sortI (tabs (d2 nUnion l l).Nodes)) = dedup (sortI (tabs l.Nodes)) := by
          refine inc_unique _ _ (dedup_inc _ (sortI_inc _)) (dedup_inc _ (sortI_inc _)) fun x => ?_
          rw [mem_dedup, mem_sortI, mem_dedup, mem_sortI]
          have e3 : tabs (d2 nUnion l l).Nodes = tabs l.Nodes ++ tabs l.Nodes := by
            unfold d2
            have happ : ∀ xs ys : List DLNode, tabs (xs ++ ys) = tabs xs ++ tabs ys := fun xs ys => by unfold tabs; simp
            rw [happ, happ, tabs_sh]
            have : tabs [atN ((l.Nodes.length : Int) - 1) ((l.Nodes.length : Int) + (l.Nodes.length : Int) - 1) nUnion] = [] := rfl
            rw [this, List.append_nil]
          rw [e3, List.mem_append, or_self]
        rw [hsf, htb]
        simp only [Option.bind_some, bne_self_eq_false, Bool.not_false, if_true, Bool.false_eq_true, if_false]
        have fin : ∀ (tl : List Int) (i : Nat), (ks (l.Nodes.length - 1)).drop i = tl → law13_LogicDoubles_l1 (ks (l.Nodes.length - 1), 0) tl i = some true := by
          intro tl
          induction tl with
          | nil => intro i _; rfl
          | cons x tl ih =>
            intro i h
            obtain ⟨q1, _, q3⟩ := at_drop h
            unfold law13_LogicDoubles_l1
            rw [q1]
            simp only [Option.bind_some, bne_self_eq_false, Bool.false_eq_true, if_false]
            exact ih (i + 1) q3
        exact fin _ 0 rfl
end Go.Proofs.Ytbhkincjkpeaoaa

