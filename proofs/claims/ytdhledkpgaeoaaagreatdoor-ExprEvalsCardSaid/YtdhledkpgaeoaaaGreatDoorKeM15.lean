/- Facts of this claim: M15. -/
import Derived.Test.YtdhledkpgaeoaaaGreatDoorKeM14
namespace Go.Proofs.YtdhledkpgaeoaaaGreatDoor
open Go

theorem raw_un {tag : Int} (h : pk tag = some 1) (a b c : DValue) : raw tag a b = raw tag a c := by
  have h4 : tag = 4 ∨ tag = 5 ∨ tag = 6 ∨ tag = 7 := by
    unfold pk at h
    repeat' split at h
    all_goals simp at h
    omega
  rcases h4 with rfl | rfl | rfl | rfl <;> rfl
theorem dz_un {tag : Int} (h : pk tag = some 1) (a b c : DValue) : dz tag a b = dz tag a c := by
  unfold dz
  rw [raw_un h a b c]
theorem Eval_k1_eq (nx : List DValue → DValue → Option (DValue × Int)) (m : DENode) (own : List DValue) (x a b : DValue) {k : Nat} (h : pk m.Tag = some k) (hk : k ≠ 0) (ha : Pl a) (hb : Pl b) (hl : own.length ≤ 60000) : ref10_Eval_k1 nx m own x a b = if (dz m.Tag a b).2 = 0 then nx (own ++ [(dz m.Tag a b).1]) x else some (dz m.Tag a b) := by
  unfold ref10_Eval_k1
  rw [ref10_does_eq h hk ha hb, Option.bind_some]
  rcases dz_cases h hk ha hb with ⟨h1, _, h3⟩ | ⟨h1, h2⟩ | ⟨h1, h2, _⟩
  · rw [h3] at h1 ⊢
    rw [if_pos h1, if_neg (by simp [h1]), if_neg (by simp [h1]), app_ok (by simp; omega)]; rfl
  · rw [h1, h2]; rfl
  · rw [h1, h2]; rfl
theorem refV_tree (r : List DValue) (x : DValue) (t : Tr) : t.wf → rgT t → colsV r t → ∀ (rest : List DENode) (own : List DValue), own.length + t.size ≤ 50000 →
    ((ev r t).2 ≠ 0 ∧ ref10_Eval_l2 r (t.flat own.length ++ rest) own x = some (ev r t)) ∨
    ((ev r t).2 = 0 ∧ ∃ w : List DValue, w.length + 1 = t.size ∧ ref10_Eval_l2 r (t.flat own.length ++ rest) own x = ref10_Eval_l2 r rest (own ++ w ++ [(ev r t).1]) x) := by
  induction t with
  | lf n =>
    intro ⟨h1, h2, h3, h4⟩ hr hc rest own hl
    simp only [Tr.flat, Tr.size, List.cons_append, List.nil_append] at hl ⊢
    refine .inr ?_
    have e1 : (put2 n (-1) (-1)).Tag = n.Tag := rfl
    have ev0 : (ev r (.lf n)) = if n.Tag = 1 then (n.Value, 0) else ((r[n.Col.toNat]?).getD zV, 0) := rfl
    rcases pk0 h1 with ht | ht
    · rw [ev0, if_pos ht]
      refine ⟨rfl, [], rfl, ?_⟩
      rw [ref10_Eval_l2]
      rw [e1, if_pos (by simp [ht]), app_ok (by simp; omega)]
      simp only [Option.bind_some, List.append_nil]
      rfl
    · rw [ev0, if_neg (by simp [ht])]
      refine ⟨rfl, [], rfl, ?_⟩
      have hb := cnt2 h2 ht
      obtain ⟨_, v, hv, _⟩ := hc ht
      have e2 : (put2 n (-1) (-1)).Col = n.Col := rfl
      rw [ref10_Eval_l2]
      rw [e1, if_neg (by simp [ht]), if_pos (by simp [ht]), e2, idx_at n.Col.toNat (by omega), hv]
      simp only [Option.bind_some, List.append_nil, Option.getD_some]
      rw [app_ok (by simp; omega)]
      rfl
  | un n a ih =>
    intro ⟨⟨h1, h2, h3, h4⟩, ha⟩ hr hc rest own hl
    have hap := a.size_pos
    simp only [Tr.flat, Tr.size, List.append_assoc] at hl ⊢
    obtain ⟨m, hm⟩ : ∃ m, m = put2 n (((own.length + a.size : Nat) : Int) - 1) (-1) := ⟨_, rfl⟩
    rw [← hm]
    rw [ev_un]
    rcases ih ha hr hc ([m] ++ rest) own (by omega) with ⟨hx, he⟩ | ⟨hx, w, hw, he⟩
    · rw [bindV_err hx]
      exact .inl ⟨hx, he⟩
    · rw [he, bindV_ok hx]
      have hpl : Pl (ev r a).1 := by
        rcases ev_cases r a ha hr hc with ⟨_, h⟩ | h | h
        · exact h
        · rw [h] at hx; cases hx
        · rw [h] at hx; cases hx
      generalize (ev r a).1 = v at hpl ⊢
      simp only [List.cons_append, List.nil_append]
      have e1 : m.Tag = n.Tag := by rw [hm]; rfl
      have eL : m.L = ((own.length + a.size : Nat) : Int) - 1 := by rw [hm]; rfl
      have eR : m.R = -1 := by rw [hm]; rfl
      have n1 : n.Tag ≠ 1 := fun h => by rw [h] at h1; simp [pk] at h1
      have n2 : n.Tag ≠ 2 := fun h => by rw [h] at h1; simp [pk] at h1
      have hstep : ref10_Eval_l2 r (m :: rest) (own ++ w ++ [v]) x = if (dz n.Tag v v).2 = 0 then ref10_Eval_l2 r rest (own ++ w ++ [v] ++ [(dz n.Tag v v).1]) x else some (dz n.Tag v v) := by
        rw [ref10_Eval_l2]
        rw [e1, if_neg (by simpa using n1), if_neg (by simpa using n2)]
        rw [eL, eR, idx_at (own ++ w).length (by simp; omega), List.getElem?_append_right (Nat.le_refl _), Nat.sub_self]
        simp only [List.getElem?_cons_zero, Option.bind_some]
        rw [if_neg (by decide), show (⟨0, 0, 0, []⟩ : DValue) = zV from rfl, Eval_k1_eq _ m _ x v zV (by rw [e1]; exact h1) (by decide) hpl .z (by simp; omega), e1, dz_un h1 v _ v]
      rw [hstep]
      by_cases hb : (dz n.Tag v v).2 = 0
      · rw [if_pos hb]
        exact .inr ⟨hb, w ++ [v], by simp; omega, by simp⟩
      · rw [if_neg hb]
        exact .inl ⟨hb, rfl⟩
  | bi n a b iha ihb =>
    intro ⟨⟨h1, h2, h3, h4⟩, ha, hb⟩ ⟨hra, hrb⟩ ⟨hca, hcb⟩ rest own hl
    have hap := a.size_pos
    have hbp := b.size_pos
    simp only [Tr.flat, Tr.size, List.append_assoc] at hl ⊢
    obtain ⟨m, hm⟩ : ∃ m, m = put2 n (((own.length + a.size : Nat) : Int) - 1) (((own.length + a.size + b.size : Nat) : Int) - 1) := ⟨_, rfl⟩
    rw [← hm]
    rw [ev_bi]
    rcases iha ha hra hca (b.flat (own.length + a.size) ++ ([m] ++ rest)) own (by omega) with ⟨hx, he⟩ | ⟨hx, w, hw, he⟩
    · rw [bindV_err hx]
      exact .inl ⟨hx, he⟩
    · rw [he, bindV_ok hx]
      have hpl : Pl (ev r a).1 := by
        rcases ev_cases r a ha hra hca with ⟨_, h⟩ | h | h
        · exact h
        · rw [h] at hx; cases hx
        · rw [h] at hx; cases hx
      generalize (ev r a).1 = v at hpl ⊢
      have hl2 : (own ++ w ++ [v]).length = own.length + a.size := by simp; omega
      rw [← hl2]
      rcases ihb hb hrb hcb ([m] ++ rest) (own ++ w ++ [v]) (by rw [hl2]; omega) with ⟨hy, he2⟩ | ⟨hy, w2, hw2, he2⟩
      · rw [bindV_err hy]
        exact .inl ⟨hy, he2⟩
      · rw [he2, bindV_ok hy]
        have hpl2 : Pl (ev r b).1 := by
          rcases ev_cases r b hb hrb hcb with ⟨_, h⟩ | h | h
          · exact h
          · rw [h] at hy; cases hy
          · rw [h] at hy; cases hy
        generalize (ev r b).1 = u at hpl2 ⊢
        simp only [List.cons_append, List.nil_append]
        have e1 : m.Tag = n.Tag := by rw [hm]; rfl
        have eL : m.L = ((own.length + a.size : Nat) : Int) - 1 := by rw [hm]; rfl
        have eR : m.R = ((own.length + a.size + b.size : Nat) : Int) - 1 := by rw [hm]; rfl
        have n1 : n.Tag ≠ 1 := fun h => by rw [h] at h1; simp [pk] at h1
        have n2 : n.Tag ≠ 2 := fun h => by rw [h] at h1; simp [pk] at h1
        have hstep : ref10_Eval_l2 r (m :: rest) (own ++ w ++ [v] ++ w2 ++ [u]) x = if (dz n.Tag v u).2 = 0 then ref10_Eval_l2 r rest (own ++ w ++ [v] ++ w2 ++ [u] ++ [(dz n.Tag v u).1]) x else some (dz n.Tag v u) := by
          rw [ref10_Eval_l2]
          rw [e1, if_neg (by simpa using n1), if_neg (by simpa using n2)]
          rw [eL, eR, idx_at (own ++ w).length (by simp; omega)]
          have g1 : (own ++ w ++ [v] ++ w2 ++ [u])[(own ++ w).length]? = some v := by
            rw [List.append_assoc, List.append_assoc, List.getElem?_append_right (Nat.le_refl _), Nat.sub_self]; rfl
          rw [g1]
          simp only [Option.bind_some]
          rw [if_pos (by rw [decide_eq_true_eq]; omega), idx_at (own ++ w ++ [v] ++ w2).length (by simp; omega)]
          have g2 : (own ++ w ++ [v] ++ w2 ++ [u])[(own ++ w ++ [v] ++ w2).length]? = some u := by
            rw [List.getElem?_append_right (Nat.le_refl _), Nat.sub_self]; rfl
          rw [g2]
          simp only [Option.bind_some]
          rw [Eval_k1_eq _ m _ x v u (by rw [e1]; exact h1) (by decide) hpl hpl2 (by simp; omega), e1]
        rw [hstep]
        by_cases hb : (dz n.Tag v u).2 = 0
        · rw [if_pos hb]
          exact .inr ⟨hb, w ++ [v] ++ w2 ++ [u], by simp; omega, by simp⟩
        · rw [if_neg hb]
          exact .inl ⟨hb, rfl⟩
theorem RefEval_l1_eq (e : DExpr) (r : List DValue) (x : DValue) : ∀ ns : List DENode, (∀ n ∈ ns, n.Tag = 2 → 0 ≤ n.Col) → ref10_Eval_l1 e r ns x = if colsB r ns then ref10_Eval_l2 r e.Nodes [] x else some (zV, 2)
  | [], _ => rfl
  | n :: ns, hc => by
    unfold ref10_Eval_l1
    rw [RefEval_l1_eq e r x ns fun m hm => hc m (List.mem_cons_of_mem _ hm)]
    have hcons : colsB r (n :: ns) = ((!(n.Tag == 2) || colB r n.Col) && colsB r ns) := rfl
    rw [hcons]
    by_cases ht : n.Tag = 2
    · have h0 := hc n (List.mem_cons_self ..) ht
      have e0 : (n.Tag == 2) = true := by simp [ht]
      rw [e0, if_pos rfl]
      by_cases h : (r.length : Int) ≤ n.Col
      · have hb : colB r n.Col = false := by unfold colB; rw [Bool.and_eq_false_iff]; left; simp; omega
        simp [h, hb, zV]
      · have hlt : n.Col.toNat < r.length := by omega
        have e1 : idx r n.Col = some r[n.Col.toNat] := by rw [idx_at n.Col.toNat (by omega), List.getElem?_eq_getElem hlt]
        have hb : colB r n.Col = plainV r[n.Col.toNat] := by
          unfold colB
          rw [List.getElem?_eq_getElem hlt]
          have : decide (n.Col < (r.length : Int)) = true := by simp; omega
          rw [this]; rfl
        rw [if_pos (by simpa using h), e1, hb]
        simp only [Option.bind_some, ref02_Plain_eq]
        cases plainV r[n.Col.toNat] <;> simp [zV]
    · have e0 : (n.Tag == 2) = false := by simp [ht]
      rw [e0]
      simp
theorem ref10_Eval_eq (e : DExpr) (r : List DValue) (he : rgE e.Nodes) (hr : rgR r) : ref10_Eval e r = some (evP r e.Nodes) := by
  unfold ref10_Eval evP
  rw [ref10_Right_eq e, Option.bind_some]
  cases ht : treeOf e.Nodes with
  | none =>
    have : rightE e.Nodes = false := by unfold rightE; rw [ht]; rfl
    rw [this, if_pos (by decide)]; rfl
  | some t =>
    have : rightE e.Nodes = true := by unfold rightE; rw [ht]; rfl
    rw [this, if_neg (by decide)]
    obtain ⟨hw, hN, hs⟩ := treeOf_some ht
    rw [RefEval_l1_eq e r _ e.Nodes (fun n hn h2 => (tree_col hw 0 (by rw [← hN]; exact hn) h2).1)]
    cases hc : colsB r e.Nodes with
    | false => rfl
    | true =>
      simp only [if_true]
      have hct := colsB_tree hr t hw 0 (by rw [← hN]; exact hc)
      have hrt := rgE_tree t 0 (by rw [← hN]; exact he)
      have h := refV_tree r zV t hw hrt hct [] [] (by simp; omega)
      rw [List.append_nil, List.length_nil, ← hN] at h
      rcases h with ⟨_, h2⟩ | ⟨h1, w, h2, h3⟩
      · exact h2
      · have h4 : ref10_Eval_l2 r e.Nodes [] zV = some (ev r t) := by
          rw [h3]
          unfold ref10_Eval_l2
          rw [List.nil_append, idx_at w.length (by rw [wrapI (by simp <;> omega) (by simp <;> omega)]; simp), List.getElem?_append_right (Nat.le_refl _), Nat.sub_self]
          show some ((ev r t).1, (0 : Int)) = _
          rw [← h1]
        exact h4
theorem evals_l1 (p : DExpr) (ns : List DENode) (hs : law10_short p 200 = some ⟨ns⟩) (hn : ns.length ≤ 200) (hg : rgE ns) : ∀ (rows : List (List DValue)) (i : Nat), i ≤ 12 → (∀ r ∈ rows, rgR r) → law10_ExprEvals_l1 p ⟨ns⟩ rows i = some true := by
  have hend : law10_ExprEvals_k1 p ⟨ns⟩ = some true := by
    unfold law10_ExprEvals_k1
    rw [hs, Option.bind_some, ref10_Same_eq]
    simp
  intro rows
  induction rows with
  | nil => intro i _ _; exact hend
  | cons r rows ih =>
    intro i hi hr
    unfold law10_ExprEvals_l1
    by_cases h : i = 12
    · rw [if_pos (by simp [h])]; exact hend
    · rw [if_neg (by simp; omega)]
      have hrr := rowR_rg (hr r (List.mem_cons_self ..))
      have hnx := ih (i + 1) (by omega) fun q hq => hr q (List.mem_cons_of_mem _ hq)
      rw [row_eq, Option.bind_some, expr_Eval_eq ⟨ns⟩ (rowR r) (by show ns.length ≤ 50000; omega) hg hrr, Option.bind_some, ref10_Right_eq, Option.bind_some]
      cases hR : rightE ns with
      | true =>
        rw [if_pos rfl, Option.bind_some, ref10_Eval_eq ⟨ns⟩ (rowR r) hg hrr, Option.bind_some]
        unfold law10_ExprEvals_k2
        rw [if_neg (by simp)]
        exact hnx
      | false =>
        rw [if_neg (by decide)]
        have : evP (rowR r) ns = (zV, 200) := by
          unfold evP
          cases ht : treeOf ns with
          | none => rfl
          | some t => unfold rightE at hR; rw [ht] at hR; cases hR
        unfold law10_ExprEvals_k2
        rw [this, if_neg (by decide)]
        exact hnx
theorem exprEvals_true (p : DExpr) (rows : List (List DValue)) (hp : rgE p.Nodes) (hr : ∀ r ∈ rows, rgR r) : law10_ExprEvals p rows = some true := by
  unfold law10_ExprEvals
  rw [wakes_eq, Option.bind_some, if_neg (by decide)]
  have h := short_eq p 200 (by omega)
  rw [show ((200 : Int)) = ((200 : Nat) : Int) from rfl, h, Option.bind_some]
  exact evals_l1 p _ h (shortN_len _ _) (shortN_rg hp 200) rows 0 (by omega) hr
end Go.Proofs.YtdhledkpgaeoaaaGreatDoor

