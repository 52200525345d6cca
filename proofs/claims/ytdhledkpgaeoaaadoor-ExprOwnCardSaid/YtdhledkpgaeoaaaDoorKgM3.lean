/- Facts of this claim: M3. -/
import Derived.Test.YtdhledkpgaeoaaaDoorKgM2
namespace Go.Proofs.YtdhledkpgaeoaaaDoor
open Go

def dz (tag : Int) (a b : DValue) : DValue × Int := if (raw tag a b).2 = 0 then raw tag a b else (zV, if (raw tag a b).2 = 140 then 140 else 201)
def bindV (q : DValue × Int) (f : DValue → DValue × Int) : DValue × Int := if q.2 = 0 then f q.1 else q
def ev (r : List DValue) : Tr → DValue × Int
  | .lf n => if n.Tag = 1 then (n.Value, 0) else ((r[n.Col.toNat]?).getD zV, 0)
  | .un n a => bindV (ev r a) fun x => dz n.Tag x x
  | .bi n a b => bindV (ev r a) fun x => bindV (ev r b) fun y => dz n.Tag x y
def rgT : Tr → Prop
  | .lf n => r64 n.Value.N
  | .un _ a => rgT a
  | .bi _ a b => rgT a ∧ rgT b
def colsV (r : List DValue) : Tr → Prop
  | .lf n => n.Tag = 2 → n.Col.toNat < r.length ∧ ∃ v, r[n.Col.toNat]? = some v ∧ Pl v
  | .un _ a => colsV r a
  | .bi _ a b => colsV r a ∧ colsV r b
theorem dz_cases {tag : Int} {k : Nat} (h : pk tag = some k) (hk : k ≠ 0) {a b : DValue} (ha : Pl a) (hb : Pl b) :
    ((dz tag a b).2 = 0 ∧ Pl (dz tag a b).1 ∧ dz tag a b = raw tag a b) ∨ (dz tag a b = (zV, 201) ∧ raw tag a b = (zV, 2)) ∨ (dz tag a b = (zV, 140) ∧ raw tag a b = (zV, 140) ∧ (tag = 4 ∨ (12 ≤ tag ∧ tag ≤ 15))) := by
  unfold dz
  rcases raw_cases h hk ha hb with ⟨h1, h2⟩ | h1 | ⟨h1, h2⟩
  · rw [if_pos h1]; exact .inl ⟨h1, h2, rfl⟩
  · rw [h1]; exact .inr (.inl ⟨rfl, rfl⟩)
  · rw [h1]; exact .inr (.inr ⟨rfl, rfl, h2⟩)
theorem ev_un (r : List DValue) (n : DENode) (a : Tr) : ev r (.un n a) = bindV (ev r a) fun x => dz n.Tag x x := rfl
theorem ev_bi (r : List DValue) (n : DENode) (a b : Tr) : ev r (.bi n a b) = bindV (ev r a) fun x => bindV (ev r b) fun y => dz n.Tag x y := rfl
theorem bindV_ok {q : DValue × Int} {f : DValue → DValue × Int} (h : q.2 = 0) : bindV q f = f q.1 := if_pos h
theorem bindV_err {q : DValue × Int} {f : DValue → DValue × Int} (h : q.2 ≠ 0) : bindV q f = q := if_neg h
theorem ev_cases (r : List DValue) (t : Tr) : t.wf → rgT t → colsV r t → ((ev r t).2 = 0 ∧ Pl (ev r t).1) ∨ ev r t = (zV, 201) ∨ ev r t = (zV, 140) := by
  induction t with
  | lf n =>
    intro ⟨h1, h2, _, _⟩ hr hc
    unfold ev
    split
    · rename_i ht; exact .inl ⟨rfl, plain_pl (cnt1 h2 ht) hr⟩
    · rename_i ht
      have ht2 : n.Tag = 2 := (pk0 h1).resolve_left ht
      obtain ⟨_, v, hv, hp⟩ := hc ht2
      rw [hv]; exact .inl ⟨rfl, hp⟩
  | un n a ih =>
    intro ⟨⟨h1, _, _, _⟩, ha⟩ hr hc
    rw [ev_un]
    rcases ih ha hr hc with ⟨h2, h3⟩ | h2 | h2
    · rw [bindV_ok h2]
      rcases dz_cases h1 (by decide) h3 h3 with ⟨h4, h5, _⟩ | ⟨h4, _⟩ | ⟨h4, _⟩
      · exact .inl ⟨h4, h5⟩
      · exact .inr (.inl h4)
      · exact .inr (.inr h4)
    · rw [h2, bindV_err (by decide)]; exact .inr (.inl rfl)
    · rw [h2, bindV_err (by decide)]; exact .inr (.inr rfl)
  | bi n a b iha ihb =>
    intro ⟨⟨h1, _, _, _⟩, ha, hb⟩ ⟨hra, hrb⟩ ⟨hca, hcb⟩
    rw [ev_bi]
    rcases iha ha hra hca with ⟨h2, h3⟩ | h2 | h2
    · rw [bindV_ok h2]
      rcases ihb hb hrb hcb with ⟨k2, k3⟩ | k2 | k2
      · rw [bindV_ok k2]
        rcases dz_cases h1 (by decide) h3 k3 with ⟨h4, h5, _⟩ | ⟨h4, _⟩ | ⟨h4, _⟩
        · exact .inl ⟨h4, h5⟩
        · exact .inr (.inl h4)
        · exact .inr (.inr h4)
      · rw [k2, bindV_err (by decide)]; exact .inr (.inl rfl)
      · rw [k2, bindV_err (by decide)]; exact .inr (.inr rfl)
    · rw [h2, bindV_err (by decide)]; exact .inr (.inl rfl)
    · rw [h2, bindV_err (by decide)]; exact .inr (.inr rfl)
theorem over_1V (stack l : List DValue) (h : stack.length + l.length ≤ 100000) : expr_over_1_api_Value (stack ++ l) (l.length : Int) = some (l, stack) := by
  unfold expr_over_1_api_Value slices_Clone_api_Value_api_Value
  have e : IntKind.i64.wrap (((stack ++ l).length : Int) - (l.length : Int)) = (stack.length : Int) := by
    rw [List.length_append, wrapI (by omega) (by omega)]; omega
  rw [e, sliceF_at stack.length (stack ++ l).length rfl rfl (by simp) (Nat.le_refl _)]
  simp only [Option.bind_some, List.take_length, List.drop_append_of_le_length (Nat.le_refl _), List.drop_length, List.nil_append]
  rw [app_ok (by simp; omega)]
  simp only [Option.bind_some, List.nil_append]
  rw [sliceF_at (i := 0) 0 stack.length rfl rfl (Nat.zero_le _) (by simp)]
  simp
theorem over_badV (stack : List DValue) {b : Int} (h : b ≠ 0) : expr_over_api_Value_k1 b stack = some (zV, b) := by
  unfold expr_over_api_Value_k1; rw [if_pos (by simpa using h)]; rfl
theorem Eval_1_dz (r : List DValue) (n : DENode) {k : Nat} (h : pk n.Tag = some k) (hk : k ≠ 0) {a b : DValue} (ha : Pl a) (hb : Pl b) {l : List DValue} (h0 : idx l 0 = some a) (h1 : idx l (IntKind.i64.wrap ((l.length : Int) - 1)) = some b) :
    expr_Eval_1 r doesL n l = some ((raw n.Tag a b).1, (dz n.Tag a b).2) := by
  have hn := pk12 h hk
  unfold expr_Eval_1
  rw [if_neg (by simp; omega), if_neg (by simp; omega), h0]
  simp only [Option.bind_some]
  rw [h1]
  simp only [Option.bind_some]
  have := dzF_eq h hk ha hb
  unfold dzF at this
  rw [this]
  simp only [Option.bind_some]
  unfold expr_Eval_1_k1
  rcases dz_cases h hk ha hb with ⟨h2, _, h4⟩ | ⟨h2, h4⟩ | ⟨h2, h4, _⟩
  · rw [h4] at h2; rw [h4, h2]; rfl
  · rw [h2, h4]; rfl
  · rw [h2, h4]; rfl
theorem over_treeV (r : List DValue) (t : Tr) : t.wf → rgT t → colsV r t → ∀ (s : Nat) (rest : List DENode) (stack : List DValue), stack.length + t.size ≤ 50000 →
    expr_over_api_Value_l1 (expr_Eval_1 r doesL) (t.flat s ++ rest) 0 stack = if (ev r t).2 = 0 then expr_over_api_Value_l1 (expr_Eval_1 r doesL) rest 0 (stack ++ [(ev r t).1]) else some (zV, (ev r t).2) := by
  induction t with
  | lf n =>
    intro ⟨h1, h2, h3, h4⟩ hr hc s rest stack hl
    simp only [Tr.flat, Tr.size, List.cons_append, List.nil_append] at hl ⊢
    rw [expr_over_api_Value_l1]
    have e1 : (put2 n (-1) (-1)).Tag = n.Tag := rfl
    rw [e1, expr_parts_of h1]
    have h0 := over_1V stack [] (by simp; omega)
    simp only [List.append_nil, List.length_nil] at h0
    simp only [Option.bind_some]
    rw [h0]
    simp only [Option.bind_some]
    have hv : expr_Eval_1 r doesL (put2 n (-1) (-1)) [] = some (ev r (.lf n)) := by
      unfold expr_Eval_1 ev
      simp only [e1]
      rcases pk0 h1 with ht | ht
      · rw [if_pos (by simp [ht]), if_pos ht]; rfl
      · rw [if_neg (by simp [ht]), if_pos (by simp [ht]), if_neg (by simp [ht])]
        have hb := cnt2 h2 ht
        obtain ⟨hm, v, hv, _⟩ := hc ht
        have e2 : (put2 n (-1) (-1)).Col = n.Col := rfl
        rw [e2, idx_at n.Col.toNat (by omega), hv]
        rfl
    have e0 : (ev r (.lf n)).2 = 0 := by unfold ev; split <;> rfl
    rw [hv, if_pos e0]
    simp only [Option.bind_some, e0]
    rw [if_neg (by simp), app_ok (by simp; omega)]
    rfl
  | un n a ih =>
    intro ⟨⟨h1, h2, h3, h4⟩, ha⟩ hr hc s rest stack hl
    simp only [Tr.flat, Tr.size, List.append_assoc] at hl ⊢
    rw [ev_un, ih ha hr hc s _ stack (by omega)]
    by_cases hx : (ev r a).2 = 0
    · have hp : Pl (ev r a).1 := by
        rcases ev_cases r a ha hr hc with ⟨_, h⟩ | h | h
        · exact h
        · rw [h] at hx; cases hx
        · rw [h] at hx; cases hx
      rw [if_pos hx, bindV_ok hx]
      generalize (ev r a).1 = x at hp
      simp only [List.cons_append, List.nil_append]
      rw [expr_over_api_Value_l1]
      have e1 : (put2 n (((s + a.size : Nat) : Int) - 1) (-1)).Tag = n.Tag := rfl
      rw [e1, expr_parts_of h1]
      have h0 := over_1V stack [x] (by simp; omega)
      simp only [Option.bind_some]
      have e0 : (([x] : List DValue).length : Int) = ((1 : Nat) : Int) := rfl
      rw [← e0, h0]
      simp only [Option.bind_some]
      rw [Eval_1_dz r (put2 n (((s + a.size : Nat) : Int) - 1) (-1)) (k := 1) h1 (by decide) hp hp rfl rfl]
      simp only [Option.bind_some, e1]
      rcases dz_cases h1 (by decide) hp hp with ⟨h5, _, h6⟩ | ⟨h5, _⟩ | ⟨h5, _⟩
      · rw [if_neg (by simp [h5]), if_pos h5, app_ok (by simp; omega), h6]; rfl
      · rw [h5, if_pos (by decide), over_badV _ (by decide), if_neg (by decide)]
      · rw [h5, if_pos (by decide), over_badV _ (by decide), if_neg (by decide)]
    · rw [if_neg hx, bindV_err hx, if_neg hx]
  | bi n a b iha ihb =>
    intro ⟨⟨h1, h2, h3, h4⟩, ha, hb⟩ ⟨hra, hrb⟩ ⟨hca, hcb⟩ s rest stack hl
    simp only [Tr.flat, Tr.size, List.append_assoc] at hl ⊢
    rw [ev_bi, iha ha hra hca s _ stack (by omega)]
    by_cases hx : (ev r a).2 = 0
    · have hp : Pl (ev r a).1 := by
        rcases ev_cases r a ha hra hca with ⟨_, h⟩ | h | h
        · exact h
        · rw [h] at hx; cases hx
        · rw [h] at hx; cases hx
      rw [if_pos hx, bindV_ok hx]
      generalize (ev r a).1 = x at hp
      rw [ihb hb hrb hcb (s + a.size) _ (stack ++ [x]) (by have := a.size_pos; simp; omega)]
      by_cases hy : (ev r b).2 = 0
      · have hq : Pl (ev r b).1 := by
          rcases ev_cases r b hb hrb hcb with ⟨_, h⟩ | h | h
          · exact h
          · rw [h] at hy; cases hy
          · rw [h] at hy; cases hy
        rw [if_pos hy, bindV_ok hy]
        generalize (ev r b).1 = y at hq
        have hap := a.size_pos
        simp only [List.cons_append, List.nil_append]
        rw [expr_over_api_Value_l1]
        have e1 : (put2 n (((s + a.size : Nat) : Int) - 1) (((s + a.size + b.size : Nat) : Int) - 1)).Tag = n.Tag := rfl
        rw [e1, expr_parts_of h1]
        have h0 := over_1V stack [x, y] (by simp; omega)
        simp only [Option.bind_some]
        have e0 : (([x, y] : List DValue).length : Int) = ((2 : Nat) : Int) := rfl
        have e9 : stack ++ [x] ++ [y] = stack ++ [x, y] := by simp
        rw [← e0, e9, h0]
        simp only [Option.bind_some]
        rw [Eval_1_dz r (put2 n (((s + a.size : Nat) : Int) - 1) (((s + a.size + b.size : Nat) : Int) - 1)) (k := 2) h1 (by decide) hp hq rfl rfl]
        simp only [Option.bind_some, e1]
        rcases dz_cases h1 (by decide) hp hq with ⟨h5, _, h6⟩ | ⟨h5, _⟩ | ⟨h5, _⟩
        · rw [if_neg (by simp [h5]), if_pos h5, app_ok (by simp; omega), h6]; rfl
        · rw [h5, if_pos (by decide), over_badV _ (by decide), if_neg (by decide)]
        · rw [h5, if_pos (by decide), over_badV _ (by decide), if_neg (by decide)]
      · rw [if_neg hy, bindV_err hy, if_neg hy]
    · rw [if_neg hx, bindV_err hx, if_neg hx]
def colB (r : List DValue) (c : Int) : Bool := decide (c < (r.length : Int)) && plainV ((r[c.toNat]?).getD zV)
def colsB (r : List DValue) (ns : List DENode) : Bool := ns.all fun n => !(n.Tag == 2) || colB r n.Col
def rgE (ns : List DENode) : Prop := ∀ n ∈ ns, r64 n.Value.N
def rgR (r : List DValue) : Prop := ∀ v ∈ r, r64 v.N
theorem colB_some {r : List DValue} (hr : rgR r) {c : Int} (h0 : 0 ≤ c) (h : colB r c = true) : c.toNat < r.length ∧ ∃ v, r[c.toNat]? = some v ∧ Pl v := by
  unfold colB at h
  rw [Bool.and_eq_true, decide_eq_true_eq] at h
  have hlt : c.toNat < r.length := by omega
  refine ⟨hlt, r[c.toNat], List.getElem?_eq_getElem hlt, ?_⟩
  have h2 := h.2
  rw [List.getElem?_eq_getElem hlt] at h2
  exact plain_pl h2 (hr _ (List.getElem_mem hlt))
theorem colsB_tree {r : List DValue} (hr : rgR r) (t : Tr) : t.wf → ∀ s, colsB r (t.flat s) = true → colsV r t := by
  induction t with
  | lf n =>
    intro ⟨_, h2, _, _⟩ s h ht
    simp only [colsB, Tr.flat, List.all_cons, List.all_nil, Bool.and_true] at h
    have e1 : (put2 n (-1) (-1)).Tag = n.Tag := rfl
    have e2 : (put2 n (-1) (-1)).Col = n.Col := rfl
    rw [e1, e2, ht] at h
    exact colB_some hr (cnt2 h2 ht).1 (by simpa using h)
  | un n a ih =>
    intro ⟨_, ha⟩ s h
    simp only [colsB, Tr.flat, List.all_append, Bool.and_eq_true] at h
    exact ih ha s h.1
  | bi n a b iha ihb =>
    intro ⟨_, ha, hb⟩ s h
    simp only [colsB, Tr.flat, List.all_append, Bool.and_eq_true] at h
    exact ⟨iha ha s h.1.1, ihb hb _ h.1.2⟩
theorem rgE_tree (t : Tr) : ∀ s, rgE (t.flat s) → rgT t := by
  induction t with
  | lf n => intro s h; exact h (put2 n (-1) (-1)) (by simp [Tr.flat])
  | un n a ih => intro s h; exact ih s fun m hm => h m (by simp [Tr.flat, hm])
  | bi n a b iha ihb => intro s h; exact ⟨iha s fun m hm => h m (by simp [Tr.flat, hm]), ihb _ fun m hm => h m (by simp only [Tr.flat, List.mem_append]; exact .inl (.inr hm))⟩
theorem tree_col {t : Tr} (hw : t.wf) : ∀ s {n : DENode}, n ∈ t.flat s → n.Tag = 2 → 0 ≤ n.Col ∧ n.Col < 16 := by
  induction t with
  | lf m =>
    intro s n hn ht
    simp only [Tr.flat, List.mem_singleton] at hn
    subst hn
    exact cnt2 hw.2.1 ht
  | un m a ih =>
    intro s n hn ht
    simp only [Tr.flat, List.mem_append, List.mem_singleton] at hn
    rcases hn with hn | rfl
    · exact ih hw.2 s hn ht
    · exact absurd (pk2 hw.1.1 ht) (by decide)
  | bi m a b iha ihb =>
    intro s n hn ht
    simp only [Tr.flat, List.mem_append, List.mem_singleton] at hn
    rcases hn with (hn | hn) | rfl
    · exact iha hw.2.1 s hn ht
    · exact ihb hw.2.2 _ hn ht
    · exact absurd (pk2 hw.1.1 ht) (by decide)
def evP (r : List DValue) (ns : List DENode) : DValue × Int := match treeOf ns with
  | none => (zV, 200)
  | some t => if colsB r ns then ev r t else (zV, 2)
theorem Eval_l1_eq (e : DExpr) (r : List DValue) (x : DValue) : ∀ cs : List Int, (∀ c ∈ cs, 0 ≤ c) → expr_Eval_l1 e r cs x = if cs.all (colB r) then expr_over_api_Value e (expr_Eval_1 r doesL) else some (zV, 2)
  | [], _ => by
    unfold expr_Eval_l1
    rw [expr_does_eq]
    simp only [Option.bind_some]
    cases expr_over_api_Value e (expr_Eval_1 r doesL) <;> rfl
  | c :: cs, hc => by
    unfold expr_Eval_l1
    rw [Eval_l1_eq e r x cs fun c hm => hc c (List.mem_cons_of_mem _ hm)]
    have h0 := hc c (List.mem_cons_self ..)
    by_cases h : (r.length : Int) ≤ c
    · have hb : colB r c = false := by unfold colB; rw [Bool.and_eq_false_iff]; left; simp; omega
      simp [h, hb, zV]
    · have hlt : c.toNat < r.length := by omega
      have e1 : idx r c = some r[c.toNat] := by rw [idx_at c.toNat (by omega), List.getElem?_eq_getElem hlt]
      have hb : colB r c = plainV r[c.toNat] := by
        unfold colB
        rw [List.getElem?_eq_getElem hlt]
        have : decide (c < (r.length : Int)) = true := by simp; omega
        rw [this]; rfl
      rw [if_pos (by simpa using h), e1]
      simp only [Option.bind_some, value_Plain_eq]
      rw [List.all_cons, hb]
      cases plainV r[c.toNat] <;> simp [zV]
theorem over_wholeV (r : List DValue) {t : Tr} (hw : t.wf) (hr : rgT t) (hc : colsV r t) (hs : t.size ≤ 1000) : expr_over_api_Value ⟨t.flat 0⟩ (expr_Eval_1 r doesL) = some (ev r t) := by
  unfold expr_over_api_Value
  have h := over_treeV r t hw hr hc 0 [] [] (by simp; omega)
  rw [List.append_nil] at h
  rw [h]
  rcases ev_cases r t hw hr hc with ⟨h2, h3⟩ | h2 | h2
  · rw [if_pos h2]
    unfold expr_over_api_Value_l1 expr_over_api_Value_k1
    rw [if_neg (by simp)]
    simp only [List.nil_append]
    rw [show idx [(ev r t).1] 0 = some (ev r t).1 from rfl]
    simp only [Option.bind_some]
    congr 1
    exact Prod.ext rfl h2.symm
  · rw [h2, if_neg (by decide)]
  · rw [h2, if_neg (by decide)]
theorem expr_Eval_eq (e : DExpr) (r : List DValue) (hl : e.Nodes.length ≤ 50000) (he : rgE e.Nodes) (hr : rgR r) : expr_Eval e r = some (evP r e.Nodes) := by
  unfold expr_Eval evP
  rw [expr_Check_eq e (by omega)]
  cases ht : treeOf e.Nodes with
  | none =>
    have : rightE e.Nodes = false := by unfold rightE; rw [ht]; rfl
    rw [this]; rfl
  | some t =>
    have hri : rightE e.Nodes = true := by unfold rightE; rw [ht]; rfl
    obtain ⟨hw, hN, hs⟩ := treeOf_some ht
    rw [hri]
    simp only [if_true, Option.bind_some]
    rw [if_neg (by decide)]
    obtain ⟨cs, h1, h2⟩ := expr_Cols_eq e hri
    rw [h1]
    simp only [Option.bind_some]
    have hcnt : ∀ n ∈ e.Nodes, n.Tag = 2 → 0 ≤ n.Col := fun n hn htag => by
      rw [hN] at hn
      exact (tree_col hw 0 hn htag).1
    rw [Eval_l1_eq e r _ cs fun c hc => by obtain ⟨n, hn, htag, rfl⟩ := (h2 c).1 hc; exact hcnt n hn htag]
    have hcols : cs.all (colB r) = colsB r e.Nodes := by
      rw [Bool.eq_iff_iff, List.all_eq_true]
      unfold colsB
      rw [List.all_eq_true]
      constructor
      · intro h n hn
        by_cases htag : n.Tag = 2
        · rw [h n.Col ((h2 _).2 ⟨n, hn, htag, rfl⟩)]; simp
        · simp [htag]
      · intro h c hc
        obtain ⟨n, hn, htag, rfl⟩ := (h2 c).1 hc
        have := h n hn
        simpa [htag] using this
    rw [hcols]
    cases hb : colsB r e.Nodes with
    | false => rfl
    | true =>
      simp only [if_true]
      have e9 : e = ⟨t.flat 0⟩ := by cases e; simp only at hN; rw [hN]
      rw [hN] at he hb
      rw [e9]
      exact over_wholeV r hw (rgE_tree t 0 he) (colsB_tree hr t hw 0 hb) hs
end Go.Proofs.YtdhledkpgaeoaaaDoor

