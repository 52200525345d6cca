/- Facts of this claim: M17. -/
import Derived.Test.YtdhledkpgaeoaaaDoorKgM4
namespace Go.Proofs.YtdhledkpgaeoaaaDoor
open Go

theorem ev_agree {r q : List DValue} (t : Tr) : t.wf → ∀ s, (∀ n ∈ t.flat s, n.Tag = 2 → r[n.Col.toNat]? = q[n.Col.toNat]?) → ev r t = ev q t := by
  induction t with
  | lf n =>
    intro hw s h
    unfold ev
    rcases pk0 hw.1 with ht | ht
    · rw [if_pos ht, if_pos ht]
    · rw [if_neg (by omega), if_neg (by omega)]
      have := h (put2 n (-1) (-1)) (by simp [Tr.flat]) ht
      rw [show r[n.Col.toNat]? = q[n.Col.toNat]? from this]
  | un n a ih =>
    intro hw s h
    rw [ev_un, ev_un, ih hw.2 s fun m hm => h m (by simp [Tr.flat, hm])]
  | bi n a b iha ihb =>
    intro hw s h
    rw [ev_bi, ev_bi, iha hw.2.1 s fun m hm => h m (by simp [Tr.flat, hm]), ihb hw.2.2 _ fun m hm => h m (by simp only [Tr.flat, List.mem_append]; exact .inl (.inr hm))]
theorem evP_agree {r q : List DValue} {ns : List DENode} (h : ∀ n ∈ ns, n.Tag = 2 → n.Col < (r.length : Int) ∧ n.Col < (q.length : Int) ∧ r[n.Col.toNat]? = q[n.Col.toNat]?) : evP r ns = evP q ns := by
  unfold evP
  cases ht : treeOf ns with
  | none => rfl
  | some t =>
    obtain ⟨hw, hN, _⟩ := treeOf_some ht
    have hc : colsB r ns = colsB q ns := by
      unfold colsB
      apply Bool.eq_iff_iff.2
      simp only [List.all_eq_true]
      have key : ∀ n ∈ ns, (!(n.Tag == 2) || colB r n.Col) = (!(n.Tag == 2) || colB q n.Col) := by
        intro n hn
        by_cases h2 : n.Tag = 2
        · obtain ⟨h3, h4, h5⟩ := h n hn h2
          unfold colB
          rw [h5, decide_eq_true h3, decide_eq_true h4]
        · have : (n.Tag == 2) = false := by simp [h2]
          rw [this]; rfl
      exact ⟨fun k n hn => by rw [← key n hn]; exact k n hn, fun k n hn => by rw [key n hn]; exact k n hn⟩
    simp only
    rw [hc, ev_agree t hw 0 fun n hn h2 => (h n (by rw [hN]; exact hn) h2).2.2]
theorem mget_mset (m : List (Int × Bool)) (c d : Int) : mget (mset m c true) d = if d = c then some true else mget m d := by
  induction m with
  | nil =>
    unfold mset mget mget
    by_cases h : c = d
    · rw [if_pos h, if_pos h.symm]
    · rw [if_neg h, if_neg (fun e => h e.symm)]
  | cons p m ih =>
    unfold mset
    by_cases h : p.1 = c
    · rw [if_pos h]
      unfold mget
      by_cases hd : d = c
      · rw [if_pos hd, if_pos hd.symm]
      · rw [if_neg hd, if_neg (fun e => hd e.symm), if_neg (fun e => hd (e.symm.trans h))]
    · rw [if_neg h]
      unfold mget
      by_cases hp : p.1 = d
      · rw [if_pos hp, if_pos hp, if_neg (fun e => h (hp.trans e))]
      · rw [if_neg hp, if_neg hp, ih]
theorem mset_keys (m : List (Int × Bool)) (c d : Int) : d ∈ (mset m c true).map Prod.fst ↔ d = c ∨ d ∈ m.map Prod.fst := by
  induction m with
  | nil => simp [mset]
  | cons p m ih =>
    unfold mset
    by_cases h : p.1 = c
    · rw [if_pos h]; simp [h]
    · rw [if_neg h]
      simp only [List.map_cons, List.mem_cons]
      rw [ih]
      constructor
      · rintro (h1 | h1 | h1)
        · exact .inr (.inl h1)
        · exact .inl h1
        · exact .inr (.inr h1)
      · rintro (h1 | h1 | h1)
        · exact .inr (.inl h1)
        · exact .inl h1
        · exact .inr (.inr h1)
def hasM (cs : List Int) (m : List (Int × Bool)) : Prop := (∀ d, mget m d = if d ∈ cs then some true else none) ∧ ∀ d, d ∈ m.map Prod.fst ↔ d ∈ cs
theorem own_l3 (ns : List DENode) (hl : ns.length ≤ 200) (hg : rgE ns) (p q : List DValue) (hp : rgR p) (hq : rgR q) (cs : List Int) (hcs : ∀ c, c ∈ cs ↔ ∃ n ∈ ns, n.Tag = 2 ∧ n.Col = c) (hsame : ∀ c ∈ cs, c < (p.length : Int) → c < (q.length : Int) → p[c.toNat]? = q[c.toNat]?) : ∀ ks : List Int, (∀ c ∈ cs, c ∈ ks ∨ (c < (p.length : Int) ∧ c < (q.length : Int))) → law10_ExprOwn_l3 ⟨ns⟩ p q ks = some true
  | [], hk => by
    unfold law10_ExprOwn_l3
    rw [expr_Eval_eq ⟨ns⟩ p (by show ns.length ≤ 50000; omega) hg hp, expr_Eval_eq ⟨ns⟩ q (by show ns.length ≤ 50000; omega) hg hq, Option.bind_some, Option.bind_some]
    have : evP p ns = evP q ns := evP_agree fun n hn h2 => by
      have hc := (hcs n.Col).2 ⟨n, hn, h2, rfl⟩
      rcases hk _ hc with h | ⟨h3, h4⟩
      · cases h
      · exact ⟨h3, h4, hsame _ hc h3 h4⟩
    show some (decide ((evP p ns).1 = (evP q ns).1) && ((evP p ns).2 == (evP q ns).2)) = _
    rw [this]; simp
  | c :: ks, hk => by
    unfold law10_ExprOwn_l3
    by_cases h : (p.length : Int) ≤ c ∨ (q.length : Int) ≤ c
    · rw [if_pos (by simpa using h)]
    · rw [if_neg (by simpa using h)]
      refine own_l3 ns hl hg p q hp hq cs hcs hsame ks fun d hd => ?_
      rcases hk d hd with h1 | h1
      · rcases List.mem_cons.1 h1 with rfl | h1
        · exact .inr ⟨by omega, by omega⟩
        · exact .inl h1
      · exact .inr h1
theorem own_l2 (ns : List DENode) (hl : ns.length ≤ 200) (hg : rgE ns) (p : List DValue) (hp : rgR p) (cs : List Int) (hcs : ∀ c, c ∈ cs ↔ ∃ n ∈ ns, n.Tag = 2 ∧ n.Col = c) (h0 : ∀ c ∈ cs, 0 ≤ c) (m : List (Int × Bool)) (hm : hasM cs m) : ∀ (k i : Nat) (q : List DValue), i + k = q.length → rgR q → (∀ j : Nat, j < i → (j : Int) ∈ cs → j < p.length → p[j]? = q[j]?) → law10_ExprOwn_l2 ⟨ns⟩ p m k i q = some true
  | 0, i, q, hi, hq, hs => by
    unfold law10_ExprOwn_l2
    refine own_l3 ns hl hg p q hp hq cs hcs (fun c hc h1 h2 => ?_) _ fun c hc => .inl ((hm.2 c).2 hc)
    have := h0 c hc
    exact hs c.toNat (by omega) (by rw [show ((c.toNat : Nat) : Int) = c from by omega]; exact hc) (by omega)
  | k + 1, i, q, hi, hq, hs => by
    unfold law10_ExprOwn_l2
    have hb : ((mget m (i : Int)).getD false && decide ((i : Int) < (p.length : Int))) = decide ((i : Int) ∈ cs ∧ i < p.length) := by
      rw [hm.1]
      by_cases h : (i : Int) ∈ cs
      · rw [if_pos h]
        simp [h]
      · rw [if_neg h]
        simp [h]
    rw [hb]
    by_cases h : (i : Int) ∈ cs ∧ i < p.length
    · rw [if_pos (by simpa using h), idx_nat, List.getElem?_eq_getElem h.2, Option.bind_some, idx_nat, List.getElem?_eq_getElem (by omega), Option.bind_some, Option.bind_some]
      have hset : (q.set ((i : Int)).toNat p[i]) = q.set i p[i] := rfl
      rw [hset]
      refine own_l2 ns hl hg p hp cs hcs h0 m hm k (i + 1) _ (by rw [List.length_set]; omega) ?_ ?_
      · intro v hv
        rcases List.mem_or_eq_of_mem_set hv with h1 | h1
        · exact hq v h1
        · rw [h1]; exact hp _ (List.getElem_mem h.2)
      · intro j hj hc hlt
        by_cases hji : j = i
        · subst hji
          rw [List.getElem?_set_self (by omega), List.getElem?_eq_getElem h.2]
        · rw [List.getElem?_set_ne (fun e => hji e.symm)]
          exact hs j (by omega) hc hlt
    · rw [if_neg (by simpa using h)]
      refine own_l2 ns hl hg p hp cs hcs h0 m hm k (i + 1) q (by omega) hq fun j hj hc hlt => ?_
      by_cases hji : j = i
      · subst hji; exact absurd ⟨hc, hlt⟩ h
      · exact hs j (by omega) hc hlt
theorem own_l1 (ns : List DENode) (hl : ns.length ≤ 200) (hg : rgE ns) (p b : List DValue) (hp : rgR p) (hb : rgR b) (cs : List Int) (hcs : ∀ c, c ∈ cs ↔ ∃ n ∈ ns, n.Tag = 2 ∧ n.Col = c) (h0 : ∀ c ∈ cs, 0 ≤ c) : ∀ (tl pre : List Int) (m : List (Int × Bool)), pre ++ tl = cs → hasM pre m → law10_ExprOwn_l1 ⟨ns⟩ p b tl m = some true
  | [], pre, m, he, hm => by
    unfold law10_ExprOwn_l1
    rw [List.append_nil] at he
    subst he
    exact own_l2 ns hl hg p hp pre hcs h0 m hm b.length 0 b (by omega) hb fun j hj => absurd hj (by omega)
  | c :: tl, pre, m, he, hm => by
    unfold law10_ExprOwn_l1
    refine own_l1 ns hl hg p b hp hb cs hcs h0 tl (pre ++ [c]) _ (by rw [← he]; simp) ⟨fun d => ?_, fun d => ?_⟩
    · rw [mget_mset, hm.1]
      by_cases hd : d = c
      · simp [hd]
      · simp [hd]
    · rw [mset_keys, hm.2]
      simp only [List.mem_append, List.mem_singleton]
      exact Or.comm
theorem exprOwn_true (x : DExpr) (a b : List DValue) (hx : rgE x.Nodes) (ha : rgR a) (hb : rgR b) : law10_ExprOwn x a b = some true := by
  unfold law10_ExprOwn
  have h := short_eq x 200 (by omega)
  rw [wakes_eq, Option.bind_some, if_neg (by decide), show law10_short x 200 = some ⟨shortN x.Nodes 200⟩ from h, Option.bind_some]
  have hl := shortN_len x.Nodes 200
  have hg := shortN_rg hx 200
  generalize shortN x.Nodes 200 = ns at hl hg
  rw [expr_Check_eq ⟨ns⟩ (by show ns.length ≤ 100000; omega), Option.bind_some]
  cases hr : rightE ns with
  | false => rfl
  | true =>
    rw [if_pos rfl, if_neg (by decide), row_eq, Option.bind_some, row_eq, Option.bind_some]
    obtain ⟨cs, h1, h2⟩ := expr_Cols_eq ⟨ns⟩ hr
    rw [h1, Option.bind_some]
    have h0 : ∀ c ∈ cs, 0 ≤ c := fun c hc => by
      obtain ⟨n, hn, ht, rfl⟩ := (h2 c).1 hc
      cases htr : treeOf ns with
      | none => unfold rightE at hr; rw [htr] at hr; cases hr
      | some t =>
        obtain ⟨hw, hN, _⟩ := treeOf_some htr
        exact (tree_col hw 0 (by rw [← hN]; exact hn) ht).1
    exact own_l1 ns hl hg _ _ (rowR_rg ha) (rowR_rg hb) cs h2 h0 cs [] [] rfl ⟨fun d => by simp [mget], fun d => by simp⟩
end Go.Proofs.YtdhledkpgaeoaaaDoor

