/- Facts of this claim: M5. -/
import Derived.Test.YtdhledkpgaeoaaaGreatDoorKaM4
namespace Go.Proofs.YtdhledkpgaeoaaaGreatDoor
open Go

theorem expr_Safe_eq (e : DExpr) (h : e.Nodes.length ≤ 50000) : expr_Safe e = some (rightE e.Nodes && !(e.Nodes.any arB)) := by
  unfold expr_Safe
  rw [expr_Check_eq e (by omega)]
  cases rightE e.Nodes with
  | false => rfl
  | true =>
    simp only [if_true, Option.bind_some]
    rw [if_pos (by decide)]
    have key : ∀ (l : List DENode), slices_ContainsFunc_api_ENode_api_ENode l expr_Safe_1 = some (l.any arB) := by
      intro l
      unfold slices_ContainsFunc_api_ENode_api_ENode slices_IndexFunc_api_ENode_api_ENode
      have h2 : ∀ (l : List DENode) (i : Nat), ∃ z : Int, slices_IndexFunc_api_ENode_api_ENode_l1 expr_Safe_1 l i = some z ∧ (0 ≤ z ↔ l.any arB = true) := by
        intro l
        induction l with
        | nil => intro i; exact ⟨-1, rfl, by simp⟩
        | cons n l ih =>
          intro i
          unfold slices_IndexFunc_api_ENode_api_ENode_l1
          have e1 : expr_Safe_1 n = some (arB n) := rfl
          rw [e1]
          simp only [Option.bind_some]
          cases hb : arB n with
          | true => exact ⟨(i : Int), by simp, by simp [hb]⟩
          | false =>
            obtain ⟨z, h3, h4⟩ := ih (i + 1)
            exact ⟨z, by simpa using h3, by simpa [hb] using h4⟩
      obtain ⟨z, h3, h4⟩ := h2 l 0
      rw [h3]
      simp only [Option.bind_some]
      congr 1
      rw [Bool.eq_iff_iff, ← h4]; simp
    rw [key]; rfl
theorem kn_ar {tag ka kb : Int} (ht : tag = 4 ∨ tag = 12 ∨ tag = 13 ∨ tag = 14 ∨ tag = 15) : kn tag ka kb = (2, (ka == 2 || ka == 0) && (kb == 2 || kb == 0)) := by
  rcases ht with rfl | rfl | rfl | rfl | rfl <;> (unfold kn ref10_kind ref10_fits; cases (ka == 2 || ka == 0) <;> cases (kb == 2 || kb == 0) <;> rfl)
theorem kn_lo {tag ka kb : Int} (ht : tag = 5 ∨ tag = 22 ∨ tag = 23) : kn tag ka kb = (1, (ka == 1 || ka == 0) && (kb == 1 || kb == 0)) := by
  rcases ht with rfl | rfl | rfl <;> (unfold kn ref10_kind ref10_fits; cases (ka == 1 || ka == 0) <;> cases (kb == 1 || kb == 0) <;> rfl)
def hasK (v : DValue) (k : Int) : Prop := v.Kind = k ∨ v.Kind = 0
theorem raw_kind {tag : Int} {k : Nat} (h : pk tag = some k) (hk : k ≠ 0) {a b : DValue} (ha : Pl a) (hb : Pl b) {ka kb : Int} (h1 : hasK a ka) (h2 : k = 1 ∧ b = a ∧ kb = 0 ∨ k = 2 ∧ hasK b kb) (hn : (kn tag ka kb).2 = true) :
    ((raw tag a b).2 = 0 ∧ hasK (raw tag a b).1 (kn tag ka kb).1) ∨ raw tag a b = (zV, 140) := by
  have har : ∀ t x y, hasK x 2 → hasK y 2 → ((arV t x y).2 = 0 ∧ hasK (arV t x y).1 2) ∨ arV t x y = (zV, 140) := by
    intro t x y hx hy
    unfold arV
    rw [if_pos ⟨hx.symm, hy.symm⟩]
    split
    · exact .inl ⟨rfl, .inr rfl⟩
    · split
      · exact .inl ⟨rfl, .inl rfl⟩
      · exact .inr rfl
  have hbv : ∀ x, (bV x).Kind = 1 := fun _ => rfl
  have htv : ∀ {v}, Tu v → hasK v 1 := fun h => by cases h; exact .inr rfl; exact .inl rfl
  have hh : ∀ f, (a.Kind = b.Kind ∨ a.Kind = 0 ∨ b.Kind = 0) → (heldV f a b).2 = 0 ∧ (heldV f b a).2 = 0 := by
    intro f hx
    unfold heldV
    constructor
    · split
      · rfl
      · rw [if_pos (by rename_i h9; simp only [not_or] at h9; rcases hx with h | h | h; exact h; exact absurd h h9.1; exact absurd h h9.2)]
    · split
      · rfl
      · rw [if_pos (by rename_i h9; simp only [not_or] at h9; rcases hx with h | h | h; exact h.symm; exact absurd h h9.2; exact absurd h h9.1)]
  have hkk : k = 2 → (ka = kb ∨ ka = 0 ∨ kb = 0) → (a.Kind = b.Kind ∨ a.Kind = 0 ∨ b.Kind = 0) := by
    intro h9 h
    rcases h2 with ⟨h5, _⟩ | ⟨_, h2⟩
    · omega
    unfold hasK at h1 h2
    rcases h with h | h | h <;> rcases h1 with h1 | h1 <;> rcases h2 with h2 | h2 <;> simp_all
  have hno : ∀ f x y, (heldV f x y).2 = 0 → (noV (heldV f x y)).2 = 0 ∧ hasK (noV (heldV f x y)).1 1 := by
    intro f x y h9
    unfold noV
    rw [if_pos h9]
    exact ⟨rfl, htv (notV_tu (heldV_tu f x y h9))⟩
  have h3 : k = 2 → hasK b kb := by intro h9; rcases h2 with ⟨h5, _⟩ | ⟨_, h2⟩; omega; exact h2
  have h10 : ∀ {x : DValue} {kx : Int}, hasK x kx → kx = 2 ∨ kx = 0 → hasK x 2 := by
    intro x kx h h'; unfold hasK at *; omega
  have h11 : ∀ {x : DValue} {kx : Int}, hasK x kx → kx = 1 ∨ kx = 0 → x.Kind ≤ 1 := by
    intro x kx h h'; unfold hasK at *; omega
  rcases pk12 h hk with rfl | rfl | rfl | rfl | rfl | rfl | rfl | rfl | rfl | rfl | rfl | rfl | rfl | rfl | rfl | rfl
  · rw [kn_ar (by decide)] at hn ⊢
    have hx : ka = 2 ∨ ka = 0 := by simp at hn; exact hn.1
    have := har 13 (iV 0) a (.inl rfl) (h10 h1 hx)
    exact this
  · rw [kn_lo (by decide)] at hn ⊢
    have hx : ka = 1 ∨ ka = 0 := by simp at hn; exact hn.1
    have e : raw 5 a b = (notV a, 0) := by
      show (if a.Kind ≤ 1 then (notV a, 0) else (zV, 2)) = _
      rw [if_pos (h11 h1 hx)]
    rw [e]; exact .inl ⟨rfl, htv (notV_tu ((tu_iff ha).2 (h11 h1 hx)))⟩
  · exact .inl ⟨rfl, .inl rfl⟩
  · exact .inl ⟨rfl, .inl rfl⟩
  all_goals have hk2 : k = 2 := by simp [pk] at h; omega
  all_goals have hb3 := h3 hk2
  · rw [kn_ar (by decide)] at hn ⊢
    have hx : (ka = 2 ∨ ka = 0) ∧ (kb = 2 ∨ kb = 0) := by simp at hn; exact hn
    exact har 12 a b (h10 h1 hx.1) (h10 hb3 hx.2)
  · rw [kn_ar (by decide)] at hn ⊢
    have hx : (ka = 2 ∨ ka = 0) ∧ (kb = 2 ∨ kb = 0) := by simp at hn; exact hn
    exact har 13 a b (h10 h1 hx.1) (h10 hb3 hx.2)
  · rw [kn_ar (by decide)] at hn ⊢
    have hx : (ka = 2 ∨ ka = 0) ∧ (kb = 2 ∨ kb = 0) := by simp at hn; exact hn
    exact har 14 a b (h10 h1 hx.1) (h10 hb3 hx.2)
  · rw [kn_ar (by decide)] at hn ⊢
    have hx : (ka = 2 ∨ ka = 0) ∧ (kb = 2 ∨ kb = 0) := by simp at hn; exact hn
    exact har 15 a b (h10 h1 hx.1) (h10 hb3 hx.2)
  · have hx : ka = kb ∨ ka = 0 ∨ kb = 0 := by simp [kn, ref10_kind, ref10_fits] at hn; omega
    have := (hh (fun c => c == 0) (hkk hk2 hx)).1
    exact .inl ⟨this, htv (heldV_tu _ a b this)⟩
  · have hx : ka = kb ∨ ka = 0 ∨ kb = 0 := by simp [kn, ref10_kind, ref10_fits] at hn; omega
    exact .inl (hno (fun c => c == 0) a b (hh _ (hkk hk2 hx)).1)
  · have hx : ka = kb ∨ ka = 0 ∨ kb = 0 := by simp [kn, ref10_kind, ref10_fits] at hn; omega
    have := (hh (fun c => decide (c < 0)) (hkk hk2 hx)).1
    exact .inl ⟨this, htv (heldV_tu _ a b this)⟩
  · have hx : ka = kb ∨ ka = 0 ∨ kb = 0 := by simp [kn, ref10_kind, ref10_fits] at hn; omega
    exact .inl (hno (fun c => decide (c < 0)) b a (hh _ (hkk hk2 hx)).2)
  · have hx : ka = kb ∨ ka = 0 ∨ kb = 0 := by simp [kn, ref10_kind, ref10_fits] at hn; omega
    have := (hh (fun c => decide (c < 0)) (hkk hk2 hx)).2
    exact .inl ⟨this, htv (heldV_tu _ b a this)⟩
  · have hx : ka = kb ∨ ka = 0 ∨ kb = 0 := by simp [kn, ref10_kind, ref10_fits] at hn; omega
    exact .inl (hno (fun c => decide (c < 0)) a b (hh _ (hkk hk2 hx)).1)
  · rw [kn_lo (by decide)] at hn ⊢
    have hx : (ka = 1 ∨ ka = 0) ∧ (kb = 1 ∨ kb = 0) := by simp at hn; exact hn
    have e : raw 22 a b = (andV a b, 0) := by
      show (if a.Kind ≤ 1 ∧ b.Kind ≤ 1 then (andV a b, 0) else (zV, 2)) = _
      rw [if_pos ⟨h11 h1 hx.1, h11 hb3 hx.2⟩]
    rw [e]; exact .inl ⟨rfl, htv (andV_tu ((tu_iff ha).2 (h11 h1 hx.1)) ((tu_iff hb).2 (h11 hb3 hx.2)))⟩
  · rw [kn_lo (by decide)] at hn ⊢
    have hx : (ka = 1 ∨ ka = 0) ∧ (kb = 1 ∨ kb = 0) := by simp at hn; exact hn
    have e : raw 23 a b = (orV a b, 0) := by
      show (if a.Kind ≤ 1 ∧ b.Kind ≤ 1 then (orV a b, 0) else (zV, 2)) = _
      rw [if_pos ⟨h11 h1 hx.1, h11 hb3 hx.2⟩]
    rw [e]; exact .inl ⟨rfl, htv (orV_tu ((tu_iff ha).2 (h11 h1 hx.1)) ((tu_iff hb).2 (h11 hb3 hx.2)))⟩
def kindR (kinds : List Int) (r : List DValue) : Prop := ∀ (j : Nat) (k : Int), kinds[j]? = some k → ∃ v, r[j]? = some v ∧ Pl v ∧ hasK v k
theorem kd_ev {kinds : List Int} (hk4 : ∀ k ∈ kinds, k4 k) {r : List DValue} (hr : kindR kinds r) (t : Tr) : t.wf → rgT t → colsV r t → colsT kinds.length t → ∀ {k}, kd kinds t = some k →
    ((ev r t).2 = 0 ∧ hasK (ev r t).1 k) ∨ (ev r t = (zV, 140) ∧ ∀ s, (t.flat s).any arB = true) := by
  induction t with
  | lf n =>
    intro ⟨h1, h2, _, _⟩ hg hc hcT k hk
    unfold kd at hk
    unfold ev
    split at hk
    · rename_i ht; rw [if_pos ht]; cases hk; exact .inl ⟨rfl, .inl rfl⟩
    · rename_i ht
      have ht2 : n.Tag = 2 := (pk0 h1).resolve_left ht
      have hlt := hcT ht2
      have h0 := (cnt2 h2 ht2).1
      rw [if_neg ht]
      have hgk : kinds[n.Col.toNat]? = some k := by
        rw [List.getElem?_eq_getElem (by omega)] at hk ⊢
        simpa using hk
      obtain ⟨v, h3, h4, h5⟩ := hr _ _ hgk
      rw [h3]; exact .inl ⟨rfl, h5⟩
  | un n a ih =>
    intro ⟨⟨h1, _, _, _⟩, ha⟩ hg hc hcT k hk
    rw [kd_un] at hk
    cases hx : kd kinds a with
    | none => rw [hx] at hk; cases hk
    | some x =>
      rw [hx, Option.bind_some] at hk
      split at hk
      · rename_i hkn
        cases hk
        rw [ev_un]
        rcases ih ha hg hc hcT hx with ⟨h2, h3⟩ | ⟨h2, h3⟩
        · rw [bindV_ok h2]
          have hp : Pl (ev r a).1 := by
            rcases ev_cases r a ha hg hc with ⟨_, h⟩ | h | h
            · exact h
            · rw [h] at h2; cases h2
            · rw [h] at h2; cases h2
          unfold dz
          rcases raw_kind h1 (by decide) hp hp h3 (.inl ⟨rfl, rfl, rfl⟩) hkn with ⟨h4, h5⟩ | h4
          · rw [if_pos h4]; exact .inl ⟨h4, h5⟩
          · rcases raw_cases h1 (by decide) hp hp with ⟨h6, _⟩ | h6 | ⟨_, h6⟩
            · rw [h4] at h6; cases h6
            · rw [h4] at h6; cases h6
            · rw [h4]
              exact .inr ⟨rfl, fun s => by simp only [Tr.flat, List.any_append, List.any_cons, List.any_nil, Bool.or_false, Bool.or_eq_true]; right; simp only [arB]; have : (put2 n (((s + a.size : Nat) : Int) - 1) (-1)).Tag = n.Tag := rfl; rw [this]; simp; omega⟩
        · rw [h2, bindV_err (by decide)]
          exact .inr ⟨rfl, fun s => by simp only [Tr.flat, List.any_append, Bool.or_eq_true]; exact .inl (h3 s)⟩
      · cases hk
  | bi n a b iha ihb =>
    intro ⟨⟨h1, _, _, _⟩, ha, hb⟩ ⟨hga, hgb⟩ ⟨hca, hcb⟩ ⟨hTa, hTb⟩ k hk
    rw [kd_bi] at hk
    cases hx : kd kinds a with
    | none => rw [hx] at hk; cases hk
    | some x =>
      cases hy : kd kinds b with
      | none => rw [hx, hy] at hk; cases hk
      | some y =>
        rw [hx, hy] at hk
        simp only [Option.bind_some] at hk
        split at hk
        · rename_i hkn
          cases hk
          rw [ev_bi]
          rcases iha ha hga hca hTa hx with ⟨h2, h3⟩ | ⟨h2, h3⟩
          · rw [bindV_ok h2]
            have hp : Pl (ev r a).1 := by
              rcases ev_cases r a ha hga hca with ⟨_, h⟩ | h | h
              · exact h
              · rw [h] at h2; cases h2
              · rw [h] at h2; cases h2
            rcases ihb hb hgb hcb hTb hy with ⟨q2, q3⟩ | ⟨q2, q3⟩
            · rw [bindV_ok q2]
              have hq : Pl (ev r b).1 := by
                rcases ev_cases r b hb hgb hcb with ⟨_, h⟩ | h | h
                · exact h
                · rw [h] at q2; cases q2
                · rw [h] at q2; cases q2
              unfold dz
              rcases raw_kind h1 (by decide) hp hq h3 (.inr ⟨rfl, q3⟩) hkn with ⟨h4, h5⟩ | h4
              · rw [if_pos h4]; exact .inl ⟨h4, h5⟩
              · rcases raw_cases h1 (by decide) hp hq with ⟨h6, _⟩ | h6 | ⟨_, h6⟩
                · rw [h4] at h6; cases h6
                · rw [h4] at h6; cases h6
                · rw [h4]
                  exact .inr ⟨rfl, fun s => by simp only [Tr.flat, List.any_append, List.any_cons, List.any_nil, Bool.or_false, Bool.or_eq_true]; right; simp only [arB]; have : (put2 n (((s + a.size : Nat) : Int) - 1) (((s + a.size + b.size : Nat) : Int) - 1)).Tag = n.Tag := rfl; rw [this]; simp; omega⟩
            · rw [q2, bindV_err (by decide)]
              exact .inr ⟨rfl, fun s => by simp only [Tr.flat, List.any_append, Bool.or_eq_true]; exact .inl (.inr (q3 _))⟩
          · rw [h2, bindV_err (by decide)]
            exact .inr ⟨rfl, fun s => by simp only [Tr.flat, List.any_append, Bool.or_eq_true]; exact .inl (.inl (h3 s))⟩
        · cases hk
theorem kindP_ok {e : DExpr} {kinds : List Int} (h : (kindP e kinds).2 = 0) : ∃ t, treeOf e.Nodes = some t ∧ (∀ k ∈ kinds, k4 k) ∧ colsIn kinds.length e.Nodes = true ∧ kd kinds t = some (kindP e kinds).1 := by
  unfold kindP at h ⊢
  split at h
  · rename_i h1
    rw [if_pos h1]
    split at h
    · rename_i h2
      rw [if_pos h2]
      split at h
      · rename_i h3
        rw [if_pos h3]
        unfold rightE at h1
        cases ht : treeOf e.Nodes with
        | none => rw [ht] at h1; cases h1
        | some t =>
          rw [ht] at h
          simp only [Option.bind_some] at h ⊢
          cases hk : kd kinds t with
          | none => rw [hk] at h; cases h
          | some k => exact ⟨t, rfl, fun k hk => kOK_mem h2 hk, h3, hk⟩
      · cases h
    · cases h
  · cases h
theorem kinds_end (ns : List DENode) (hl : ns.length ≤ 200) (hg : rgE ns) (kinds : List Int) (h : (kindP ⟨ns⟩ kinds).2 = 0) (own : List DValue) (hr : kindR kinds own) (hrg : rgR own) (hlen : own.length = kinds.length) :
    ((evP own ns).2 = 0 ∧ Pl (evP own ns).1 ∧ hasK (evP own ns).1 (kindP ⟨ns⟩ kinds).1) ∨ ((evP own ns).2 = 140 ∧ ns.any arB = true) := by
  obtain ⟨t, ht, hk4, hcols, hkd⟩ := kindP_ok h
  obtain ⟨hw, hN, hs⟩ := treeOf_some ht
  have hN : ns = t.flat 0 := hN
  have hcT : colsT kinds.length t := colsIn_tree _ t hw 0 (by rw [← hN]; exact hcols)
  have hcB : colsB own ns = true := by
    unfold colsB
    rw [List.all_eq_true]
    intro n hn
    by_cases htag : n.Tag = 2
    · have hc := List.all_eq_true.1 hcols n hn
      have h0 := (tree_col hw 0 (by rw [← hN]; exact hn) htag).1
      simp [htag] at hc ⊢
      have hlt : n.Col.toNat < kinds.length := by omega
      obtain ⟨v, hv, hp, _⟩ := hr n.Col.toNat kinds[n.Col.toNat] (List.getElem?_eq_getElem hlt)
      unfold colB
      rw [hv]
      have e1 : decide (n.Col < (own.length : Int)) = true := by simp; omega
      rw [e1]; simpa using hp.plain
    · simp [htag]
  have hcV : colsV own t := colsB_tree hrg t hw 0 (by rw [← hN]; exact hcB)
  have hgT := rgE_tree t 0 (by rw [← hN]; exact hg)
  have hev : evP own ns = ev own t := by unfold evP; rw [ht]; simp [hcB]
  rw [hev]
  rcases kd_ev hk4 hr t hw hgT hcV hcT hkd with ⟨h2, h3⟩ | ⟨h2, h3⟩
  · left
    refine ⟨h2, ?_, h3⟩
    rcases ev_cases own t hw hgT hcV with ⟨_, h⟩ | h | h
    · exact h
    · rw [h] at h2; cases h2
    · rw [h] at h2; cases h2
  · right
    rw [h2]
    exact ⟨rfl, by rw [hN]; exact h3 0⟩
def goodTo (kinds : List Int) (i : Nat) (own : List DValue) : Prop := ∀ (j : Nat) (k : Int), j < i → kinds[j]? = some k → ∃ v, own[j]? = some v ∧ Pl v ∧ hasK v k
theorem kinds_l1 (r : List DValue) (hr : rgR r) (ns : List DENode) (hl : ns.length ≤ 200) (hg : rgE ns) (kinds : List Int) (hkl : kinds.length ≤ 16) (h : (kindP ⟨ns⟩ kinds).2 = 0) : ∀ (k i : Nat) (own : List DValue), i + k = kinds.length → own.length = kinds.length → rgR own → goodTo kinds i own →
    law10_ExprKinds_l1 r ⟨ns⟩ kinds (kindP ⟨ns⟩ kinds) k i own = some true
  | 0, i, own, hi, hlen, hrg, hgd => by
    simp only [law10_ExprKinds_l1]
    have hR : kindR kinds own := fun j k hj => hgd j k (by have := (List.getElem?_eq_some_iff.1 hj).1; omega) hj
    rw [expr_Eval_eq ⟨ns⟩ own (by show ns.length ≤ 50000; omega) hg hrg]
    simp only [Option.bind_some]
    rcases kinds_end ns hl hg kinds h own hR hrg hlen with ⟨h2, h3, h4⟩ | ⟨h2, h3⟩
    · rw [if_neg (by simp [h2]), h3.plain_eq]
      simp only [Option.bind_some, Bool.true_and]
      congr 1
      rcases h4 with h4 | h4 <;> simp [h4]
    · rw [if_pos (by simp [h2]), if_pos (by simp [h2]), expr_Safe_eq _ (by show ns.length ≤ 50000; omega)]
      simp [h3]
  | k + 1, i, own, hi, hlen, hrg, hgd => by
    simp only [law10_ExprKinds_l1]
    have hik : i < kinds.length := by omega
    have hio : i < own.length := by omega
    -- a round's end
    have hk1 : ∀ own1 : List DValue, own1.length = kinds.length → rgR own1 → (∀ (j : Nat) (k : Int), j < i → kinds[j]? = some k → ∃ v, own1[j]? = some v ∧ Pl v ∧ hasK v k) →
        law10_ExprKinds_k1 kinds (law10_ExprKinds_l1 r ⟨ns⟩ kinds (kindP ⟨ns⟩ kinds) k) i own1 = some true := by
      intro own1 hl1 hr1 hg1
      unfold law10_ExprKinds_k1
      have hi1 : i < own1.length := by omega
      rw [idx_nat, List.getElem?_eq_getElem hi1]
      simp only [Option.bind_some, value_Plain_eq]
      cases hp : plainV own1[i] with
      | false =>
        simp only [Bool.not_false, Bool.not_true, Bool.false_eq_true, if_false, Option.bind_some, if_true, value_Null, Int.toNat_natCast]
        refine kinds_l1 r hr ns hl hg kinds hkl h k (i + 1) _ (by omega) (by simpa using hl1) ?_ ?_
        · intro v hv
          rcases List.mem_or_eq_of_mem_set hv with hv | rfl
          · exact hr1 v hv
          · exact ⟨by decide, by decide⟩
        · intro j k2 hj hk2
          by_cases hji : j = i
          · subst hji
            exact ⟨zV, by rw [List.getElem?_set_self (by omega)]; rfl, .z, .inr rfl⟩
          · rw [List.getElem?_set_ne (by omega)]; exact hg1 j k2 (by omega) hk2
      | true =>
        simp only [Bool.not_true, Bool.not_false, if_true]
        rw [idx_nat, List.getElem?_eq_getElem hik]
        simp only [Option.bind_some]
        by_cases hkd : own1[i].Kind = kinds[i]
        · rw [if_neg (by simp [hkd])]
          refine kinds_l1 r hr ns hl hg kinds hkl h k (i + 1) own1 (by omega) hl1 hr1 ?_
          intro j k2 hj hk2
          by_cases hji : j = i
          · subst hji
            rw [List.getElem?_eq_getElem hik] at hk2
            cases hk2
            exact ⟨_, List.getElem?_eq_getElem hi1, plain_pl hp (hr1 _ (List.getElem_mem hi1)), .inl hkd⟩
          · exact hg1 j k2 (by omega) hk2
        · rw [if_pos (by simpa using hkd)]
          simp only [value_Null, Option.bind_some, Int.toNat_natCast]
          refine kinds_l1 r hr ns hl hg kinds hkl h k (i + 1) _ (by omega) (by simpa using hl1) ?_ ?_
          · intro v hv
            rcases List.mem_or_eq_of_mem_set hv with hv | rfl
            · exact hr1 v hv
            · exact ⟨by decide, by decide⟩
          · intro j k2 hj hk2
            by_cases hji : j = i
            · subst hji
              exact ⟨zV, by rw [List.getElem?_set_self (by omega)]; rfl, .z, .inr rfl⟩
            · rw [List.getElem?_set_ne (by omega)]; exact hg1 j k2 (by omega) hk2
    by_cases hir : i < r.length
    · rw [if_pos (by simpa using hir), sliceF_at i (i + 1) rfl rfl (by omega) (by omega)]
      simp only [Option.bind_some, row_eq]
      have hd : (r.take (i + 1)).drop i = [r[i]] := by
        rw [List.take_succ_eq_append_getElem hir, List.drop_append_of_le_length (by simp; omega), List.drop_of_length_le (by rw [List.length_take]; exact Nat.min_le_left _ _), List.nil_append]
      rw [hd]
      have e1 : idx (rowR [r[i]]) 0 = some (cutVl r[i]) := rfl
      rw [e1]
      simp only [Option.bind_some]
      rw [idx_nat, List.getElem?_eq_getElem hio]
      simp only [Option.bind_some, Int.toNat_natCast]
      refine hk1 _ (by simpa using hlen) ?_ ?_
      · intro v hv
        rcases List.mem_or_eq_of_mem_set hv with hv | rfl
        · exact hrg v hv
        · exact (hr r[i] (List.getElem_mem hir) : r64 r[i].N)
      · intro j k2 hj hk2
        rw [List.getElem?_set_ne (by omega)]; exact hgd j k2 hj hk2
    · rw [if_neg (by simpa using hir)]
      exact hk1 own hlen hrg hgd
theorem exprKinds_true (p : DExpr) (kinds : List Int) (r : List DValue) (hp : rgE p.Nodes) (hr : rgR r) : law10_ExprKinds p kinds r = some true := by
  unfold law10_ExprKinds
  rw [wakes_eq]
  simp only [Option.bind_some, Bool.not_true, Bool.false_eq_true, if_false]
  have h1 := short_eq p 200 (by omega)
  rw [show ((200 : Int)) = ((200 : Nat) : Int) from rfl, h1]
  have h2 := cut_int_eq kinds 16 (by omega)
  simp only [Option.bind_some]
  rw [show ((16 : Int)) = ((16 : Nat) : Int) from rfl, h2]
  simp only [Option.bind_some]
  have hl := shortN_len p.Nodes 200
  rw [expr_Kind_eq _ _ (by show (shortN p.Nodes 200).length ≤ 50000; omega)]
  simp only [Option.bind_some]
  by_cases h0 : (kindP ⟨shortN p.Nodes 200⟩ (kinds.take 16)).2 = 0
  · rw [if_neg (by simp [h0])]
    have hz : zerosF (((kinds.take 16).length : Nat) : Int) (⟨0, 0, 0, []⟩ : DValue) = some (List.replicate (kinds.take 16).length zV) := by
      unfold zerosF
      rw [if_pos (by simp; omega)]; rfl
    rw [hz]
    simp only [Option.bind_some, List.length_replicate]
    refine kinds_l1 r hr _ hl (shortN_rg hp 200) (kinds.take 16) (by simp; omega) h0 _ 0 _ (by omega) (by simp) ?_ ?_
    · intro v hv
      rw [List.mem_replicate] at hv
      rw [hv.2]; exact ⟨by decide, by decide⟩
    · intro j k hj; omega
  · rw [if_pos (by simpa using h0)]
end Go.Proofs.YtdhledkpgaeoaaaGreatDoor

