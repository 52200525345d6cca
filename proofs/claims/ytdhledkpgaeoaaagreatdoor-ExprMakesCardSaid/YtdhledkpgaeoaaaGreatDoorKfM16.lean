/- Facts of this claim: M16. -/
import Derived.Test.YtdhledkpgaeoaaaGreatDoorKfM9
namespace Go.Proofs.YtdhledkpgaeoaaaGreatDoor
open Go

def shW (k : Nat) (n : DENode) : DENode := ⟨n.Tag, if 0 ≤ n.L then IntKind.i64.wrap (n.L + (k : Int)) else n.L, if 0 ≤ n.R then IntKind.i64.wrap (n.R + (k : Int)) else n.R, n.Col, n.Value⟩
theorem shW_bnd {k : Nat} {n : DENode} (h : bnd n) (hk : k ≤ 1000000) : shW k n = shN k n := by
  obtain ⟨h1, h2⟩ := h
  unfold shW shN sh put2
  congr 1
  · split
    · rw [wrapI (by omega) (by omega)]
    · rfl
  · split
    · rw [wrapI (by omega) (by omega)]
    · rfl
theorem flat_shW (t : Tr) (k : Nat) (ht : t.size ≤ 1000000) (hk : k ≤ 1000000) : (t.flat 0).map (shW k) = t.flat k := by
  rw [List.map_congr_left (g := shN k) fun n hn => shW_bnd (flat_bnd t 0 (by omega) n hn) hk, flat_sh, Nat.zero_add]
theorem Made_l2_eq (nx : Nat → DENode → DExpr → Option DExpr) (i : Nat) (root1 : DENode) (out : DExpr) : ∀ (es out1 : List DENode), out1.length + es.length ≤ 1000000 → ref10_Made_l2 nx i root1 out es ⟨out1⟩ = ref10_Made_l2 nx i root1 out [] ⟨out1 ++ es.map (shW out.Nodes.length)⟩ := by
  intro es
  induction es with
  | nil => intro out1 _; simp
  | cons n es ih =>
    intro out1 hl
    simp only [List.length_cons] at hl
    have step : ∀ n1 : DENode, ref10_Made_k2 (ref10_Made_l2 nx i root1 out es) ⟨out1⟩ n1 = ref10_Made_l2 nx i root1 out es ⟨out1 ++ [n1]⟩ := by
      intro n1
      unfold ref10_Made_k2
      rw [app_ok (by simp; omega)]; rfl
    have key : ref10_Made_l2 nx i root1 out (n :: es) ⟨out1⟩ = ref10_Made_l2 nx i root1 out es ⟨out1 ++ [shW out.Nodes.length n]⟩ := by
      conv => lhs; unfold ref10_Made_l2
      unfold ref10_Made_k1 shW
      by_cases h1 : 0 ≤ n.L
      · rw [if_pos (by simpa using h1)]
        by_cases h2 : 0 ≤ n.R
        · rw [if_pos (by simpa using h2), step]
          simp only [h1, h2, if_true]
        · rw [if_neg (by simpa using h2), step]
          simp only [h1, h2, if_true, if_false]
      · rw [if_neg (by simpa using h1)]
        by_cases h2 : 0 ≤ n.R
        · rw [if_pos (by simpa using h2), step]
          simp only [h1, h2, if_true, if_false]
        · rw [if_neg (by simpa using h2), step]
          simp only [h1, h2, if_false]
    rw [key, ih _ (by simp; omega)]
    simp
theorem Made_end (i : Nat) (root : DENode) (out : List DENode) (h : out.length ≤ 1000000) : ref10_Made_l1 [] i root ⟨out⟩ = some ⟨out ++ [root]⟩ := by
  unfold ref10_Made_l1
  rw [app_ok (by simp; omega)]; rfl
theorem Made0 (n : DENode) : ref10_Made n [] = some ⟨[put2 n (-1) (-1)]⟩ := by
  unfold ref10_Made
  exact Made_end 0 _ [] (by simp)
theorem Made1 (n : DENode) (a : List DENode) (h : a.length ≤ 100000) : ref10_Made n [⟨a⟩] = some ⟨a.map (shW 0) ++ [put2 n ((a.length : Int) - 1) (-1)]⟩ := by
  unfold ref10_Made ref10_Made_l1
  rw [Made_l2_eq _ _ _ _ _ _ (by simp; omega)]
  unfold ref10_Made_l2
  rw [if_pos (by decide)]
  simp only [List.nil_append, List.length_nil, List.length_map]
  rw [Made_end _ _ _ (by simp; omega), wrapI (by omega) (by omega)]
  rfl
theorem Made2 (n : DENode) (a b : List DENode) (h : a.length ≤ 100000) (h2 : b.length ≤ 100000) : ref10_Made n [⟨a⟩, ⟨b⟩] = some ⟨a.map (shW 0) ++ b.map (shW a.length) ++ [put2 n ((a.length : Int) - 1) (((a.length + b.length : Nat) : Int) - 1)]⟩ := by
  unfold ref10_Made ref10_Made_l1
  rw [Made_l2_eq _ _ _ _ _ _ (by simp; omega)]
  unfold ref10_Made_l2
  rw [if_pos (by decide)]
  simp only [List.nil_append, List.length_nil, List.length_map]
  unfold ref10_Made_l1
  rw [Made_l2_eq _ _ _ _ _ _ (by simp; omega)]
  unfold ref10_Made_l2
  rw [if_neg (by decide)]
  simp only [List.length_map, List.length_append]
  rw [Made_end _ _ _ (by simp; omega), wrapI (by omega) (by omega), wrapI (by omega) (by omega)]
  rfl
theorem Made1_tree (n : DENode) (a : Tr) (h : a.size ≤ 100000) : ref10_Made n [⟨a.flat 0⟩] = some ⟨(Tr.un n a).flat 0⟩ := by
  rw [Made1 _ _ (by rw [a.flat_len]; exact h), flat_shW a 0 (by omega) (by omega), a.flat_len]
  simp [Tr.flat]
theorem Made2_tree (n : DENode) (a b : Tr) (h : a.size ≤ 100000) (h2 : b.size ≤ 100000) : ref10_Made n [⟨a.flat 0⟩, ⟨b.flat 0⟩] = some ⟨(Tr.bi n a b).flat 0⟩ := by
  rw [Made2 _ _ _ (by rw [a.flat_len]; exact h) (by rw [b.flat_len]; exact h2), flat_shW a 0 (by omega) (by omega), a.flat_len, flat_shW b a.size (by omega) (by omega), b.flat_len]
  simp [Tr.flat]
def finR (b : Bool) (w : DExpr) : DExpr × Int := if b then (w, 0) else (⟨[]⟩, 200)
theorem made_l1_eq (root : DENode) (l : List DExpr) (x : DExpr) : ∀ tl : List DExpr, (∀ e ∈ tl, e.Nodes.length ≤ 100000) → expr_made_l1 root l tl x = if tl.all (fun e => rightE e.Nodes) then expr_made_l1 root l [] x else some (⟨[]⟩, 200) := by
  intro tl
  induction tl with
  | nil => intro _; rfl
  | cons e tl ih =>
    intro hl
    conv => lhs; unfold expr_made_l1
    rw [expr_Check_eq e (hl e (List.mem_cons_self ..)), Option.bind_some, ih fun q hq => hl q (List.mem_cons_of_mem _ hq), List.all_cons]
    cases rightE e.Nodes with
    | true => rw [if_neg (by decide), Bool.true_and]
    | false => rfl
theorem made_joined {root : DENode} {l : List DExpr} {w : DExpr} (hl : ∀ e ∈ l, e.Nodes.length ≤ 100000) (ha : l.all (fun e => rightE e.Nodes) = true) (hj : expr_joined root l = some w) (hw : w.Nodes.length ≤ 100000) : expr_made root l = some (finR (rightE w.Nodes) w) := by
  unfold expr_made
  rw [made_l1_eq root l _ l hl, ha, if_pos rfl]
  unfold expr_made_l1
  rw [hj, Option.bind_some, expr_Check_eq w hw, Option.bind_some]
  cases rightE w.Nodes <;> rfl
theorem made_bad {root : DENode} {l : List DExpr} (hl : ∀ e ∈ l, e.Nodes.length ≤ 100000) (ha : l.all (fun e => rightE e.Nodes) = false) : expr_made root l = some (⟨[]⟩, 200) := by
  unfold expr_made
  rw [made_l1_eq root l _ l hl, ha, if_neg (by decide)]
theorem law_made_eq (b : Bool) (w : DExpr) : law10_made (finR b w).1 (finR b w).2 w b = some true := by
  unfold law10_made finR
  cases b with
  | true =>
    show (((ref10_Same w w).bind fun r => some r).bind fun t => some t) = some true
    rw [ref10_Same_eq]
    simp
  | false => rfl
theorem law_made_none (w : DExpr) : law10_made ⟨[]⟩ 200 w false = some true := rfl
theorem right_tree {ns : List DENode} (h : rightE ns = true) : ∃ t : Tr, ns = t.flat 0 ∧ t.size ≤ 1000 := by
  unfold rightE at h
  cases ht : treeOf ns with
  | none => rw [ht] at h; cases h
  | some t => exact ⟨t, (treeOf_some ht).2⟩
def nodeOf (tag : Int) : DENode := ⟨tag, 0, 0, 0, ⟨0, 0, 0, []⟩⟩
theorem one_ok (tag : Int) (a : List DENode) (ha : a.length ≤ 1000) : ∃ R W, expr_One tag ⟨a⟩ = some R ∧ ref10_Made (nodeOf tag) [⟨a⟩] = some W ∧ law10_made R.1 R.2 W (rightE a && rightE W.Nodes) = some true := by
  have he : ∀ x, expr_made (nodeOf tag) [⟨a⟩] = some x → expr_One tag ⟨a⟩ = some x := by
    intro x hx
    unfold expr_One
    rw [show (⟨tag, 0, 0, 0, ⟨0, 0, 0, []⟩⟩ : DENode) = nodeOf tag from rfl, hx]; rfl
  have hl : ∀ e ∈ [(⟨a⟩ : DExpr)], e.Nodes.length ≤ 100000 := by
    intro e h
    simp only [List.mem_singleton] at h
    subst h
    show a.length ≤ 100000
    omega
  cases hr : rightE a with
  | false => exact ⟨_, _, he _ (made_bad hl (by simp [hr])), Made1 _ a (by omega), law_made_none _⟩
  | true =>
    obtain ⟨t, rfl, hs⟩ := right_tree hr
    have hw : ((⟨(Tr.un (nodeOf tag) t).flat 0⟩ : DExpr)).Nodes.length ≤ 100000 := by
      show ((Tr.un (nodeOf tag) t).flat 0).length ≤ 100000
      rw [Tr.flat_len]; simp only [Tr.size]; omega
    exact ⟨_, _, he _ (made_joined hl (by simp [hr]) (joined1 _ t (by omega)) hw), Made1_tree _ t (by omega), law_made_eq _ _⟩
theorem two_ok (tag : Int) (a b : List DENode) (ha : a.length ≤ 1000) (hb : b.length ≤ 1000) : ∃ R W, expr_Two tag ⟨a⟩ ⟨b⟩ = some R ∧ ref10_Made (nodeOf tag) [⟨a⟩, ⟨b⟩] = some W ∧ law10_made R.1 R.2 W ((rightE a && rightE b) && rightE W.Nodes) = some true := by
  have he : ∀ x, expr_made (nodeOf tag) [⟨a⟩, ⟨b⟩] = some x → expr_Two tag ⟨a⟩ ⟨b⟩ = some x := by
    intro x hx
    unfold expr_Two
    rw [show (⟨tag, 0, 0, 0, ⟨0, 0, 0, []⟩⟩ : DENode) = nodeOf tag from rfl, hx]; rfl
  have hl : ∀ e ∈ [(⟨a⟩ : DExpr), ⟨b⟩], e.Nodes.length ≤ 100000 := by
    intro e h
    simp only [List.mem_cons, List.not_mem_nil, or_false] at h
    rcases h with rfl | rfl
    · show a.length ≤ 100000
      omega
    · show b.length ≤ 100000
      omega
  cases hr : (rightE a && rightE b) with
  | false => exact ⟨_, _, he _ (made_bad hl (by simpa using hr)), Made2 _ a b (by omega) (by omega), law_made_none _⟩
  | true =>
    rw [Bool.and_eq_true] at hr
    obtain ⟨t, rfl, hs⟩ := right_tree hr.1
    obtain ⟨u, rfl, hs2⟩ := right_tree hr.2
    have hw : ((⟨(Tr.bi (nodeOf tag) t u).flat 0⟩ : DExpr)).Nodes.length ≤ 100000 := by
      show ((Tr.bi (nodeOf tag) t u).flat 0).length ≤ 100000
      rw [Tr.flat_len]; simp only [Tr.size]; omega
    exact ⟨_, _, he _ (made_joined hl (by simp [hr.1, hr.2]) (joined2 _ t u (by omega)) hw), Made2_tree _ t u (by omega) (by omega), law_made_eq _ _⟩
theorem leaf_ok (n : DENode) : ∃ R W, expr_Leaf n = some R ∧ ref10_Made n [] = some W ∧ law10_made R.1 R.2 W (rightE W.Nodes) = some true := by
  have hm : expr_made n [] = some (finR (rightE [put2 n (-1) (-1)]) ⟨[put2 n (-1) (-1)]⟩) := made_joined (fun e h => by cases h) rfl (joined0 n) (by show 1 ≤ 100000; omega)
  refine ⟨_, _, ?_, Made0 n, law_made_eq _ _⟩
  unfold expr_Leaf
  rw [hm]; rfl
theorem makes_l2 (e e1 r1 r2 : DExpr) (h1 : law10_short e 600 = some r1) (h2 : law10_short e1 600 = some r2) (nx : Nat → Option Bool) (i : Nat) : ∀ (tl : List DENode) (i2 : Nat) (b5 : DExpr), b5.Nodes.length = i2 + tl.length → law10_ExprMakes_l2 e r1 e1 r2 nx i tl i2 b5 = nx (i + 1) := by
  intro tl
  induction tl with
  | nil =>
    intro i2 b5 _
    unfold law10_ExprMakes_l2
    rw [h1, Option.bind_some, ref10_Same_eq, Option.bind_some, if_pos (by simp), h2, Option.bind_some, ref10_Same_eq, Option.bind_some, Option.bind_some, if_neg (by simp)]
  | cons n tl ih =>
    intro i2 b5 hl
    simp only [List.length_cons] at hl
    unfold law10_ExprMakes_l2
    have hlt : i2 < b5.Nodes.length := by omega
    rw [idx_nat, List.getElem?_eq_getElem hlt, Option.bind_some, Option.bind_some]
    exact ih (i2 + 1) _ (by show (b5.Nodes.set _ _).length = _; rw [List.length_set]; omega)
theorem makes_l1 (e e1 : DExpr) (a b : List DENode) (ha : a.length ≤ 600) (hb : b.length ≤ 600) (h1 : law10_short e 600 = some ⟨a⟩) (h2 : law10_short e1 600 = some ⟨b⟩) : ∀ (tags : List Int) (i : Nat), i ≤ 20 → law10_ExprMakes_l1 e ⟨a⟩ e1 ⟨b⟩ tags i = some true := by
  intro tags
  induction tags with
  | nil => intro i _; rfl
  | cons tag tags ih =>
    intro i hi
    unfold law10_ExprMakes_l1
    by_cases h : i = 20
    · rw [if_pos (by simp [h])]; rfl
    · rw [if_neg (by simp; omega)]
      obtain ⟨R1, W1, g1, g2, g3⟩ := one_ok tag a (by omega)
      obtain ⟨R2, W2, k1, k2, k3⟩ := two_ok tag a b (by omega) (by omega)
      have e0 : (⟨tag, 0, 0, 0, ⟨0, 0, 0, []⟩⟩ : DENode) = nodeOf tag := rfl
      rw [e0, g1, Option.bind_some, k1, Option.bind_some, g2, Option.bind_some, k2, Option.bind_some, ref10_Right_eq, Option.bind_some]
      have t1 : ((if rightE a = true then (ref10_Right W1).bind fun r => some r else some false)) = some (rightE a && rightE W1.Nodes) := by
        rw [ref10_Right_eq]
        cases rightE a <;> rfl
      have t2 : ((if rightE a = true then (ref10_Right ⟨b⟩).bind fun r => some r else some false)) = some (rightE a && rightE b) := by
        rw [ref10_Right_eq]
        cases rightE a <;> rfl
      have t3 : ((if (rightE a && rightE b) = true then (ref10_Right W2).bind fun r => some r else some false)) = some ((rightE a && rightE b) && rightE W2.Nodes) := by
        rw [ref10_Right_eq]
        cases (rightE a && rightE b) <;> rfl
      show ((if rightE a = true then (ref10_Right W1).bind fun r => some r else some false).bind _) = _
      rw [t1, Option.bind_some, g3, Option.bind_some, if_pos (by decide), t2, Option.bind_some, t3, Option.bind_some, k3, Option.bind_some, Option.bind_some, if_neg (by decide)]
      rw [makes_l2 e e1 _ _ h1 h2 _ i R2.1.Nodes 0 R2.1 (by omega)]
      exact ih (i + 1) (by omega)
theorem exprMakes_true (tags : List Int) (leaf : DENode) (pair : List DExpr) (hp : pair.length = 2) : law10_ExprMakes tags leaf pair = some true := by
  obtain ⟨e, e1, rfl⟩ : ∃ e e1, pair = [e, e1] := by
    match pair, hp with
    | [e, e1], _ => exact ⟨e, e1, rfl⟩
  unfold law10_ExprMakes
  have s1 := short_eq e 600 (by omega)
  have s2 := short_eq e1 600 (by omega)
  have s3 := short_eq ⟨[leaf]⟩ 1 (by omega)
  have s3' : law10_short ⟨[leaf]⟩ 1 = some ⟨[cutN leaf]⟩ := s3
  rw [wakes_eq, Option.bind_some, if_neg (by decide), show idx [e, e1] 0 = some e from rfl, Option.bind_some]
  rw [show law10_short e 600 = some ⟨shortN e.Nodes 600⟩ from s1, Option.bind_some, show idx [e, e1] 1 = some e1 from rfl, Option.bind_some]
  rw [show law10_short e1 600 = some ⟨shortN e1.Nodes 600⟩ from s2, Option.bind_some, s3', Option.bind_some]
  rw [show idx [cutN leaf] 0 = some (cutN leaf) from rfl, Option.bind_some]
  obtain ⟨R, W, g1, g2, g3⟩ := leaf_ok (cutN leaf)
  rw [g1, Option.bind_some, g2, Option.bind_some, ref10_Right_eq, Option.bind_some, g3, Option.bind_some, if_neg (by decide)]
  exact makes_l1 e e1 _ _ (shortN_len _ _) (shortN_len _ _) s1 s2 tags 0 (by omega)
end Go.Proofs.YtdhledkpgaeoaaaGreatDoor

