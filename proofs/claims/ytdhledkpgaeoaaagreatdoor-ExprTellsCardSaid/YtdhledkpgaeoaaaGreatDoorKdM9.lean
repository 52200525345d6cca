/- Facts of this claim: M9. -/
import Derived.Test.YtdhledkpgaeoaaaGreatDoorKdM8
namespace Go.Proofs.YtdhledkpgaeoaaaGreatDoor
open Go

theorem bool_iff {a b : Bool} (h : a = true ↔ b = true) : a = b := by cases a <;> cases b <;> simp_all
theorem drop_idx {α : Type} {ys : List α} {i : Nat} (h : i < ys.length) : idx ys (i : Int) = some ys[i] := by rw [idx_nat, List.getElem?_eq_getElem h]
theorem equal_l1 (ys : List DENode) : ∀ (tl : List DENode) (i : Nat), i + tl.length = ys.length → slices_Equal_api_ENode_api_ENode_l1 ys tl i = some (decide (tl = ys.drop i))
  | [], i, h => by
    have e : ys.drop i = [] := List.drop_of_length_le (by simp at h; omega)
    rw [e]; rfl
  | e :: tl, i, h => by
    simp only [List.length_cons] at h
    have hi : i < ys.length := by omega
    unfold slices_Equal_api_ENode_api_ENode_l1
    rw [drop_idx hi, List.drop_eq_getElem_cons hi]
    simp only [Option.bind_some]
    by_cases he : e = ys[i]
    · rw [if_neg (by simp [he]), equal_l1 ys tl (i + 1) (by omega)]
      congr 1
      apply bool_iff
      simp only [decide_eq_true_eq]
      rw [he]
      exact ⟨fun h => by rw [h], fun h => (List.cons.inj h).2⟩
    · rw [if_pos (by simp [he])]
      congr 1
      apply bool_iff
      simp only [decide_eq_true_eq, Bool.false_eq_true, false_iff]
      exact fun h => he (List.cons.inj h).1
theorem expr_Same_eq (a b : DExpr) : expr_Same a b = some (decide (a.Nodes = b.Nodes)) := by
  unfold expr_Same slices_Equal_api_ENode_api_ENode
  by_cases h : a.Nodes.length = b.Nodes.length
  · rw [if_neg (by simp [h]), equal_l1 _ _ 0 (by omega)]
    simp
  · rw [if_pos (by simp; omega)]
    have : ¬ a.Nodes = b.Nodes := fun e => h (by rw [e])
    simp [this]
theorem rsame_l1 (b : DExpr) : ∀ (tl : List DENode) (i : Nat), i + tl.length = b.Nodes.length → ref10_Same_l1 b tl i = some (decide (tl = b.Nodes.drop i))
  | [], i, h => by
    have e : b.Nodes.drop i = [] := List.drop_of_length_le (by simp at h; omega)
    rw [e]; rfl
  | e :: tl, i, h => by
    simp only [List.length_cons] at h
    have hi : i < b.Nodes.length := by omega
    unfold ref10_Same_l1
    rw [drop_idx hi, List.drop_eq_getElem_cons hi]
    simp only [Option.bind_some]
    by_cases he : e = b.Nodes[i]
    · rw [if_neg (by simp [he]), rsame_l1 b tl (i + 1) (by omega)]
      congr 1
      apply bool_iff
      simp only [decide_eq_true_eq]
      rw [he]
      exact ⟨fun h => by rw [h], fun h => (List.cons.inj h).2⟩
    · rw [if_pos (by simp [he])]
      congr 1
      apply bool_iff
      simp only [decide_eq_true_eq, Bool.false_eq_true, false_iff]
      exact fun h => he (List.cons.inj h).1
theorem ref10_Same_eq (a b : DExpr) : ref10_Same a b = some (decide (a.Nodes = b.Nodes)) := by
  unfold ref10_Same
  by_cases h : a.Nodes.length = b.Nodes.length
  · rw [if_neg (by simp [h]), rsame_l1 _ _ 0 (by omega)]
    simp
  · rw [if_pos (by simp; omega)]
    have : ¬ a.Nodes = b.Nodes := fun e => h (by rw [e])
    simp [this]
theorem sameAll_refl (l : List DExpr) : ref10_SameAll l l = some true := by
  unfold ref10_SameAll
  rw [if_neg (by simp)]
  have key : ∀ (tl : List DExpr) (i : Nat), l.drop i = tl → ref10_SameAll_l1 l tl i = some true := by
    intro tl
    induction tl with
    | nil => intro i _; rfl
    | cons e tl ih =>
      intro i h
      have hi : i < l.length := by
        rcases Nat.lt_or_ge i l.length with k | k
        · exact k
        · rw [List.drop_eq_nil_of_le k] at h; cases h
      have he : l[i] = e := by rw [List.drop_eq_getElem_cons hi] at h; exact (List.cons.inj h).1
      unfold ref10_SameAll_l1
      rw [drop_idx hi, he]
      simp only [Option.bind_some, ref10_Same_eq, decide_true]
      rw [if_neg (by decide)]
      exact ih (i + 1) (by rw [← List.drop_drop, h]; rfl)
  exact key l 0 rfl
theorem lt_eq : ∀ {l m : List Int}, l.Pairwise (· < ·) → m.Pairwise (· < ·) → (∀ x, x ∈ l ↔ x ∈ m) → l = m
  | [], [], _, _, _ => rfl
  | [], y :: m, _, _, h => by have := (h y).2 (List.mem_cons_self ..); cases this
  | x :: l, [], _, _, h => by have := (h x).1 (List.mem_cons_self ..); cases this
  | x :: l, y :: m, hl, hm, h => by
    rw [List.pairwise_cons] at hl hm
    have hxy : x = y := by
      have h1 := (h x).1 (List.mem_cons_self ..)
      have h2 := (h y).2 (List.mem_cons_self ..)
      rcases List.mem_cons.1 h1 with h1 | h1
      · exact h1
      · rcases List.mem_cons.1 h2 with h2 | h2
        · exact h2.symm
        · have := hm.1 x h1; have := hl.1 y h2; omega
    subst hxy
    congr 1
    refine lt_eq hl.2 hm.2 fun z => ?_
    constructor
    · intro hz
      have h1 := (h z).1 (List.mem_cons_of_mem _ hz)
      rcases List.mem_cons.1 h1 with rfl | h1
      · have := hl.1 z hz; omega
      · exact h1
    · intro hz
      have h1 := (h z).2 (List.mem_cons_of_mem _ hz)
      rcases List.mem_cons.1 h1 with rfl | h1
      · have := hm.1 z hz; omega
      · exact h1
theorem ddup_lt : ∀ (p : Int) (l : List Int), (p :: l).Pairwise (· ≤ ·) → (p :: ddup p l).Pairwise (· < ·)
  | p, [], _ => by rw [ddup_nil]; simp
  | p, x :: t, h => by
    rw [List.pairwise_cons, List.pairwise_cons] at h
    have hpx := h.1 x (List.mem_cons_self ..)
    by_cases hx : x = p
    · rw [ddup_same hx]
      subst hx
      exact ddup_lt x t (List.pairwise_cons.2 h.2)
    · rw [ddup_ne hx]
      have ih := ddup_lt x t (List.pairwise_cons.2 h.2)
      refine List.pairwise_cons.2 ⟨fun z hz => ?_, ih⟩
      rcases List.mem_cons.1 hz with rfl | hz
      · omega
      · have := (List.pairwise_cons.1 ih).1 z hz; omega
theorem dedup_lt (l : List Int) (h : l.Pairwise (· ≤ ·)) : (dedup l).Pairwise (· < ·) := by
  cases l with
  | nil => exact List.Pairwise.nil
  | cons x t => exact ddup_lt x t h
theorem sortI_le (l : List Int) : (sortI l).Pairwise (· ≤ ·) := by
  unfold sortI
  have := List.pairwise_mergeSort (le := fun x y : Int => decide (x ≤ y)) (fun a b c h1 h2 => by simp at *; omega) (fun a b => by simp; omega) l
  exact this.imp fun h => by simpa using h
def colL (ns : List DENode) : List Int := (ns.filter fun n => n.Tag == 2).map (·.Col)
theorem Cols_l1_eq2 : ∀ (ns : List DENode) (out : List Int), out.length + ns.length ≤ 8000 → expr_Cols_l1 ns out = some (dedup (sortI (out ++ colL ns)))
  | [], out, h => by
    unfold expr_Cols_l1 sortIF
    rw [if_pos (by simp at h; omega)]
    simp only [Option.bind_some]
    rw [compact_eq _ (by rw [sortI_len]; simpa using h)]
    simp [colL]
  | n :: ns, out, h => by
    simp only [List.length_cons] at h
    unfold expr_Cols_l1
    by_cases ht : n.Tag = 2
    · rw [if_pos (by simp [ht]), app_ok (by simp; omega)]
      simp only [Option.bind_some]
      rw [Cols_l1_eq2 ns (out ++ [n.Col]) (by simp; omega)]
      simp [colL, ht]
    · rw [if_neg (by simp [ht]), Cols_l1_eq2 ns out (by omega)]
      simp [colL, ht]
theorem mem_colL (ns : List DENode) (c : Int) : c ∈ colL ns ↔ ∃ n ∈ ns, n.Tag = 2 ∧ n.Col = c := by
  unfold colL
  rw [List.mem_map]
  constructor
  · rintro ⟨n, hn, rfl⟩
    rw [List.mem_filter] at hn
    exact ⟨n, hn.1, by simpa using hn.2, rfl⟩
  · rintro ⟨n, hn, ht, rfl⟩
    exact ⟨n, List.mem_filter.2 ⟨hn, by simp [ht]⟩, rfl⟩
def hasC (ns : List DENode) (i : Nat) : Bool := ns.any fun n => n.Tag == 2 && n.Col == (i : Int)
theorem rcols_l2 (nx : Nat → List Int → Option (List Int)) (i : Nat) (out : List Int) (ho : out.length ≤ 1000) : ∀ ns : List DENode, ref10_Cols_l2 nx i ns out = nx (i + 1) (if hasC ns i then out ++ [(i : Int)] else out)
  | [] => rfl
  | n :: ns => by
    unfold ref10_Cols_l2 ref10_Cols_k1
    by_cases h : (n.Tag == 2 && n.Col == (i : Int)) = true
    · rw [if_pos h, app_ok (by simp; omega)]
      simp [hasC, h]
    · rw [if_neg h, rcols_l2 nx i out ho ns]
      rw [Bool.not_eq_true] at h
      simp [hasC, h]
def upC (ns : List DENode) : Nat → Nat → List Int
  | 0, _ => []
  | k + 1, i => (if hasC ns i then [(i : Int)] else []) ++ upC ns k (i + 1)
theorem rcols_l1 (e : DExpr) : ∀ (k i : Nat) (out : List Int), out.length + k ≤ 100 → ref10_Cols_l1 e k i out = some (out ++ upC e.Nodes k i)
  | 0, i, out, _ => by simp [ref10_Cols_l1, upC]
  | k + 1, i, out, h => by
    unfold ref10_Cols_l1
    rw [rcols_l2 _ i out (by omega), rcols_l1 e k (i + 1) _ (by split <;> (try simp) <;> omega)]
    simp only [upC]
    split <;> simp
theorem upC_lt (ns : List DENode) : ∀ (k i : Nat), (upC ns k i).Pairwise (· < ·) ∧ ∀ x ∈ upC ns k i, (i : Int) ≤ x
  | 0, i => ⟨List.Pairwise.nil, fun x hx => by cases hx⟩
  | k + 1, i => by
    obtain ⟨h1, h2⟩ := upC_lt ns k (i + 1)
    simp only [upC]
    split
    · refine ⟨List.pairwise_cons.2 ⟨fun x hx => by have := h2 x hx; omega, h1⟩, fun x hx => ?_⟩
      rcases List.mem_cons.1 hx with rfl | hx
      · omega
      · have := h2 x hx; omega
    · exact ⟨h1, fun x hx => by have := h2 x hx; omega⟩
theorem mem_upC (ns : List DENode) : ∀ (k i : Nat) (x : Int), x ∈ upC ns k i ↔ ∃ j : Nat, i ≤ j ∧ j < i + k ∧ x = (j : Int) ∧ hasC ns j = true
  | 0, i, x => by simp [upC]; intro j h1 h2; omega
  | k + 1, i, x => by
    simp only [upC, List.mem_append, mem_upC ns k (i + 1)]
    constructor
    · rintro (h | ⟨j, h1, h2, h3, h4⟩)
      · split at h
        · rename_i hc
          simp only [List.mem_singleton] at h
          exact ⟨i, Nat.le_refl _, by omega, h, hc⟩
        · cases h
      · exact ⟨j, by omega, by omega, h3, h4⟩
    · rintro ⟨j, h1, h2, h3, h4⟩
      by_cases hj : j = i
      · subst hj; left; rw [if_pos h4, h3]; simp
      · right; exact ⟨j, by omega, by omega, h3, h4⟩
theorem cols_same (e : DExpr) {t : Tr} (ht : treeOf e.Nodes = some t) : ∃ cs, expr_Cols e = some cs ∧ ref10_Cols e = some cs := by
  obtain ⟨hw, hN, hs⟩ := treeOf_some ht
  have hr : rightE e.Nodes = true := by unfold rightE; rw [ht]; rfl
  have hl := rightE_len hr
  refine ⟨dedup (sortI (colL e.Nodes)), ?_, ?_⟩
  · unfold expr_Cols
    rw [expr_Check_eq e (by omega), hr]
    have := Cols_l1_eq2 e.Nodes [] (by simp; omega)
    simpa using this
  · unfold ref10_Cols
    rw [rcols_l1 e 16 0 [] (by simp), List.nil_append]
    congr 1
    refine lt_eq (upC_lt _ 16 0).1 (dedup_lt _ (sortI_le _)) fun x => ?_
    rw [mem_dedup, mem_sortI, mem_colL, mem_upC]
    constructor
    · rintro ⟨j, _, _, rfl, hc⟩
      unfold hasC at hc
      obtain ⟨n, hn, hc⟩ := List.any_eq_true.1 hc
      simp at hc
      exact ⟨n, hn, hc.1, hc.2⟩
    · rintro ⟨n, hn, htag, rfl⟩
      have hb := tree_col hw 0 (by rw [← hN]; exact hn) htag
      refine ⟨n.Col.toNat, by omega, by omega, by omega, ?_⟩
      unfold hasC
      exact List.any_eq_true.2 ⟨n, hn, by simp [htag]; omega⟩
theorem Part_l1_eq (place r : Int) (k : Nat) (hk : k ≤ 1000000) (hpr : IntKind.i64.wrap (IntKind.i64.wrap (place + 1) - r) = (k : Int)) : ∀ (ns out : List DENode), (∀ n ∈ ns, bnd2 n) → out.length + ns.length ≤ 1000000 → ref10_Part_l1 place r ns ⟨out⟩ = some ⟨out ++ ns.map (usN k)⟩
  | [], out, _, _ => by simp [ref10_Part_l1]
  | n :: ns, out, hb, hl => by
    simp only [List.length_cons] at hl
    obtain ⟨b1, b2, b3, b4⟩ := hb n (List.mem_cons_self ..)
    have ih := Part_l1_eq place r k hk hpr ns (out ++ [usN k n]) (fun m hm => hb m (List.mem_cons_of_mem _ hm)) (by simp; omega)
    have e9 : out ++ (n :: ns).map (usN k) = out ++ [usN k n] ++ ns.map (usN k) := by simp
    rw [e9, ← ih]
    have hk2 : ∀ m, m = usN k n → ref10_Part_k2 (ref10_Part_l1 place r ns) ⟨out⟩ m = ref10_Part_l1 place r ns ⟨out ++ [usN k n]⟩ := by
      intro m hm
      unfold ref10_Part_k2
      rw [app_ok (by simp; omega), hm]
      rfl
    conv => lhs; unfold ref10_Part_l1
    rw [hpr]
    by_cases hL : 0 ≤ n.L
    · rw [if_pos (by simpa using hL)]
      unfold ref10_Part_k1
      rw [hpr, wrapI (n := n.L - (k : Int)) (by omega) (by omega)]
      by_cases hR : 0 ≤ n.R
      · rw [if_pos (by simpa using hR)]
        dsimp only
        rw [wrapI (n := n.R - (k : Int)) (by omega) (by omega)]
        exact hk2 _ (by simp only [usN, put2, us, if_pos hL, if_pos hR])
      · rw [if_neg (by simpa using hR)]
        exact hk2 _ (by simp only [usN, put2, us, if_pos hL, if_neg hR])
    · rw [if_neg (by simpa using hL)]
      unfold ref10_Part_k1
      rw [hpr]
      by_cases hR : 0 ≤ n.R
      · rw [if_pos (by simpa using hR), wrapI (n := n.R - (k : Int)) (by omega) (by omega)]
        exact hk2 _ (by simp only [usN, put2, us, if_neg hL, if_pos hR])
      · rw [if_neg (by simpa using hR)]
        exact hk2 _ (by simp only [usN, put2, us, if_neg hL, if_neg hR])
theorem ref10_Part_eq (P R : List DENode) (u : Tr) (hw : u.wf) (hl : (P ++ u.flat P.length ++ R).length ≤ 100000) : ref10_Part ⟨P ++ u.flat P.length ++ R⟩ (((P.length + u.size : Nat) : Int) - 1) = some (exT u) := by
  have hl2 := hl
  simp only [List.length_append, u.flat_len] at hl2
  have hpos := u.size_pos
  unfold ref10_Part ref10_size
  rw [size_of u hw P R _ FUEL rfl (fuel_ge (by omega)) hl]
  simp only [Option.bind_some]
  have e1 : IntKind.i64.wrap (((P.length + u.size : Nat) : Int) - 1 + 1) = ((P.length + u.size : Nat) : Int) := by rw [wrapI (by omega) (by omega)]; omega
  have e2 : IntKind.i64.wrap (IntKind.i64.wrap (((P.length + u.size : Nat) : Int) - 1 + 1) - (u.size : Int)) = (P.length : Int) := by rw [e1, wrapI (by omega) (by omega)]; omega
  rw [e2, e1, sliceF_at P.length (P.length + u.size) rfl rfl (by omega) (by simp only [List.length_append, u.flat_len]; omega)]
  have e3 : ((P ++ u.flat P.length ++ R).take (P.length + u.size)).drop P.length = u.flat P.length := by
    rw [List.append_assoc, List.drop_take, List.drop_append_of_le_length (Nat.le_refl _), List.drop_of_length_le (Nat.le_refl _), List.nil_append, Nat.add_sub_cancel_left, List.take_append_of_le_length (by rw [u.flat_len]; exact Nat.le_refl _), List.take_of_length_le (by rw [u.flat_len]; exact Nat.le_refl _)]
  rw [e3]
  simp only [Option.bind_some]
  rw [Part_l1_eq _ _ P.length (by omega) e2 _ _ (flat_bnd2 u _ (by omega)) (by simp [u.flat_len]; omega)]
  have h6 := flat_us u P.length 0
  rw [Nat.zero_add] at h6
  rw [h6]; rfl
theorem ref10_Ands_f_eq (t : Tr) : t.wf → t.size ≤ 50000 → ∀ fu, t.size ≤ fu → ref10_Ands_f fu (exT t) = some ((andsT t).map exT) := by
  induction t with
  | lf n =>
    intro hw hs fu hf
    obtain ⟨fu, rfl⟩ : ∃ k, fu = k + 1 := ⟨fu - 1, by simp only [Tr.size] at hf; omega⟩
    unfold ref10_Ands_f
    have e1 : idx (exT (.lf n)).Nodes (IntKind.i64.wrap (((exT (.lf n)).Nodes.length : Int) - 1)) = some (put2 n (-1) (-1)) := rfl
    rw [e1]
    simp only [Option.bind_some]
    have h2 : (put2 n (-1) (-1)).Tag ≠ 22 := fun h => by
      have h : n.Tag = 22 := h
      have h1 := hw.1
      rw [h] at h1; simp [pk] at h1
    rw [if_pos (by simpa using h2)]; rfl
  | un n a _ =>
    intro hw hs fu hf
    obtain ⟨fu, rfl⟩ : ∃ k, fu = k + 1 := ⟨fu - 1, by simp only [Tr.size] at hf; omega⟩
    unfold ref10_Ands_f
    have hpos := (Tr.un n a).size_pos
    have e1 : idx (exT (.un n a)).Nodes (IntKind.i64.wrap (((exT (.un n a)).Nodes.length : Int) - 1)) = some (rootN (.un n a) 0) := by
      have hl : (exT (.un n a)).Nodes.length = (Tr.un n a).size := by unfold exT; rw [Tr.flat_len]
      rw [hl, wrapI (by omega) (by omega), idx_at ((Tr.un n a).size - 1) (by omega)]
      exact flat_root _ 0
    rw [e1]
    simp only [Option.bind_some]
    have h2 : (rootN (.un n a) 0).Tag ≠ 22 := fun h => by
      have h : n.Tag = 22 := h
      have h1 := hw.1.1
      rw [h] at h1; simp [pk] at h1
    rw [if_pos (by simpa using h2)]; rfl
  | bi n a b iha ihb =>
    intro hw hs fu hf
    obtain ⟨fu, rfl⟩ : ∃ k, fu = k + 1 := ⟨fu - 1, by simp only [Tr.size] at hf; omega⟩
    unfold ref10_Ands_f
    have hpos := (Tr.bi n a b).size_pos
    have e1 : idx (exT (.bi n a b)).Nodes (IntKind.i64.wrap (((exT (.bi n a b)).Nodes.length : Int) - 1)) = some (rootN (.bi n a b) 0) := by
      have hl : (exT (.bi n a b)).Nodes.length = (Tr.bi n a b).size := by unfold exT; rw [Tr.flat_len]
      rw [hl, wrapI (by omega) (by omega), idx_at ((Tr.bi n a b).size - 1) (by omega)]
      exact flat_root _ 0
    rw [e1]
    simp only [Option.bind_some]
    simp only [Tr.size] at hs hf
    by_cases hn : n.Tag = 22
    · have h2 : (rootN (.bi n a b) 0).Tag = 22 := hn
      rw [if_neg (by simp [h2])]
      have hA := ref10_Part_eq [] (b.flat (0 + a.size) ++ [put2 n (((0 + a.size : Nat) : Int) - 1) (((0 + a.size + b.size : Nat) : Int) - 1)]) a hw.2.1 (by simp [a.flat_len, b.flat_len]; omega)
      have hB := ref10_Part_eq (a.flat 0) [put2 n (((0 + a.size : Nat) : Int) - 1) (((0 + a.size + b.size : Nat) : Int) - 1)] b hw.2.2 (by simp [a.flat_len, b.flat_len]; omega)
      have eA : (⟨[] ++ a.flat ([] : List DENode).length ++ (b.flat (0 + a.size) ++ [put2 n (((0 + a.size : Nat) : Int) - 1) (((0 + a.size + b.size : Nat) : Int) - 1)])⟩ : DExpr) = exT (.bi n a b) := by
        simp [exT, Tr.flat]
      have eB : (⟨a.flat 0 ++ b.flat (a.flat 0).length ++ [put2 n (((0 + a.size : Nat) : Int) - 1) (((0 + a.size + b.size : Nat) : Int) - 1)]⟩ : DExpr) = exT (.bi n a b) := by
        simp [exT, Tr.flat, a.flat_len]
      rw [eA] at hA
      rw [eB, a.flat_len] at hB
      have rL : (rootN (.bi n a b) 0).L = ((([] : List DENode).length + a.size : Nat) : Int) - 1 := rfl
      have rR : (rootN (.bi n a b) 0).R = ((a.size + b.size : Nat) : Int) - 1 := by simp [rootN, put2]
      rw [rL, hA, rR, hB]
      simp only [Option.bind_some]
      rw [iha hw.2.1 (by omega) fu (by omega)]
      simp only [Option.bind_some]
      rw [ihb hw.2.2 (by omega) fu (by omega)]
      simp only [Option.bind_some]
      have hsa := ands_size a
      have hsb := ands_size b
      have hcnt : ∀ t : Tr, (andsT t).length ≤ t.size + 1 := fun t => by have := ands_size t; omega
      have := hcnt a; have := hcnt b
      rw [app_ok (by simp; omega), andsT_bi, if_pos hn]
      simp
    · have h2 : (rootN (.bi n a b) 0).Tag ≠ 22 := hn
      rw [if_pos (by simpa using h2), andsT_bi, if_neg hn]; rfl
theorem ref10_Ands_eq {t : Tr} (hw : t.wf) (hs : t.size ≤ 1000) : ref10_Ands (exT t) = some ((andsT t).map exT) := ref10_Ands_f_eq t hw (by omega) FUEL (fuel_ge (by omega))
theorem pair_same (e : DExpr) (left : Int) (hr : rightE e.Nodes = true) : expr_Pair e left = ref10_Pair e left ∧ ∃ p, ref10_Pair e left = some p := by
  have hl := rightE_len hr
  unfold expr_Pair ref10_Pair
  rw [expr_Check_eq e (by omega), hr]
  simp only [if_true, Option.bind_some]
  by_cases h3 : e.Nodes.length = 3
  · obtain ⟨a, b, c, habc⟩ : ∃ a b c, e.Nodes = [a, b, c] := by
      match e.Nodes, h3 with
      | [a, b, c], _ => exact ⟨a, b, c, rfl⟩
    rw [habc]
    have i0 : idx [a, b, c] 0 = some a := rfl
    have i1 : idx [a, b, c] 1 = some b := rfl
    have i2 : idx [a, b, c] 2 = some c := rfl
    simp only [i0, i1, i2, Option.bind_some]
    unfold ref10_Pair_k1
    by_cases hc : c.Tag = 16
    · by_cases ha : a.Tag = 2
      · by_cases hb : b.Tag = 2
        · simp [hc, ha, hb]
          by_cases q1 : left ≤ a.Col
          · by_cases q2 : left ≤ b.Col
            · have : left ≤ min a.Col b.Col := by omega
              simp [q1, q2, this]
            · have h4 : min a.Col b.Col = b.Col := by omega
              have h5 : max a.Col b.Col = a.Col := by omega
              have h6 : ¬ (a.Col < left) := by omega
              simp [q1, q2, h4, h5, h6]
          · by_cases q2 : left ≤ b.Col
            · have h4 : min a.Col b.Col = a.Col := by omega
              have h5 : max a.Col b.Col = b.Col := by omega
              have h6 : ¬ (b.Col < left) := by omega
              simp [q1, h4, h5, h6]
            · have h4 : max a.Col b.Col < left := by omega
              have h5 : b.Col < left := by omega
              simp [q1, h4, h5]
        · simp [hc, ha, hb]
      · simp [hc, ha]
    · simp [hc]
  · have : ((e.Nodes.length : Int) != 3) = true := by simp; omega
    simp [this]
theorem tells_l3 (nx : Nat → Option Bool) (i : Nat) (hnx : nx (i + 1) = some true) (e : DExpr) (hr : rightE e.Nodes = true) : ∀ (ls : List Int) (i2 : Nat), law10_ExprTells_l3 nx i e ls i2 = some true
  | [], i2 => hnx
  | x :: ls, i2 => by
    unfold law10_ExprTells_l3
    obtain ⟨h1, p, h2⟩ := pair_same e x hr
    rw [h1, h2]
    simp only [Option.bind_some]
    rw [if_neg (by simp)]
    exact tells_l3 nx i hnx e hr ls (i2 + 1)
theorem tells_l2 (lefts : List Int) (nx : Nat → Option Bool) (i : Nat) (hnx : nx (i + 1) = some true) (e : DExpr) (hr : rightE e.Nodes = true) (cs : List Int) : ∀ (tl : List Int) (i1 : Nat), cs.drop i1 = tl → law10_ExprTells_l2 lefts nx i e cs tl i1 = some true
  | [], i1, _ => tells_l3 nx i hnx e hr lefts 0
  | x :: tl, i1, h => by
    unfold law10_ExprTells_l2
    rw [dropI h]
    simp only [Option.bind_some]
    rw [if_neg (by simp)]
    exact tells_l2 lefts nx i hnx e hr cs tl (i1 + 1) (dropS h)
theorem tells_l1 (l : List DExpr) (lefts kinds : List Int) : ∀ (tl : List DExpr) (i : Nat), l.drop i = tl → law10_ExprTells_l1 l lefts kinds tl i = some true
  | [], i, _ => rfl
  | e :: tl, i, h => by
    have ih : law10_ExprTells_l1 l lefts kinds tl (i + 1) = some true := tells_l1 l lefts kinds tl (i + 1) (dropS h)
    unfold law10_ExprTells_l1
    by_cases h8 : i = 8
    · rw [if_pos (by simp [h8])]; rfl
    · rw [if_neg (by simp; omega)]
      have hs200 : ∀ x : DExpr, law10_short x 200 = some ⟨shortN x.Nodes 200⟩ := fun x => short_eq x 200 (by omega)
      obtain ⟨f, hf⟩ : ∃ f, idx l 0 = some f := by
        cases l with
        | nil => simp at h
        | cons f l => exact ⟨f, rfl⟩
      rw [hs200, hf]
      simp only [Option.bind_some, hs200]
      have hlen := shortN_len e.Nodes 200
      generalize shortN e.Nodes 200 = ns at hlen ⊢
      have hl1 : (⟨ns⟩ : DExpr).Nodes.length ≤ 50000 := by show ns.length ≤ 50000; omega
      rw [ref10_Right_eq, expr_Check_eq _ (by show ns.length ≤ 100000; omega)]
      simp only [Option.bind_some, expr_Same_eq, ref10_Same_eq]
      have hk : law10_ExprTells_k2 (law10_ExprTells_l1 l lefts kinds tl) i = some true := ih
      cases hr : rightE ns with
      | false =>
        simp only [Bool.false_eq_true, if_false, Bool.not_false, if_true]
        rw [if_pos (by decide)]
        simp only [bne_self_eq_false, Option.bind_some, Bool.not_false, if_true, decide_true, Bool.not_true, Bool.false_eq_true, if_false]
        rw [expr_Kind_eq _ _ hl1]
        have e1 : kindP ⟨ns⟩ kinds = (0, 200) := by unfold kindP; rw [if_neg (by simp [hr])]
        have e2 : expr_Cols ⟨ns⟩ = some [] := by unfold expr_Cols; rw [expr_Check_eq _ (by show ns.length ≤ 100000; omega)]; simp [hr]
        have e3 : expr_Ands ⟨ns⟩ = some [] := by
          rw [expr_Ands_eq _ (by show ns.length ≤ 80000; omega)]
          have : treeOf ns = none := by
            unfold rightE at hr
            cases ht : treeOf ns with
            | none => rfl
            | some t => rw [ht] at hr; cases hr
          simp only [this]
        have e4 : expr_Safe ⟨ns⟩ = some false := by rw [expr_Safe_eq _ hl1]; simp [hr]
        rw [e1, e2, e3, e4]
        simp only [Option.bind_some]
        simp
        exact hk
      | true =>
        simp only [if_true, Bool.not_true, Bool.false_eq_true, if_false]
        rw [if_pos (by decide)]
        simp only [bne_self_eq_false, Option.bind_some, Bool.not_false, if_true, decide_true, Bool.not_true, Bool.false_eq_true, if_false]
        obtain ⟨t, ht⟩ : ∃ t, treeOf ns = some t := by
          unfold rightE at hr
          exact Option.isSome_iff_exists.1 hr
        obtain ⟨hw, hN, hs⟩ := treeOf_some ht
        obtain ⟨cs, hc1, hc2⟩ := cols_same ⟨ns⟩ ht
        rw [expr_Kind_eq _ _ hl1, hc1, ref10_Kind_eq, hc2, expr_Ands_eq _ (by show ns.length ≤ 80000; omega), expr_Safe_eq _ hl1, ref10_Safe_eq]
        simp only [ht, Option.bind_some, hr, Bool.true_and, bne_self_eq_false, Bool.or_self, Bool.not_false, if_true]
        have hx : (⟨ns⟩ : DExpr) = exT t := by unfold exT; rw [← hN]
        have hA : ref10_Ands ⟨ns⟩ = some ((andsT t).map exT) := by rw [hx]; exact ref10_Ands_eq hw hs
        rw [hA]
        simp only [Option.bind_some, sameAll_refl, Bool.not_true, Bool.or_self, Bool.false_eq_true, if_false]
        exact tells_l2 lefts _ i ih ⟨ns⟩ hr cs cs 0 rfl
theorem exprTells_true (l : List DExpr) (kinds lefts : List Int) : law10_ExprTells l kinds lefts = some true := by
  unfold law10_ExprTells
  rw [wakes_eq]
  simp only [Option.bind_some, Bool.not_true, Bool.false_eq_true, if_false]
  have h2 := cut_int_eq kinds 17 (by omega)
  rw [show ((17 : Int)) = ((17 : Nat) : Int) from rfl, h2]
  simp only [Option.bind_some]
  exact tells_l1 l lefts _ l 0 rfl
end Go.Proofs.YtdhledkpgaeoaaaGreatDoor

