/- Facts of this claim: L12, L13, L14. -/
import Derived.Test.YtbhkincjkpeaoaaWiQ1
namespace Go.Proofs.Ytbhkincjkpeaoaa
open Go

theorem k4_b {k : Int} (h : k4 k) : (decide (0 ≤ k) && decide (k ≤ 3)) = true := by simp; unfold k4 at h; omega
theorem kOK_app {a b : List Int} (ha : kOK a = true) (hb : kOK b = true) : kOK (a ++ b) = true := by unfold kOK at *; rw [List.all_append, ha, hb]; rfl
theorem kOK_one {k : Int} (h : k4 k) : kOK [k] = true := by rw [kOK_cons, k4_b h]; rfl
theorem app_is {α : Type} {xs ys zs : List α} (h : app xs ys = some zs) : zs = xs ++ ys := by
  unfold app at h
  split at h
  · injection h with h; exact h.symm
  · cases h
theorem kindP_k4 (e : DExpr) (kinds : List Int) : k4 (kindP e kinds).1 := by
  unfold kindP
  split
  · split
    · rename_i hk
      split
      · cases ht : treeOf e.Nodes with
        | none => exact .inl rfl
        | some t =>
          obtain ⟨hw, _, _⟩ := treeOf_some ht
          simp only [Option.bind_some]
          cases hd : kd kinds t with
          | none => exact .inl rfl
          | some k => exact kd_k4 (fun k => kOK_mem hk) t hw hd
      · exact .inl rfl
    · exact .inl rfl
  · exact .inl rfl
theorem agR_k4 (g : DAgg) (kinds : List Int) : k4 (agR g kinds).1 := by
  have hk := kindP_k4 g.Arg kinds
  unfold agR ref13_aggregate
  rw [ref10_Kind_eq]
  simp only [Option.bind_some]
  repeat' split
  all_goals first | exact hk | simp [k4]
theorem idx_k4 {a : List Int} {i k : Int} (ha : kOK a = true) (h : idx a i = some k) : k4 k := by
  obtain ⟨_, h2⟩ := idx_some h
  exact kOK_mem ha (List.mem_of_getElem? h2)
theorem l3_kOK (n : DLNode) (a : List Int) : ∀ (fu : Nat) (out : List Int) (ok : Bool) (i : Int) (k : List Int) (o : Bool), kOK out = true → ref13_kinds_l3 n a fu out ok i = some (k, o) → kOK k = true := by
  intro fu
  induction fu with
  | zero => intro _ _ _ _ _ _ h; cases h
  | succ fu ih =>
    intro out ok i k o ho h
    rw [ref13_kinds_l3] at h
    split at h
    · cases hx : idx n.Aggs i with
      | none => rw [hx] at h; cases h
      | some g =>
        rw [hx] at h
        simp only [Option.bind_some, ref13_aggregate_eq] at h
        cases ha : app out [(agR g a).1] with
        | none => rw [ha] at h; cases h
        | some z =>
          rw [ha] at h
          exact ih _ _ _ _ _ (by rw [app_is ha]; exact kOK_app ho (kOK_one (agR_k4 g a))) h
    · injection h with h
      injection h with h _
      rw [← h]; exact ho
theorem l2_kOK (n : DLNode) (a : List Int) (hka : kOK a = true) : ∀ (fu : Nat) (out : List Int) (i : Int) (k : List Int) (o : Bool), kOK out = true → ref13_kinds_l2 n a fu out i = some (k, o) → kOK k = true := by
  intro fu
  induction fu with
  | zero => intro _ _ _ _ _ h; cases h
  | succ fu ih =>
    intro out i k o ho h
    rw [ref13_kinds_l2] at h
    split at h
    · cases hx : idx n.Keys i with
      | none => rw [hx] at h; cases h
      | some g =>
        rw [hx] at h
        simp only [Option.bind_some] at h
        split at h
        · injection h with h; injection h with h _; rw [← h]; rfl
        · cases hy : idx a g with
          | none => rw [hy] at h; cases h
          | some y =>
            rw [hy] at h
            simp only [Option.bind_some] at h
            cases ha : app out [y] with
            | none => rw [ha] at h; cases h
            | some z =>
              rw [ha] at h
              exact ih _ _ _ _ (by rw [app_is ha]; exact kOK_app ho (kOK_one (idx_k4 hka hy))) h
    · exact l3_kOK n a _ _ _ _ _ _ ho h
theorem l4_kOK (n : DLNode) (a : List Int) : ∀ (fu : Nat) (out : List Int) (ok : Bool) (i : Int) (k : List Int) (o : Bool), kOK out = true → ref13_kinds_l4 n a fu out ok i = some (k, o) → kOK k = true := by
  intro fu
  induction fu with
  | zero => intro _ _ _ _ _ _ h; cases h
  | succ fu ih =>
    intro out ok i k o ho h
    rw [ref13_kinds_l4] at h
    split at h
    · cases hx : idx n.Items i with
      | none => rw [hx] at h; cases h
      | some g =>
        rw [hx] at h
        simp only [Option.bind_some, ref10_Kind_eq] at h
        cases ha : app out [(kindP g a).1] with
        | none => rw [ha] at h; cases h
        | some z =>
          rw [ha] at h
          exact ih _ _ _ _ _ (by rw [app_is ha]; exact kOK_app ho (kOK_one (kindP_k4 g a))) h
    · injection h with h
      injection h with h _
      rw [← h]; exact ho
theorem l6_is (n : DLNode) (a : List Int) : ∀ (fu : Nat) (ok : Bool) (i : Int) (k : List Int) (o : Bool), ref13_kinds_l6 n a fu ok i = some (k, o) → k = a := by
  intro fu
  induction fu with
  | zero => intro _ _ _ _ h; cases h
  | succ fu ih =>
    intro ok i k o h
    rw [ref13_kinds_l6] at h
    split at h
    · generalize (if ok = true then (idx n.Order i).bind fun e10 => some (decide ((0 : Int) ≤ e10.Col)) else some false) = z at h
      cases z with
      | none => cases h
      | some z =>
        simp only [Option.bind_some] at h
        generalize (if z = true then (idx n.Order i).bind fun e11 => some (decide (e11.Col < (a.length : Int))) else some false) = y at h
        cases y with
        | none => cases h
        | some y => exact ih _ _ _ _ h
    · injection h with h
      injection h with h _
      exact h.symm
theorem l1_is (n : DLNode) : ∀ (fu : Nat) (ok : Bool) (i : Int) (k : List Int) (o : Bool), ref13_kinds_l1 n fu ok i = some (k, o) → k = n.Kinds := by
  intro fu
  induction fu with
  | zero => intro _ _ _ _ h; cases h
  | succ fu ih =>
    intro ok i k o h
    rw [ref13_kinds_l1] at h
    split at h
    · generalize (if ok = true then (idx n.Kinds i).bind fun e10 => some (decide ((1 : Int) ≤ e10)) else some false) = z at h
      cases z with
      | none => cases h
      | some z =>
        simp only [Option.bind_some] at h
        generalize (if z = true then (idx n.Kinds i).bind fun e11 => some (decide (e11 ≤ (3 : Int))) else some false) = y at h
        cases y with
        | none => cases h
        | some y => exact ih _ _ _ _ h
    · injection h with h
      injection h with h _
      exact h.symm
theorem l5_is (b : List Int) : ∀ (tl : List Int) (i : Nat) (out : List Int) (ok : Bool) (k : List Int) (o : Bool), kOK tl = true → kOK b = true → kOK out = true → ref13_kinds_l5 b tl i out ok = some (k, o) → kOK k = true ∧ k.length = out.length + tl.length := by
  intro tl
  induction tl with
  | nil =>
    intro i out ok k o _ _ ho h
    rw [ref13_kinds_l5] at h
    injection h with h
    injection h with h _
    rw [← h]; exact ⟨ho, rfl⟩
  | cons x tl ih =>
    intro i out ok k o ht hb ho h
    rw [kOK_cons, Bool.and_eq_true] at ht
    have step : ∀ z : Int, k4 z → ref13_kinds_k1 b (ref13_kinds_l5 b tl) i out ok z = some (k, o) → kOK k = true ∧ k.length = out.length + (tl.length + 1) := by
      intro z hz hk
      unfold ref13_kinds_k1 at hk
      cases ha : app out [z] with
      | none => rw [ha] at hk; cases hk
      | some w =>
        rw [ha] at hk
        simp only [Option.bind_some] at hk
        generalize (if ok = true then (idx b (i : Int)).bind fun e7 => (if (!(e7 == z)) = true then (idx b (i : Int)).bind fun e8 => some (e8 == (0 : Int)) else some true).bind fun t3 => some t3 else some false) = q at hk
        cases q with
        | none => cases hk
        | some q =>
          have := ih (i + 1) w q k o ht.2 hb (by rw [app_is ha]; exact kOK_app ho (kOK_one hz)) hk
          rw [app_is ha] at this
          simp only [List.length_append, List.length_cons, List.length_nil] at this
          exact ⟨this.1, by omega⟩
    rw [ref13_kinds_l5] at h
    split at h
    · cases hx : idx b (i : Int) with
      | none => rw [hx] at h; cases h
      | some y =>
        rw [hx] at h
        exact step y (idx_k4 hb hx) h
    · exact step x (by have := ht.1; simp at this; unfold k4; omega) h
theorem kOK_kinds {n : DLNode} {a b k : List Int} (hs : SmallN n) (hop : op8 n.Op = true) (ha : kOK a = true) (hb : kOK b = true) (h : ref13_kinds n a b = some (k, true)) : kOK k = true := by
  have h0 := h
  unfold ref13_kinds at h
  rcases op8_cases hop with c | c | c | c | c | c | c | c
  · rw [if_pos (by simp [c])] at h
    rw [l1_is n _ _ _ _ _ h]
    obtain ⟨k1, o, k', g1, g2, _⟩ := scan_same default n a b hs c
    rw [h0] at g2
    injection g2 with g2
    injection g2 with _ g2
    subst g2
    unfold logic_checker_scan at g1
    split at g1
    · have hc : slices_ContainsFunc_int_int n.Kinds logic_checker_scan_1 = some (n.Kinds.any fun k => !(((k == (1 : Int)) || (k == (2 : Int))) || (k == (3 : Int)))) := ContainsFunc_int_eq (fun v => rfl) _
      rw [hc] at g1
      simp only [Option.bind_some, Bool.and_true] at g1
      injection g1 with g1
      injection g1 with _ g1
      rw [Bool.not_eq_true', List.any_eq_false] at g1
      unfold kOK
      rw [List.all_eq_true]
      intro z hz
      have := g1 z hz
      simp at this
      simp; omega
    · simp at g1
  · rw [if_neg (by simp [c]), if_pos (by simp [c])] at h
    cases h1 : app ([] : List Int) a with
    | none => rw [h1] at h; cases h
    | some l1 =>
      rw [h1] at h
      simp only [Option.bind_some] at h
      cases h2 : app l1 b with
      | none => rw [h2] at h; cases h
      | some l2 =>
        rw [h2] at h
        simp only [Option.bind_some, ref13_truth_eq] at h
        injection h with h
        injection h with h _
        rw [← h, app_is h2, app_is h1]
        exact kOK_app (kOK_app rfl ha) hb
  · rw [if_neg (by simp [c]), if_neg (by simp [c]), if_pos (by simp [c])] at h
    simp only [Option.bind_some, ref13_truth_eq] at h
    injection h with h
    injection h with h _
    rw [← h]; exact ha
  · rw [if_neg (by simp [c]), if_neg (by simp [c]), if_neg (by simp [c]), if_pos (by simp [c])] at h
    exact l2_kOK n a ha _ _ _ _ _ rfl h
  · rw [if_neg (by simp [c]), if_neg (by simp [c]), if_neg (by simp [c]), if_neg (by simp [c]), if_pos (by simp [c])] at h
    exact l4_kOK n a _ _ _ _ _ _ rfl h
  · rw [if_neg (by simp [c]), if_neg (by simp [c]), if_neg (by simp [c]), if_neg (by simp [c]), if_neg (by simp [c]), if_pos (by simp [c])] at h
    injection h with h
    injection h with h _
    rw [← h]; exact ha
  · rw [if_neg (by simp [c]), if_neg (by simp [c]), if_neg (by simp [c]), if_neg (by simp [c]), if_neg (by simp [c]), if_neg (by simp [c]), if_pos (by simp [c])] at h
    split at h
    · injection h with h; injection h with _ h; cases h
    · exact (l5_is b a 0 [] true k true ha hb rfl h).1
  · rw [if_neg (by simp [c]), if_neg (by simp [c]), if_neg (by simp [c]), if_neg (by simp [c]), if_neg (by simp [c]), if_neg (by simp [c]), if_neg (by simp [c])] at h
    rw [l6_is n a _ _ _ _ _ h]; exact ha
section
variable {l d : DLogic} {sz sz' : Nat → Nat} {ks ks' : Nat → List Int}
theorem place_cases {j : Nat} {n : DLNode} (F : NFacts l sz ks j n) : (n.A = -1 ∨ 0 ≤ n.A ∧ n.A < (j : Int)) ∧ (n.B = -1 ∨ 0 ≤ n.B ∧ n.B < (j : Int)) := by
  by_cases c1 : n.Op = 1
  · obtain ⟨a, b, _⟩ := F.lf c1
    exact ⟨.inl a, .inl b⟩
  by_cases c27 : n.Op = 2 ∨ n.Op = 7
  · obtain ⟨a, b, c, d, e⟩ := F.bi c27
    exact ⟨.inr (by omega), .inr (by omega)⟩
  · obtain ⟨a, b, c, d⟩ := F.un c1 (fun h => c27 (.inl h)) (fun h => c27 (.inr h))
    exact ⟨.inr (by omega), .inl c⟩
theorem all_kOK (hS : SmallL l) (H : AllF l sz ks) : ∀ j, j < l.Nodes.length → kOK (ks j) = true := by
  intro j
  induction j using Nat.strongRecOn with
  | ind j ih =>
    intro hj
    obtain ⟨n, F⟩ := H j hj
    have hn : SmallN n := hS n (by have := F.node; rw [idx_nat] at this; exact List.mem_of_getElem? this)
    obtain ⟨hA, hB⟩ := place_cases F
    refine kOK_kinds hn F.op ?_ ?_ F.kinds
    · split
      · rfl
      · exact ih _ (by omega) (by omega)
    · split
      · rfl
      · exact ih _ (by omega) (by omega)
theorem shI_add {e : Nat} {x : Int} (h : 0 ≤ x) (h2 : x ≤ 10000) (h3 : e ≤ 10000) : shI (e : Int) x = x + e := by
  unfold shI
  rw [if_pos h, wrapI (by omega) (by omega)]
theorem shift_facts {e j : Nat} {n : DLNode} (F : NFacts l sz ks j n) (h8 : n.Op ≠ 8) (hidx : idx d.Nodes ((e + j : Nat) : Int) = some (shN (e : Int) n)) (hj : e + j ≤ 1000) (hs : ∀ x, x ≤ j → sz' (e + x) = sz x) (hk : ∀ x, x ≤ j → ks' (e + x) = ks x) : NFacts d sz' ks' (e + j) (shN (e : Int) n) := by
  obtain ⟨hA, hB⟩ := place_cases F
  refine ⟨hidx, F.op, by rw [ownB_sh]; exact F.own, fun c1 => ?_, fun c1 c2 c7 => ?_, fun c27 => ?_, ?_, fun c8 => absurd c8 h8, by rw [hk j (Nat.le_refl _)]; exact F.len, by rw [hs j (Nat.le_refl _)]; exact F.pos, by rw [hs j (Nat.le_refl _)]; have := F.le; omega⟩
  · obtain ⟨a, b, c⟩ := F.lf c1
    exact ⟨shI_neg a, shI_neg b, by rw [hs j (Nat.le_refl _)]; exact c⟩
  · obtain ⟨a, b, c, g⟩ := F.un c1 c2 c7
    refine ⟨by omega, ?_, shI_neg c, ?_⟩
    · show shI (e : Int) n.A = _
      rw [shI_add (by omega) (by omega) (by omega)]; omega
    · rw [hs j (Nat.le_refl _), show e + j - 1 = e + (j - 1) from by omega, hs (j - 1) (by omega)]; exact g
  · obtain ⟨a, b, c, g, q⟩ := F.bi c27
    have ej : e + j - 1 = e + (j - 1) := by omega
    refine ⟨by omega, ?_, ?_, ?_, ?_⟩
    · show shI (e : Int) n.B = _
      rw [shI_add (by omega) (by omega) (by omega)]; omega
    · rw [ej, hs (j - 1) (by omega)]; omega
    · show shI (e : Int) n.A = _
      rw [ej, hs (j - 1) (by omega), shI_add (by omega) (by omega) (by omega)]; omega
    · rw [hs j (Nat.le_refl _), ej, hs (j - 1) (by omega), show e + (j - 1) - sz (j - 1) = e + (j - 1 - sz (j - 1)) from by omega, hs _ (by omega)]; exact q
  · rw [kinds_sh, hk j (Nat.le_refl _)]
    have key : ∀ x : Int, (x = -1 ∨ 0 ≤ x ∧ x < (j : Int)) → (if shI (e : Int) x < 0 then ([] : List Int) else ks' (shI (e : Int) x).toNat) = if x < 0 then [] else ks x.toNat := by
      intro x hx
      rcases hx with hx | hx
      · rw [shI_neg hx, if_pos (by decide), if_pos (by omega)]
      · rw [shI_add (by omega) (by omega) (by omega), if_neg (by omega), if_neg (by omega), show (x + (e : Int)).toNat = e + x.toNat from by omega, hk _ (by omega)]
    have h1 := F.kinds
    rw [← key n.A hA, ← key n.B hB] at h1
    exact h1
theorem uniq {e m : Nat} (H : AllF l sz ks) (H' : AllF d sz' ks') (hm : m ≤ l.Nodes.length) (hl : l.Nodes.length ≤ 200) (he : e ≤ 200) (hd : e + m ≤ d.Nodes.length) (hn : ∀ j, j < m → ∀ n, idx l.Nodes (j : Int) = some n → idx d.Nodes ((e + j : Nat) : Int) = some (shN (e : Int) n)) : ∀ j, j < m → sz' (e + j) = sz j ∧ ks' (e + j) = ks j := by
  intro j
  induction j using Nat.strongRecOn with
  | ind j ih =>
    intro hj
    obtain ⟨n, F⟩ := H j (by omega)
    obtain ⟨n', F'⟩ := H' (e + j) (by omega)
    have hnn : n' = shN (e : Int) n := by
      have h1 := hn j hj n F.node
      rw [F'.node] at h1
      injection h1
    subst hnn
    obtain ⟨hA, hB⟩ := place_cases F
    constructor
    · by_cases c1 : n.Op = 1
      · rw [(F'.lf c1).2.2, (F.lf c1).2.2]
      by_cases c27 : n.Op = 2 ∨ n.Op = 7
      · obtain ⟨a, b, c, g, q⟩ := F.bi c27
        obtain ⟨a', b', c', g', q'⟩ := F'.bi c27
        have ej : e + j - 1 = e + (j - 1) := by omega
        rw [ej, (ih (j - 1) (by omega) (by omega)).1, show e + (j - 1) - sz (j - 1) = e + (j - 1 - sz (j - 1)) from by omega, (ih (j - 1 - sz (j - 1)) (by omega) (by omega)).1] at q'
        rw [q', q]
      · obtain ⟨a, b, c, g⟩ := F.un c1 (fun h => c27 (.inl h)) (fun h => c27 (.inr h))
        obtain ⟨a', b', c', g'⟩ := F'.un c1 (fun h => c27 (.inl h)) (fun h => c27 (.inr h))
        rw [show e + j - 1 = e + (j - 1) from by omega, (ih (j - 1) (by omega) (by omega)).1] at g'
        rw [g', g]
    · have key : ∀ x : Int, (x = -1 ∨ 0 ≤ x ∧ x < (j : Int)) → (if shI (e : Int) x < 0 then ([] : List Int) else ks' (shI (e : Int) x).toNat) = if x < 0 then [] else ks x.toNat := by
        intro x hx
        rcases hx with hx | hx
        · rw [shI_neg hx, if_pos (by decide), if_pos (by omega)]
        · rw [shI_add (by omega) (by omega) (by omega), if_neg (by omega), if_neg (by omega), show (x + (e : Int)).toNat = e + x.toNat from by omega, (ih x.toNat (by omega) (by omega)).2]
      have h1 := F'.kinds
      have hA' : (shN (e : Int) n).A = shI (e : Int) n.A := rfl
      have hB' : (shN (e : Int) n).B = shI (e : Int) n.B := rfl
      rw [kinds_sh, hA', hB', key n.A hA, key n.B hB, F.kinds] at h1
      injection h1 with h1
      injection h1 with h1 _
      exact h1.symm
end
theorem Kinds_no {l : DLogic} (hS : SmallL l) (h : rightL l = false) : logic_Kinds l = some ([], 230) := by
  obtain ⟨_, _, ob, j, r3, _⟩ := right_eq hS
  unfold logic_Kinds
  rw [r3, h]
  rfl
structure Known (l : DLogic) (sz : Nat → Nat) (ks : Nat → List Int) : Prop where
  pos : 1 ≤ l.Nodes.length
  le : l.Nodes.length ≤ 60
  all : AllF l sz ks
  whole : sz (l.Nodes.length - 1) = l.Nodes.length
  kinds : logic_Kinds l = some (ks (l.Nodes.length - 1), 0)
theorem known_of {l : DLogic} (hS : SmallL l) (h : rightL l = true) : ∃ sz ks, Known l sz ks := by
  obtain ⟨_, _, ob, j, r3, r4⟩ := right_eq hS
  obtain ⟨hL, hj⟩ := r4 h
  have hle := hL.le
  have hpos := hL.pos
  obtain ⟨N0, _⟩ := hL.inv.at (j := l.Nodes.length - 1) (by omega)
  refine ⟨szF ob.first, ksF ob.kinds, hpos, hle, fun j hj => facts_of hL.inv hle hj, ?_, ?_⟩
  · have e1 := N0.size FUEL (fuel_len (by omega))
    have e2 := hL.whole
    unfold ref13_Size at e2
    rw [show (l.Nodes.length : Int) - 1 = ((l.Nodes.length - 1 : Nat) : Int) from by omega, e1] at e2
    injection e2 with e2
    omega
  · unfold logic_Kinds
    rw [r3, h]
    simp only [Option.bind_some, Bool.not_true, Bool.false_eq_true, if_false]
    have hk : idx ob.kinds j = some (ksF ob.kinds (l.Nodes.length - 1)) := by
      rw [hj, show (l.Nodes.length : Int) - 1 = ((l.Nodes.length - 1 : Nat) : Int) from by omega, idx_nat]
      unfold ksF
      rw [List.getElem?_eq_getElem (by rw [hL.inv.kl]; omega)]; rfl
    rw [hk]
    simp only [Option.bind_some]
    rw [Clone_int_eq _ (by have := N0.len; omega)]
    rfl
theorem known_kinds {l : DLogic} {sz sz' : Nat → Nat} {ks ks' : Nat → List Int} (hS : SmallL l) (K : Known l sz ks) (H : AllF l sz' ks') : ks' (l.Nodes.length - 1) = ks (l.Nodes.length - 1) ∧ sz' (l.Nodes.length - 1) = l.Nodes.length := by
  have hle := K.le
  have hpos := K.pos
  have := uniq (l := l) (d := l) (e := 0) (m := l.Nodes.length) K.all H (Nat.le_refl _) (by omega) (by omega) (by omega) (fun j hj n hn => by
    obtain ⟨n', F⟩ := K.all j hj
    have e : n' = n := by have := F.node; rw [hn] at this; injection this with this; exact this.symm
    subst e
    obtain ⟨hA, hB⟩ := place_cases F
    rw [Nat.zero_add, hn]
    have hz := shN_zero (n := n') (by omega) (by omega)
    rw [show ((0 : Nat) : Int) = 0 from rfl, hz]) (l.Nodes.length - 1) (by omega)
  simp only [Nat.zero_add] at this
  exact ⟨this.2, by rw [this.1]; exact K.whole⟩
end Go.Proofs.Ytbhkincjkpeaoaa

namespace Go.Proofs.Ytbhkincjkpeaoaa
open Go

def atN (x y : Int) (n : DLNode) : DLNode := { n with A := x, B := y }
theorem kinds_l1_at (n : DLNode) (x y : Int) : ∀ (fu : Nat) (ok : Bool) (i : Int), ref13_kinds_l1 (atN x y n) fu ok i = ref13_kinds_l1 n fu ok i := by
  intro fu
  induction fu with
  | zero => intros; rfl
  | succ fu ih => intros; simp only [ref13_kinds_l1, ih]; rfl
theorem kinds_l3_at (n : DLNode) (x y : Int) (a : List Int) : ∀ (fu : Nat) (out : List Int) (ok : Bool) (i : Int), ref13_kinds_l3 (atN x y n) a fu out ok i = ref13_kinds_l3 n a fu out ok i := by
  intro fu
  induction fu with
  | zero => intros; rfl
  | succ fu ih => intros; simp only [ref13_kinds_l3, ih]; rfl
theorem kinds_l2_at (n : DLNode) (x y : Int) (a : List Int) : ∀ (fu : Nat) (out : List Int) (i : Int), ref13_kinds_l2 (atN x y n) a fu out i = ref13_kinds_l2 n a fu out i := by
  intro fu
  induction fu with
  | zero => intros; rfl
  | succ fu ih => intros; simp only [ref13_kinds_l2, ih, kinds_l3_at]; rfl
theorem kinds_l4_at (n : DLNode) (x y : Int) (a : List Int) : ∀ (fu : Nat) (out : List Int) (ok : Bool) (i : Int), ref13_kinds_l4 (atN x y n) a fu out ok i = ref13_kinds_l4 n a fu out ok i := by
  intro fu
  induction fu with
  | zero => intros; rfl
  | succ fu ih => intros; simp only [ref13_kinds_l4, ih]; rfl
theorem kinds_l6_at (n : DLNode) (x y : Int) (a : List Int) : ∀ (fu : Nat) (ok : Bool) (i : Int), ref13_kinds_l6 (atN x y n) a fu ok i = ref13_kinds_l6 n a fu ok i := by
  intro fu
  induction fu with
  | zero => intros; rfl
  | succ fu ih => intros; simp only [ref13_kinds_l6, ih]; rfl
theorem kinds_at (n : DLNode) (x y : Int) (a b : List Int) : ref13_kinds (atN x y n) a b = ref13_kinds n a b := by
  unfold ref13_kinds
  simp only [kinds_l1_at, kinds_l2_at, kinds_l4_at, kinds_l6_at]
  rfl
theorem ownB_at (n : DLNode) (x y : Int) : ownB (atN x y n) = ownB n := rfl
def d1 (n : DLNode) (a : DLogic) : DLogic := ⟨a.Nodes ++ [atN ((a.Nodes.length : Int) - 1) (-1) n]⟩
def d2 (n : DLNode) (a b : DLogic) : DLogic := ⟨(a.Nodes ++ b.Nodes.map (shN (a.Nodes.length : Int))) ++ [atN ((a.Nodes.length : Int) - 1) ((a.Nodes.length : Int) + (b.Nodes.length : Int) - 1) n]⟩
theorem d1_len (n : DLNode) (a : DLogic) : (d1 n a).Nodes.length = a.Nodes.length + 1 := by simp [d1]
theorem d2_len (n : DLNode) (a b : DLogic) : (d2 n a b).Nodes.length = a.Nodes.length + b.Nodes.length + 1 := by simp [d2]; omega
theorem d1_small {n : DLNode} {a : DLogic} (hn : SmallN n) (ha : SmallL a) : SmallL (d1 n a) := by
  intro m hm
  rcases List.mem_append.1 hm with h | h
  · exact ha m h
  · rw [List.mem_singleton.1 h]; exact hn.at _ _
theorem d2_small {n : DLNode} {a b : DLogic} (hn : SmallN n) (ha : SmallL a) (hb : SmallL b) : SmallL (d2 n a b) := by
  intro m hm
  rcases List.mem_append.1 hm with h | h
  · rcases List.mem_append.1 h with h | h
    · exact ha m h
    · exact mem_shN hb m h
  · rw [List.mem_singleton.1 h]; exact hn.at _ _
theorem laid_final {n : DLNode} {x out : DLogic} (hn : SmallN n) (hA : n.A ≤ 100000) (hB : n.B ≤ 100000) (ho : SmallL out) (hl : out.Nodes.length ≤ 4000) (i : Nat) : logic_laid_l1 [] i n x out = some (if rightL ⟨out.Nodes ++ [n]⟩ then (⟨out.Nodes ++ [n]⟩, 0) else (⟨[]⟩, 230)) := by
  unfold logic_laid_l1
  rw [logic_copied_eq hn, shN_zero hA hB]
  simp only [Option.bind_some]
  rw [app_ok (by simp; omega)]
  simp only [Option.bind_some]
  have hs : SmallL (⟨out.Nodes ++ [n]⟩ : DLogic) := by
    intro m hm
    rcases List.mem_append.1 hm with h | h
    · exact ho m h
    · rw [List.mem_singleton.1 h]; exact hn
  obtain ⟨_, ⟨j, h2⟩, _⟩ := right_eq hs
  have h2' : logic_Check ({ out with Nodes := out.Nodes ++ [n] } : DLogic) = _ := h2
  rw [h2']
  cases hr : rightL (⟨out.Nodes ++ [n]⟩ : DLogic) <;> simp
theorem laid_not {n : DLNode} {x out a : DLogic} (ha : SmallL a) (hr : rightL a = false) (parts : List DLogic) (i : Nat) : logic_laid_l1 (a :: parts) i n x out = some (⟨[]⟩, 230) := by
  unfold logic_laid_l1
  obtain ⟨_, ⟨j, h2⟩, _⟩ := right_eq ha
  rw [h2, hr]
  rfl
theorem map_sh0 {a : DLogic} {sz : Nat → Nat} {ks : Nat → List Int} (K : Known a sz ks) : a.Nodes.map (shN ((([] : List DLNode).length : Nat) : Int)) = a.Nodes := by
  conv => rhs; rw [← List.map_id a.Nodes]
  refine List.map_congr_left fun m hm => ?_
  obtain ⟨j, hj, rfl⟩ := List.mem_iff_getElem.1 hm
  obtain ⟨n, F⟩ := K.all j hj
  have hn := F.node
  rw [idx_nat, List.getElem?_eq_getElem hj] at hn
  injection hn with hn
  rw [hn]
  obtain ⟨hA, hB⟩ := place_cases F
  have hle := K.le
  exact shN_zero (by omega) (by omega)
theorem laid_two {n : DLNode} {a b : DLogic} (hn : SmallN n) (ha : SmallL a) (hb : SmallL b) (hra : rightL a = true) (hrb : rightL b = true) : logic_laid n [a, b] = some (if rightL (d2 n a b) then (d2 n a b, 0) else (⟨[]⟩, 230)) := by
  obtain ⟨sza, ksa, Ka⟩ := known_of ha hra
  obtain ⟨szb, ksb, Kb⟩ := known_of hb hrb
  have la := Ka.le
  have lb := Kb.le
  have pa := Ka.pos
  have pb := Kb.pos
  unfold logic_laid
  rw [laid_next ha hra (by omega) (by simp), if_pos (by simp), map_sh0 Ka]
  simp only [List.nil_append]
  rw [laid_next hb hrb (by omega) (by simp; omega), if_neg (by decide)]
  rw [wrapI (n := (a.Nodes.length : Int) - 1) (by omega) (by omega), wrapI (by simp; omega) (by simp; omega)]
  rw [laid_final]
  · have e : (a.Nodes ++ b.Nodes.map (shN (a.Nodes.length : Int))) ++ [DLNode.mk n.Op ((a.Nodes.length : Int) - 1) (((a.Nodes ++ b.Nodes.map (shN (a.Nodes.length : Int))).length : Int) - 1) n.Table n.Kinds n.Left n.Cond n.Keys n.Aggs n.Items n.Order n.Limit] = (d2 n a b).Nodes := by
      unfold d2 atN
      simp only [List.length_append, List.length_map, Int.natCast_add]
    simp only [e]
  · exact hn.at _ _
  · show (a.Nodes.length : Int) - 1 ≤ _
    omega
  · show ((a.Nodes ++ b.Nodes.map (shN (a.Nodes.length : Int))).length : Int) - 1 ≤ _
    simp; omega
  · intro m hm
    rcases List.mem_append.1 hm with h | h
    · exact ha m h
    · exact mem_shN hb m h
  · simp; omega
theorem laid_two_no {n : DLNode} {a b : DLogic} (ha : SmallL a) (hb : SmallL b) (h : rightL a = false ∨ rightL b = false) : logic_laid n [a, b] = some (⟨[]⟩, 230) := by
  unfold logic_laid
  cases hra : rightL a with
  | false => rw [laid_not ha hra]
  | true =>
    have hrb : rightL b = false := by rcases h with h | h; rw [hra] at h; cases h; exact h
    obtain ⟨sza, ksa, Ka⟩ := known_of ha hra
    have la := Ka.le
    rw [laid_next ha hra (by omega) (by simp), if_pos (by simp), laid_not hb hrb]
theorem laid_one {n : DLNode} {a : DLogic} (hn : SmallN n) (ha : SmallL a) (hra : rightL a = true) : logic_laid n [a] = some (if rightL (d1 n a) then (d1 n a, 0) else (⟨[]⟩, 230)) := by
  obtain ⟨sza, ksa, Ka⟩ := known_of ha hra
  have la := Ka.le
  have pa := Ka.pos
  unfold logic_laid
  rw [laid_next ha hra (by omega) (by simp), if_pos (by simp), map_sh0 Ka]
  simp only [List.nil_append]
  rw [wrapI (n := (a.Nodes.length : Int) - 1) (by omega) (by omega)]
  rw [laid_final]
  · rfl
  · exact hn.at _ _
  · show (a.Nodes.length : Int) - 1 ≤ _
    omega
  · show (-1 : Int) ≤ _
    omega
  · exact ha
  · show a.Nodes.length ≤ _
    omega
theorem d2_a {n : DLNode} {a b : DLogic} {j : Nat} (hj : j < a.Nodes.length) : idx (d2 n a b).Nodes (j : Int) = idx a.Nodes (j : Int) := by
  rw [idx_nat, idx_nat]
  unfold d2
  simp only
  rw [List.getElem?_append_left (by simp; omega), List.getElem?_append_left hj]
theorem d2_b {n : DLNode} {a b : DLogic} {j : Nat} {m : DLNode} (hj : j < b.Nodes.length) (h : idx b.Nodes (j : Int) = some m) : idx (d2 n a b).Nodes ((a.Nodes.length + j : Nat) : Int) = some (shN (a.Nodes.length : Int) m) := by
  rw [idx_nat] at h ⊢
  unfold d2
  simp only
  rw [List.getElem?_append_left (by simp; omega), List.getElem?_append_right (by omega), show a.Nodes.length + j - a.Nodes.length = j from by omega, List.getElem?_map, h]
  rfl
theorem d2_r {n : DLNode} {a b : DLogic} : idx (d2 n a b).Nodes ((a.Nodes.length + b.Nodes.length : Nat) : Int) = some (atN ((a.Nodes.length : Int) - 1) ((a.Nodes.length : Int) + (b.Nodes.length : Int) - 1) n) := by
  rw [idx_nat]
  unfold d2
  simp only
  rw [List.getElem?_append_right (by simp), show a.Nodes.length + b.Nodes.length - (a.Nodes ++ b.Nodes.map (shN (a.Nodes.length : Int))).length = 0 from by simp]
  rfl
theorem d1_a {n : DLNode} {a : DLogic} {j : Nat} (hj : j < a.Nodes.length) : idx (d1 n a).Nodes (j : Int) = idx a.Nodes (j : Int) := by
  rw [idx_nat, idx_nat]
  unfold d1
  simp only
  rw [List.getElem?_append_left hj]
theorem d1_r {n : DLNode} {a : DLogic} : idx (d1 n a).Nodes (a.Nodes.length : Int) = some (atN ((a.Nodes.length : Int) - 1) (-1) n) := by
  rw [idx_nat]
  unfold d1
  simp only
  rw [List.getElem?_append_right (Nat.le_refl _), Nat.sub_self]
  rfl
theorem known_sh0 {a : DLogic} {sz : Nat → Nat} {ks : Nat → List Int} (K : Known a sz ks) {j : Nat} {n : DLNode} (F : NFacts a sz ks j n) (hj : j < a.Nodes.length) : shN ((0 : Nat) : Int) n = n := by
  obtain ⟨hA, hB⟩ := place_cases F
  have hle := K.le
  exact shN_zero (by omega) (by omega)
theorem root2 {n : DLNode} {a b : DLogic} {sza szb szd : Nat → Nat} {ksa ksb ksd : Nat → List Int} (Ka : Known a sza ksa) (Kb : Known b szb ksb) (Kd : Known (d2 n a b) szd ksd) : ref13_kinds n (ksa (a.Nodes.length - 1)) (ksb (b.Nodes.length - 1)) = some (ksd (a.Nodes.length + b.Nodes.length), true) := by
  have la := Ka.le
  have lb := Kb.le
  have pa := Ka.pos
  have pb := Kb.pos
  have hlen := d2_len n a b
  have ld := Kd.le
  have ua := uniq (l := a) (d := d2 n a b) (e := 0) (m := a.Nodes.length) Ka.all Kd.all (Nat.le_refl _) (by omega) (by omega) (by omega) (fun j hj m hm => by
    obtain ⟨m', F⟩ := Ka.all j hj
    have e : m' = m := by have := F.node; rw [hm] at this; injection this with this; exact this.symm
    subst e
    rw [Nat.zero_add, d2_a hj, hm, known_sh0 Ka F hj]) (a.Nodes.length - 1) (by omega)
  have ub := uniq (l := b) (d := d2 n a b) (e := a.Nodes.length) (m := b.Nodes.length) Kb.all Kd.all (Nat.le_refl _) (by omega) (by omega) (by omega) (fun j hj m hm => d2_b hj hm) (b.Nodes.length - 1) (by omega)
  obtain ⟨r, F⟩ := Kd.all (a.Nodes.length + b.Nodes.length) (by omega)
  have hr : r = atN ((a.Nodes.length : Int) - 1) ((a.Nodes.length : Int) + (b.Nodes.length : Int) - 1) n := by
    have := F.node
    rw [d2_r] at this
    injection this with this
    exact this.symm
  subst hr
  have h := F.kinds
  rw [kinds_at] at h
  have eA : (atN ((a.Nodes.length : Int) - 1) ((a.Nodes.length : Int) + (b.Nodes.length : Int) - 1) n).A = (a.Nodes.length : Int) - 1 := rfl
  have eB : (atN ((a.Nodes.length : Int) - 1) ((a.Nodes.length : Int) + (b.Nodes.length : Int) - 1) n).B = (a.Nodes.length : Int) + (b.Nodes.length : Int) - 1 := rfl
  rw [eA, eB, if_neg (by omega), if_neg (by omega)] at h
  rw [show ((a.Nodes.length : Int) - 1).toNat = 0 + (a.Nodes.length - 1) from by omega, ua.2, show ((a.Nodes.length : Int) + (b.Nodes.length : Int) - 1).toNat = a.Nodes.length + (b.Nodes.length - 1) from by omega, ub.2] at h
  exact h
theorem not8 {a : DLogic} {sz : Nat → Nat} {ks : Nat → List Int} (K : Known a sz ks) {r : DLNode} (hr : idx a.Nodes ((a.Nodes.length - 1 : Nat) : Int) = some r) (h8 : r.Op ≠ 8) {j : Nat} {n : DLNode} (F : NFacts a sz ks j n) : n.Op ≠ 8 := by
  intro h
  have hl := F.last h
  have hn := F.node
  rw [show j = a.Nodes.length - 1 from by omega, hr] at hn
  injection hn with hn
  rw [hn] at h8
  exact h8 h
theorem comb1 {n : DLNode} {a : DLogic} {sza : Nat → Nat} {ksa : Nat → List Int} (Ka : Known a sza ksa) {ra : DLNode} (hra : idx a.Nodes ((a.Nodes.length - 1 : Nat) : Int) = some ra) (ha8 : ra.Op ≠ 8) (hop : op8 n.Op = true) (h1 : n.Op ≠ 1) (h2 : n.Op ≠ 2) (h7 : n.Op ≠ 7) (ho : ownB n = true) {k : List Int} (hk : ref13_kinds n (ksa (a.Nodes.length - 1)) [] = some (k, true)) (hkl : k.length ≤ 16) (hlen : a.Nodes.length + 1 ≤ 60) : rightL (d1 n a) = true ∧ ∃ sz ks, AllF (d1 n a) sz ks ∧ ks a.Nodes.length = k := by
  have pa := Ka.pos
  obtain ⟨la, hla⟩ : ∃ la, la = a.Nodes.length := ⟨_, rfl⟩
  have hdl := d1_len n a
  obtain ⟨sz, hsz⟩ : ∃ sz : Nat → Nat, sz = fun j => if j < la then sza j else la + 1 := ⟨_, rfl⟩
  obtain ⟨ks, hks⟩ : ∃ ks : Nat → List Int, ks = fun j => if j < la then ksa j else k := ⟨_, rfl⟩
  have s1 : ∀ x, x < la → sz x = sza x ∧ ks x = ksa x := fun x hx => by rw [hsz, hks]; simp [hx]
  have s3 : sz la = la + 1 ∧ ks la = k := by
    rw [hsz, hks]
    simp
  rw [← hla] at hdl hlen
  have wa := Ka.whole
  rw [← hla] at wa hra hk pa
  have H : AllF (d1 n a) sz ks := by
    intro j hj
    rw [hdl] at hj
    by_cases c1 : j < la
    · obtain ⟨m, F⟩ := Ka.all j (by omega)
      have hm8 : m.Op ≠ 8 := not8 Ka (r := ra) (by rw [← hla]; exact hra) ha8 F
      have hidx : idx (d1 n a).Nodes ((0 + j : Nat) : Int) = some (shN ((0 : Nat) : Int) m) := by
        rw [Nat.zero_add, d1_a (by omega), F.node, known_sh0 Ka F (by omega)]
      have G := shift_facts (d := d1 n a) (sz' := sz) (ks' := ks) (e := 0) F hm8 hidx (by omega) (fun x hx => by rw [Nat.zero_add]; exact (s1 x (by omega)).1) (fun x hx => by rw [Nat.zero_add]; exact (s1 x (by omega)).2)
      rw [Nat.zero_add] at G
      exact ⟨_, G⟩
    · have hje : j = la := by omega
      subst hje
      have eA : (atN ((j : Int) - 1) (-1) n).A = (j : Int) - 1 := rfl
      have eB : (atN ((j : Int) - 1) (-1) n).B = -1 := rfl
      have b2 := s1 (j - 1) (by omega)
      refine ⟨atN ((j : Int) - 1) (-1) n, ⟨by rw [hla]; exact d1_r, hop, by rw [ownB_at]; exact ho, fun c => absurd c h1, fun _ _ _ => ?_, fun c => ?_, ?_, fun c => by rw [hdl], by rw [s3.2]; exact hkl, by rw [s3.1]; omega, by rw [s3.1]; omega⟩⟩
      · refine ⟨by omega, eA, eB, ?_⟩
        rw [s3.1, b2.1, wa]
      · rcases c with c | c
        · exact absurd c h2
        · exact absurd c h7
      · rw [kinds_at, eA, eB, if_neg (by omega), if_pos (by omega), show ((j : Int) - 1).toNat = j - 1 from by omega, b2.2, s3.2]
        exact hk
  exact ⟨facts_right (by omega) (by omega) H (by rw [hdl, show la + 1 - 1 = la from by omega, s3.1]), sz, ks, H, by rw [← hla]; exact s3.2⟩
theorem right_le {l : DLogic} (hS : SmallL l) (h : rightL l = true) : l.Nodes.length ≤ 60 := by
  obtain ⟨sz, ks, K⟩ := known_of hS h
  exact K.le
theorem sorted1 {n : DLNode} {a : DLogic} (hS : SmallL (d1 n a)) {ra : DLNode} (pa : 1 ≤ a.Nodes.length) (hra : idx a.Nodes ((a.Nodes.length - 1 : Nat) : Int) = some ra) (h8 : ra.Op = 8) : rightL (d1 n a) = false := by
  cases hr : rightL (d1 n a) with
  | false => rfl
  | true =>
    exfalso
    obtain ⟨sz, ks, K⟩ := known_of hS hr
    have hdl := d1_len n a
    obtain ⟨m, F⟩ := K.all (a.Nodes.length - 1) (by omega)
    have hm := F.node
    rw [d1_a (by omega), hra] at hm
    injection hm with hm
    subst hm
    have := F.last h8
    omega
end Go.Proofs.Ytbhkincjkpeaoaa

namespace Go.Proofs.Ytbhkincjkpeaoaa
open Go

def yesE : DExpr := ⟨[⟨(1 : Int), (-1 : Int), (-1 : Int), (0 : Int), ⟨(1 : Int), (1 : Int), (0 : Int), []⟩⟩]⟩
theorem yes_eq : law13_yes = some yesE := rfl
theorem yes_tree : treeOf yesE.Nodes = some (.lf ⟨(1 : Int), (-1 : Int), (-1 : Int), (0 : Int), ⟨(1 : Int), (1 : Int), (0 : Int), []⟩⟩) := by kernel_rfl
theorem yes_true {kinds : List Int} (h : kOK kinds = true) : truB yesE kinds = true := by
  have hr : rightE yesE.Nodes = true := by unfold rightE; rw [yes_tree]; rfl
  have hk : kindP yesE kinds = (1, 0) := by
    unfold kindP
    rw [hr, h, yes_tree]
    rfl
  unfold truB
  rw [hk]
  rfl
theorem width_no {l : DLogic} (hS : SmallL l) (h : rightL l = false) : law13_LogicWidths_1 l = some (-1) := by
  unfold law13_LogicWidths_1
  rw [Kinds_no hS h]
  rfl
theorem width_is {l : DLogic} {sz : Nat → Nat} {ks : Nat → List Int} (K : Known l sz ks) : law13_LogicWidths_1 l = some ((ks (l.Nodes.length - 1)).length : Int) := by
  unfold law13_LogicWidths_1
  rw [K.kinds]
  rfl
theorem known_len {l : DLogic} {sz : Nat → Nat} {ks : Nat → List Int} (K : Known l sz ks) : (ks (l.Nodes.length - 1)).length ≤ 16 := by
  have := K.pos
  obtain ⟨n, F⟩ := K.all (l.Nodes.length - 1) (by omega)
  exact F.len
theorem known_kOK {l : DLogic} (hS : SmallL l) {sz : Nat → Nat} {ks : Nat → List Int} (K : Known l sz ks) : kOK (ks (l.Nodes.length - 1)) = true := by
  have := K.pos
  exact all_kOK hS K.all _ (by omega)
theorem join_len {n : DLNode} (hop : n.Op = 2) {a b k : List Int} (h : ref13_kinds n a b = some (k, true)) : k.length = a.length + b.length := by
  unfold ref13_kinds at h
  rw [if_neg (by simp [hop]), if_pos (by simp [hop])] at h
  cases h1 : app ([] : List Int) a with
  | none => rw [h1] at h; cases h
  | some l1 =>
    rw [h1] at h
    simp only [Option.bind_some] at h
    cases h2 : app l1 b with
    | none => rw [h2] at h; cases h
    | some l2 =>
      rw [h2] at h
      simp only [Option.bind_some, ref13_truth_eq] at h
      injection h with h
      injection h with h _
      rw [← h, app_is h2, app_is h1]
      simp
theorem union_len {n : DLNode} (hop : n.Op = 7) {a b k : List Int} (ha : kOK a = true) (hb : kOK b = true) (h : ref13_kinds n a b = some (k, true)) : a.length = b.length ∧ k.length = a.length := by
  unfold ref13_kinds at h
  rw [if_neg (by simp [hop]), if_neg (by simp [hop]), if_neg (by simp [hop]), if_neg (by simp [hop]), if_neg (by simp [hop]), if_neg (by simp [hop]), if_pos (by simp [hop])] at h
  split at h
  · injection h with h; injection h with _ h; cases h
  · rename_i hl
    have := (l5_is b a 0 [] true k true ha hb rfl h).2
    simp at hl this
    exact ⟨by omega, this⟩
theorem one_known {n : DLNode} {a : DLogic} (hn : SmallN n) (ha : SmallL a) {sza : Nat → Nat} {ksa : Nat → List Int} (Ka : Known a sza ksa) (hra' : rightL a = true) {ra : DLNode} (hra : idx a.Nodes ((a.Nodes.length - 1 : Nat) : Int) = some ra) (ha8 : ra.Op ≠ 8) (hop : op8 n.Op = true) (h1 : n.Op ≠ 1) (h2 : n.Op ≠ 2) (h7 : n.Op ≠ 7) (ho : ownB n = true) (hk : ref13_kinds n (ksa (a.Nodes.length - 1)) [] = some (ksa (a.Nodes.length - 1), true)) (hlen : a.Nodes.length + 1 ≤ 60) :
    ∃ d, logic_laid n [a] = some (d, 0) ∧ law13_LogicWidths_1 d = some ((ksa (a.Nodes.length - 1)).length : Int) := by
  obtain ⟨hr, sz, ks, H, hks⟩ := comb1 Ka hra ha8 hop h1 h2 h7 ho hk (known_len Ka) hlen
  refine ⟨d1 n a, ?_, ?_⟩
  · rw [laid_one hn ha hra', hr]; rfl
  · obtain ⟨szd, ksd, Kd⟩ := known_of (d1_small hn ha) hr
    rw [width_is Kd]
    have := (known_kinds (d1_small hn ha) Kd H).1
    rw [d1_len, Nat.add_sub_cancel, hks] at this
    rw [d1_len, Nat.add_sub_cancel, ← this]
def nJoin (left : Bool) : DLNode := ⟨(2 : Int), (0 : Int), (0 : Int), (0 : Int), [], left, yesE, [], [], [], [], (0 : Int)⟩
def nUnion : DLNode := ⟨(7 : Int), (0 : Int), (0 : Int), (0 : Int), [], false, ⟨[]⟩, [], [], [], [], (0 : Int)⟩
def nFilter : DLNode := ⟨(3 : Int), (0 : Int), (0 : Int), (0 : Int), [], false, yesE, [], [], [], [], (0 : Int)⟩
def nDistinct : DLNode := ⟨(6 : Int), (0 : Int), (0 : Int), (0 : Int), [], false, ⟨[]⟩, [], [], [], [], (0 : Int)⟩
def nSort : DLNode := ⟨(8 : Int), (0 : Int), (0 : Int), (0 : Int), [], false, ⟨[]⟩, [], [], [], [], (-1 : Int)⟩
theorem small_simple (op lim : Int) (left : Bool) (e : DExpr) (he : e.Nodes.length ≤ 10) : SmallN ⟨op, 0, 0, 0, [], left, e, [], [], [], [], lim⟩ :=
  ⟨by show e.Nodes.length ≤ 5000; omega, by simp, by simp, by simp, by simp, by simp, by simp, by simp⟩
theorem filter_kinds {k : List Int} (h : kOK k = true) : ref13_kinds nFilter k [] = some (k, true) := by
  unfold ref13_kinds
  rw [if_neg (by decide), if_neg (by decide), if_pos (by decide), ref13_truth_eq]
  have : truB nFilter.Cond k = true := yes_true h
  rw [this]; rfl
theorem distinct_kinds (k : List Int) : ref13_kinds nDistinct k [] = some (k, true) := by
  unfold ref13_kinds
  rw [if_neg (by decide), if_neg (by decide), if_neg (by decide), if_neg (by decide), if_neg (by decide), if_pos (by decide)]
theorem sort_kinds (k : List Int) : ref13_kinds nSort k [] = some (k, true) := by
  unfold ref13_kinds
  rw [if_neg (by decide), if_neg (by decide), if_neg (by decide), if_neg (by decide), if_neg (by decide), if_neg (by decide), if_neg (by decide)]
  have : ∀ fu, ref13_kinds_l6 nSort k (fu + 1) true 0 = some (k, true) := by
    intro fu
    rw [ref13_kinds_l6, if_neg (by decide)]
    rfl
  have e : FUEL = (FUEL - 1) + 1 := by have := fuel_ge (n := 5) (by omega); omega
  rw [e]; exact this _
theorem logicWidths_true (a b : DLogic) (n : DLNode) : law13_LogicWidths a b n = some true := by
  unfold law13_LogicWidths
  rw [wakes_true]
  simp only [Option.bind_some, Bool.not_true, Bool.false_eq_true, if_false]
  obtain ⟨o1, h1, g1⟩ := over_le a
  obtain ⟨o2, h2, g2⟩ := over_le b
  obtain ⟨o3, h3, g3⟩ := overNode_le n
  rw [h1]
  simp only [Option.bind_some]
  cases o1 with
  | true => rfl
  | false =>
    simp only [Bool.not_false, if_true]
    rw [h2]
    simp only [Option.bind_some]
    cases o2 with
    | true => rfl
    | false =>
      simp only [Bool.not_false, if_true]
      rw [h3]
      simp only [Option.bind_some]
      cases o3 with
      | true => rfl
      | false =>
        simp only [Bool.false_eq_true, if_false]
        obtain ⟨la, ha⟩ := g1 rfl
        obtain ⟨lb, hb⟩ := g2 rfl
        rw [yes_eq]
        simp only [Option.bind_some]
        unfold logic_Two logic_One
        have hJ : SmallN (nJoin n.Left) := small_simple 2 0 n.Left yesE (by decide)
        have hU : SmallN nUnion := small_simple 7 0 false ⟨[]⟩ (by decide)
        have hF : SmallN nFilter := small_simple 3 0 false yesE (by decide)
        have hD : SmallN nDistinct := small_simple 6 0 false ⟨[]⟩ (by decide)
        have hSo : SmallN nSort := small_simple 8 (-1) false ⟨[]⟩ (by decide)
        have eJ : (⟨(2 : Int), (0 : Int), (0 : Int), (0 : Int), [], n.Left, yesE, [], [], [], [], (0 : Int)⟩ : DLNode) = nJoin n.Left := rfl
        have eU : (⟨(7 : Int), (0 : Int), (0 : Int), (0 : Int), [], false, (⟨[]⟩ : DExpr), [], [], [], [], (0 : Int)⟩ : DLNode) = nUnion := rfl
        have eF : (⟨(3 : Int), (0 : Int), (0 : Int), (0 : Int), [], false, yesE, [], [], [], [], (0 : Int)⟩ : DLNode) = nFilter := rfl
        have eD : (⟨(6 : Int), (0 : Int), (0 : Int), (0 : Int), [], false, (⟨[]⟩ : DExpr), [], [], [], [], (0 : Int)⟩ : DLNode) = nDistinct := rfl
        have eS : (⟨(8 : Int), (0 : Int), (0 : Int), (0 : Int), [], false, (⟨[]⟩ : DExpr), [], [], [], [], (-1 : Int)⟩ : DLNode) = nSort := rfl
        rw [eJ, eU, eF, eD, eS]
        -- the joins and unions
        have key : ∃ p q rJ rU, law13_LogicWidths_1 a = some p ∧ law13_LogicWidths_1 b = some q ∧ logic_laid (nJoin n.Left) [a, b] = some rJ ∧ logic_laid nUnion [a, b] = some rU ∧ (if (rJ.2 == (0 : Int)) then ((if (!((decide (p < (0 : Int))) || (decide (q < (0 : Int))))) then ((law13_LogicWidths_1 rJ.1).bind fun r8 => some (r8 != (IntKind.i64.wrap (p + q)))) else some true).bind fun t3 => some t3) else some false) = some false ∧ (if (rU.2 == (0 : Int)) then ((if (!(p != q)) then ((law13_LogicWidths_1 rU.1).bind fun r10 => some (r10 != p)) else some true).bind fun t5 => some t5) else some false) = some false := by
          by_cases hab : rightL a = true ∧ rightL b = true
          · obtain ⟨sza, ksa, Ka⟩ := known_of ha hab.1
            obtain ⟨szb, ksb, Kb⟩ := known_of hb hab.2
            refine ⟨_, _, _, _, width_is Ka, width_is Kb, laid_two hJ ha hb hab.1 hab.2, laid_two hU ha hb hab.1 hab.2, ?_, ?_⟩
            · cases hr : rightL (d2 (nJoin n.Left) a b) with
              | false => rfl
              | true =>
                obtain ⟨szd, ksd, Kd⟩ := known_of (d2_small hJ ha hb) hr
                have hk := join_len rfl (root2 Ka Kb Kd)
                have ll := known_len Ka
                have lq := known_len Kb
                simp only [if_true]
                rw [if_pos (by decide), if_pos (by simp), width_is Kd, d2_len, Nat.add_sub_cancel, hk]
                simp only [Option.bind_some]
                rw [wrapI (by omega) (by omega)]
                simp
            · cases hr : rightL (d2 nUnion a b) with
              | false => rfl
              | true =>
                obtain ⟨szd, ksd, Kd⟩ := known_of (d2_small hU ha hb) hr
                obtain ⟨hk1, hk2⟩ := union_len rfl (known_kOK ha Ka) (known_kOK hb Kb) (root2 Ka Kb Kd)
                simp only [if_true]
                rw [if_pos (by decide), if_pos (by simp; omega), width_is Kd, d2_len, Nat.add_sub_cancel, hk2]
                simp
          · have hno : rightL a = false ∨ rightL b = false := by
              cases h1 : rightL a with
              | false => exact .inl rfl
              | true => exact .inr (by cases h2 : rightL b with
                | false => rfl
                | true => exact absurd ⟨h1, h2⟩ hab)
            have w : ∀ {l : DLogic}, SmallL l → ∃ p, law13_LogicWidths_1 l = some p := by
              intro l hl
              cases hr : rightL l with
              | false => exact ⟨_, width_no hl hr⟩
              | true =>
                obtain ⟨sz, ks, K⟩ := known_of hl hr
                exact ⟨_, width_is K⟩
            obtain ⟨p, hp⟩ := w ha
            obtain ⟨q, hq⟩ := w hb
            exact ⟨p, q, _, _, hp, hq, laid_two_no ha hb hno, laid_two_no ha hb hno, rfl, rfl⟩
        obtain ⟨p, q, rJ, rU, w1, w2, w3, w4, w5, w6⟩ := key
        rw [w1, w2, w3, w4]
        simp only [Option.bind_some]
        rw [w5]
        simp only [Option.bind_some, Bool.false_eq_true, if_false]
        rw [w6]
        simp only [Option.bind_some, Bool.false_eq_true, if_false]
        -- one below
        cases hra : rightL a with
        | false =>
          have hp : p = -1 := by
            rw [width_no ha hra] at w1
            injection w1 with w1; exact w1.symm
          have hl1 : ∀ m : DLNode, logic_laid m [a] = some (⟨[]⟩, 230) := fun m => by unfold logic_laid; rw [laid_not ha hra]
          rw [hl1, hl1, hl1]
          simp only [Option.bind_some]
          have fin : ∀ root : Int, law13_LogicWidths_k1 a p (⟨[]⟩, 230) (⟨[]⟩, 230) (⟨[]⟩, 230) root = some true := by
            intro root
            unfold law13_LogicWidths_k1
            rw [if_pos (by simp [hp])]
            rfl
          clear w1 w2 w3 w4 w5 w6
          by_cases h0 : 0 < a.Nodes.length
          · rw [if_pos (by simp; omega), wrapI (n := (a.Nodes.length : Int) - 1) (by omega) (by omega), show (a.Nodes.length : Int) - 1 = ((a.Nodes.length - 1 : Nat) : Int) from by omega, idx_nat, List.getElem?_eq_getElem (by omega)]
            exact fin _
          · rw [if_neg (by rw [decide_eq_true_eq]; omega)]
            exact fin _
        | true =>
          obtain ⟨sza, ksa, Ka⟩ := known_of ha hra
          have pa := Ka.pos
          have le := Ka.le
          obtain ⟨ra, hroot⟩ : ∃ ra, idx a.Nodes ((a.Nodes.length - 1 : Nat) : Int) = some ra := by
            rw [idx_nat, List.getElem?_eq_getElem (by omega)]; exact ⟨_, rfl⟩
          have hroot2 : ∀ (X : DLNode → Option Bool) (Y : Option Bool), (if decide (0 < (a.Nodes.length : Int)) = true then (idx a.Nodes (IntKind.i64.wrap ((a.Nodes.length : Int) - 1))).bind X else Y) = X ra := by
            intro X Y
            rw [if_pos (by simp; omega), wrapI (n := (a.Nodes.length : Int) - 1) (by omega) (by omega), show (a.Nodes.length : Int) - 1 = ((a.Nodes.length - 1 : Nat) : Int) from by omega, hroot]
            rfl
          have hp : p = ((ksa (a.Nodes.length - 1)).length : Int) := by
            rw [width_is Ka] at w1
            injection w1 with w1; exact w1.symm
          by_cases hc : ra.Op = 8 ∨ a.Nodes.length = 60
          · have hno : ∀ {m : DLNode}, SmallN m → logic_laid m [a] = some (⟨[]⟩, 230) := by
              intro m hm
              have : rightL (d1 m a) = false := by
                rcases hc with h8 | h60
                · exact sorted1 (d1_small hm ha) pa hroot h8
                · cases hr : rightL (d1 m a) with
                  | false => rfl
                  | true =>
                    have := right_le (d1_small hm ha) hr
                    rw [d1_len] at this
                    omega
              rw [laid_one hm ha hra, this]; rfl
            rw [hno hF, hno hD, hno hSo]
            simp only [Option.bind_some]
            rw [hroot2]
            unfold law13_LogicWidths_k1
            rw [if_pos (by simp; rcases hc with h | h; exact .inl (.inr h); exact .inr (by omega))]
            rfl
          · have h8 : ra.Op ≠ 8 := fun h => hc (.inl h)
            have h60 : a.Nodes.length ≠ 60 := fun h => hc (.inr h)
            obtain ⟨dF, f1, f2⟩ := one_known hF ha Ka hra hroot h8 rfl (by decide) (by decide) (by decide) (by kernel_rfl) (filter_kinds (known_kOK ha Ka)) (by omega)
            obtain ⟨dD, e1, e2⟩ := one_known hD ha Ka hra hroot h8 rfl (by decide) (by decide) (by decide) (by kernel_rfl) (distinct_kinds _) (by omega)
            obtain ⟨dS, s1, s2⟩ := one_known hSo ha Ka hra hroot h8 rfl (by decide) (by decide) (by decide) (by kernel_rfl) (sort_kinds _) (by omega)
            rw [f1, e1, s1]
            simp only [Option.bind_some]
            rw [hroot2]
            unfold law13_LogicWidths_k1
            rw [if_neg (by simp; omega), if_pos (by simp)]
            simp only [f2, e2, s2, Option.bind_some, hp, beq_self_eq_true, if_true]
end Go.Proofs.Ytbhkincjkpeaoaa

