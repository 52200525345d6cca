/- Facts of this claim: M8. -/
import Derived.Test.YtdhledkpgaeoaaaGreatDoorKcM7
namespace Go.Proofs.YtdhledkpgaeoaaaGreatDoor
open Go

def eP (own : List DValue) (t : Tr) : DValue × Int := if cb own t then ev own t else (zV, 2)
theorem eP_t {own : List DValue} {t : Tr} (h : cb own t = true) : eP own t = ev own t := if_pos h
theorem eP_f {own : List DValue} {t : Tr} (h : cb own t = false) : eP own t = (zV, 2) := if_neg (by rw [h]; decide)
theorem eP_cases {own : List DValue} (hown : rgR own) {t : Tr} (hw : t.wf) (hr : rgT t) : ((eP own t).2 = 0 ∧ Pl (eP own t).1) ∨ (eP own t).2 ≠ 0 := by
  unfold eP
  cases hc : cb own t with
  | false => exact .inr (by simp)
  | true =>
    have hcV := colsB_tree hown t hw 0 (by rw [colsB_flat own t hw]; exact hc)
    simp only [if_true]
    rcases ev_cases own t hw hr hcV with ⟨h1, h2⟩ | h | h
    · exact .inl ⟨h1, h2⟩
    · rw [h]; exact .inr (by decide)
    · rw [h]; exact .inr (by decide)
theorem raw22 (a b : DValue) : raw 22 a b = if a.Kind ≤ 1 ∧ b.Kind ≤ 1 then (andV a b, 0) else (zV, 2) := rfl
theorem eP_and {own : List DValue} (hown : rgR own) {n : DENode} {a b : Tr} (hn : n.Tag = 22) (ha : a.wf) (hb : b.wf) (hra : rgT a) (hrb : rgT b) :
    ((eP own (.bi n a b)).2 = 0 ↔ (eP own a).2 = 0 ∧ (eP own b).2 = 0 ∧ (eP own a).1.Kind ≤ 1 ∧ (eP own b).1.Kind ≤ 1) ∧ ((eP own (.bi n a b)).2 = 0 → (eP own (.bi n a b)).1 = andV (eP own a).1 (eP own b).1) := by
  have hA := eP_cases hown ha hra
  have hB := eP_cases hown hb hrb
  by_cases hca : cb own a = true
  · by_cases hcb : cb own b = true
    · have hab : cb own (.bi n a b) = true := by simp only [cb, hca, hcb, Bool.and_self]
      rw [eP_t hca] at hA ⊢
      rw [eP_t hcb] at hB ⊢
      rw [eP_t hab, ev_bi, hn]
      rcases hA with ⟨h1, p1⟩ | h1
      · rw [bindV_ok h1]
        rcases hB with ⟨h2, p2⟩ | h2
        · rw [bindV_ok h2]
          unfold dz
          rw [raw22]
          by_cases hk : (ev own a).1.Kind ≤ 1 ∧ (ev own b).1.Kind ≤ 1
          · rw [if_pos hk]
            simp [h1, h2, hk]
          · rw [if_neg hk]
            refine ⟨⟨fun h => by simp at h, fun h => absurd ⟨h.2.2.1, h.2.2.2⟩ hk⟩, fun h => by simp at h⟩
        · rw [bindV_err h2]
          exact ⟨⟨fun h => absurd h h2, fun h => absurd h.2.1 h2⟩, fun h => absurd h h2⟩
      · rw [bindV_err h1]
        exact ⟨⟨fun h => absurd h h1, fun h => absurd h.1 h1⟩, fun h => absurd h h1⟩
    · have hab : cb own (.bi n a b) = false := by simp only [cb]; rw [Bool.not_eq_true] at hcb; rw [hcb, Bool.and_false]
      rw [Bool.not_eq_true] at hcb
      rw [eP_f hab, eP_f hcb]
      simp
  · have hab : cb own (.bi n a b) = false := by simp only [cb]; rw [Bool.not_eq_true] at hca; rw [hca, Bool.false_and]
    rw [Bool.not_eq_true] at hca
    rw [eP_f hab, eP_f hca]
    simp
theorem tn_tv {n : Int} (h : n = 0 ∨ n = 1 ∨ n = 2) : tn (tv n) = n := by rcases h with rfl | rfl | rfl <;> rfl
theorem andV_assoc {a b c : DValue} (ha : Tu a) (hb : Tu b) (hc : Tu c) : andV (andV a b) c = andV a (andV b c) := by
  have h1 := tn_3 ha; have h2 := tn_3 hb; have h3 := tn_3 hc
  unfold andV
  rw [tn_tv (by omega), tn_tv (by omega)]
  congr 1; omega
def fA (v : DValue) (l : List DValue) : DValue := l.foldl andV v
theorem fA_tu : ∀ {l : List DValue} {v : DValue}, Tu v → (∀ x ∈ l, Tu x) → Tu (fA v l)
  | [], _, h, _ => h
  | x :: l, v, h, k => fA_tu (l := l) (andV_tu h (k x (List.mem_cons_self ..))) fun y hy => k y (List.mem_cons_of_mem _ hy)
theorem fA_and : ∀ {l : List DValue} {v x : DValue}, Tu v → Tu x → (∀ y ∈ l, Tu y) → fA (andV x v) l = andV x (fA v l)
  | [], _, _, _, _, _ => rfl
  | y :: l, v, x, hv, hx, k => by
    have hy := k y (List.mem_cons_self ..)
    show fA (andV (andV x v) y) l = andV x (fA (andV v y) l)
    rw [andV_assoc hx hv hy]
    exact fA_and (andV_tu hv hy) hx fun z hz => k z (List.mem_cons_of_mem _ hz)
theorem ands_mem {t : Tr} : t.wf → rgT t → ∀ u ∈ andsT t, u.wf ∧ rgT u ∧ andsT u = [u] ∧ u.size ≤ t.size := by
  induction t with
  | lf n => intro hw hr u hu; simp only [andsT, List.mem_singleton] at hu; subst hu; exact ⟨hw, hr, rfl, Nat.le_refl _⟩
  | un n a _ => intro hw hr u hu; simp only [andsT, List.mem_singleton] at hu; subst hu; exact ⟨hw, hr, rfl, Nat.le_refl _⟩
  | bi n a b iha ihb =>
    intro hw hr u hu
    rw [andsT_bi] at hu
    by_cases hn : n.Tag = 22
    · rw [if_pos hn] at hu
      rcases List.mem_append.1 hu with hu | hu
      · obtain ⟨h1, h2, h3, h4⟩ := iha hw.2.1 hr.1 u hu
        exact ⟨h1, h2, h3, by simp only [Tr.size]; omega⟩
      · obtain ⟨h1, h2, h3, h4⟩ := ihb hw.2.2 hr.2 u hu
        exact ⟨h1, h2, h3, by simp only [Tr.size]; omega⟩
    · rw [if_neg hn] at hu
      simp only [List.mem_singleton] at hu; subst hu
      exact ⟨hw, hr, by rw [andsT_bi, if_neg hn], Nat.le_refl _⟩
theorem ands_ne (t : Tr) : andsT t ≠ [] := by
  induction t with
  | lf n => simp [andsT]
  | un n a _ => simp [andsT]
  | bi n a b iha ihb =>
    rw [andsT_bi]
    split
    · simp [iha]
    · simp
theorem ands_lone {t : Tr} (h : (andsT t).length = 1) : andsT t = [t] := by
  cases t with
  | lf n => rfl
  | un n a => rfl
  | bi n a b =>
    rw [andsT_bi] at h ⊢
    by_cases hn : n.Tag = 22
    · rw [if_pos hn] at h
      have h1 := List.length_pos_iff.2 (ands_ne a)
      have h2 := List.length_pos_iff.2 (ands_ne b)
      simp at h; omega
    · rw [if_neg hn]
theorem ands_bad1 {own : List DValue} (hown : rgR own) {t : Tr} : t.wf → rgT t → ∀ u ∈ andsT t, (eP own u).2 ≠ 0 → (eP own t).2 ≠ 0 := by
  induction t with
  | lf n => intro _ _ u hu h; simp only [andsT, List.mem_singleton] at hu; subst hu; exact h
  | un n a _ => intro _ _ u hu h; simp only [andsT, List.mem_singleton] at hu; subst hu; exact h
  | bi n a b iha ihb =>
    intro hw hr u hu h h0
    rw [andsT_bi] at hu
    by_cases hn : n.Tag = 22
    · rw [if_pos hn] at hu
      have h1 := (eP_and hown hn hw.2.1 hw.2.2 hr.1 hr.2).1.1 h0
      rcases List.mem_append.1 hu with hu | hu
      · exact iha hw.2.1 hr.1 u hu h h1.1
      · exact ihb hw.2.2 hr.2 u hu h h1.2.1
    · rw [if_neg hn] at hu
      simp only [List.mem_singleton] at hu; subst hu
      exact h h0
theorem ands_bad2 {own : List DValue} (hown : rgR own) {t : Tr} : t.wf → rgT t → (andsT t).length ≠ 1 → ∀ u ∈ andsT t, 1 < (eP own u).1.Kind → (eP own t).2 ≠ 0 := by
  induction t with
  | lf n => intro _ _ h; exact absurd rfl h
  | un n a _ => intro _ _ h; exact absurd rfl h
  | bi n a b iha ihb =>
    intro hw hr hl u hu h h0
    rw [andsT_bi] at hu hl
    by_cases hn : n.Tag = 22
    · rw [if_pos hn] at hu
      have h1 := (eP_and hown hn hw.2.1 hw.2.2 hr.1 hr.2).1.1 h0
      rcases List.mem_append.1 hu with hu | hu
      · by_cases hl1 : (andsT a).length = 1
        · rw [ands_lone hl1, List.mem_singleton] at hu
          subst hu; omega
        · exact iha hw.2.1 hr.1 hl1 u hu h h1.1
      · by_cases hl1 : (andsT b).length = 1
        · rw [ands_lone hl1, List.mem_singleton] at hu
          subst hu; omega
        · exact ihb hw.2.2 hr.2 hl1 u hu h h1.2.1
    · rw [if_neg hn] at hl
      exact hl rfl
def foldD (own : List DValue) : List Tr → DValue
  | [] => bV true
  | u :: us => fA (eP own u).1 (us.map fun w => (eP own w).1)
theorem foldD_snoc (own : List DValue) (u v : Tr) (us : List Tr) : foldD own (u :: us ++ [v]) = andV (foldD own (u :: us)) (eP own v).1 := by
  simp [foldD, fA, List.foldl_append]
theorem foldD_append {own : List DValue} {l m : List Tr} (hl : l ≠ []) (hm : m ≠ []) (h : ∀ u ∈ l, Tu (eP own u).1) (k : ∀ u ∈ m, Tu (eP own u).1) : foldD own (l ++ m) = andV (foldD own l) (foldD own m) := by
  cases l with
  | nil => exact absurd rfl hl
  | cons u us =>
    cases m with
    | nil => exact absurd rfl hm
    | cons v vs =>
      have e1 : foldD own (u :: us ++ v :: vs) = fA (andV (foldD own (u :: us)) (eP own v).1) (vs.map fun w => (eP own w).1) := by
        simp [foldD, fA, List.foldl_append]
      rw [e1]
      refine fA_and (k v (List.mem_cons_self ..)) ?_ ?_
      · exact fA_tu (h u (List.mem_cons_self ..)) fun x hx => by
          obtain ⟨w, hw, rfl⟩ := List.mem_map.1 hx
          exact h w (List.mem_cons_of_mem _ hw)
      · intro x hx
        obtain ⟨w, hw, rfl⟩ := List.mem_map.1 hx
        exact k w (List.mem_cons_of_mem _ hw)
theorem ands_all {own : List DValue} (hown : rgR own) {t : Tr} : t.wf → rgT t → (∀ u ∈ andsT t, (eP own u).2 = 0 ∧ Tu (eP own u).1) → (eP own t).2 = 0 ∧ Tu (eP own t).1 ∧ (eP own t).1 = foldD own (andsT t) := by
  induction t with
  | lf n => intro _ _ h; have := h _ (List.mem_singleton.2 rfl); exact ⟨this.1, this.2, rfl⟩
  | un n a _ => intro _ _ h; have := h _ (List.mem_singleton.2 rfl); exact ⟨this.1, this.2, rfl⟩
  | bi n a b iha ihb =>
    intro hw hr h
    rw [andsT_bi] at h ⊢
    by_cases hn : n.Tag = 22
    · rw [if_pos hn] at h ⊢
      obtain ⟨h1, h2, h3⟩ := iha hw.2.1 hr.1 fun u hu => h u (List.mem_append_left _ hu)
      obtain ⟨k1, k2, k3⟩ := ihb hw.2.2 hr.2 fun u hu => h u (List.mem_append_right _ hu)
      obtain ⟨e1, e2⟩ := eP_and hown hn hw.2.1 hw.2.2 hr.1 hr.2
      have h0 := e1.2 ⟨h1, k1, (tu_iff h2.pl).1 h2, (tu_iff k2.pl).1 k2⟩
      have h5 := e2 h0
      refine ⟨h0, by rw [h5]; exact andV_tu h2 k2, ?_⟩
      rw [h5, h3, k3]
      exact (foldD_append (ands_ne a) (ands_ne b) (fun u hu => (h u (List.mem_append_left _ hu)).2) fun u hu => (h u (List.mem_append_right _ hu)).2).symm
    · rw [if_neg hn] at h ⊢
      have := h _ (List.mem_singleton.2 rfl)
      exact ⟨this.1, this.2, rfl⟩
def ndA : DENode := ⟨22, -1, -1, 0, zV⟩
def allT (a : Tr) (l : List Tr) : Tr := l.foldl (fun x y => .bi ndA x y) a
def sumS (l : List Tr) : Nat := (l.map Tr.size).sum
theorem sumS_cons (a : Tr) (l : List Tr) : sumS (a :: l) = a.size + sumS l := by simp [sumS]
theorem sumS_append (a b : List Tr) : sumS (a ++ b) = sumS a + sumS b := by simp [sumS]
theorem ands_size (t : Tr) : sumS (andsT t) + (andsT t).length = t.size + 1 := by
  induction t with
  | lf n => rfl
  | un n a _ => simp [andsT, sumS]
  | bi n a b iha ihb =>
    rw [andsT_bi]
    split
    · rw [sumS_append, List.length_append]; simp only [Tr.size]; omega
    · simp [sumS]
theorem allT_size : ∀ (l : List Tr) (a : Tr), (allT a l).size = a.size + sumS l + l.length
  | [], a => rfl
  | y :: l, a => by
    show (allT (.bi ndA a y) l).size = _
    rw [allT_size l, sumS_cons]
    simp only [Tr.size, List.length_cons]; omega
theorem ndA_ok : okN 2 ndA := ⟨rfl, rfl, rfl, rfl⟩
theorem allT_wf : ∀ (l : List Tr) (a : Tr), a.wf → (∀ u ∈ l, u.wf) → (allT a l).wf
  | [], _, h, _ => h
  | y :: l, a, h, k => allT_wf l (.bi ndA a y) ⟨ndA_ok, h, k y (List.mem_cons_self ..)⟩ fun u hu => k u (List.mem_cons_of_mem _ hu)
theorem allT_rg : ∀ (l : List Tr) (a : Tr), rgT a → (∀ u ∈ l, rgT u) → rgT (allT a l)
  | [], _, h, _ => h
  | y :: l, a, h, k => allT_rg l (.bi ndA a y) ⟨h, k y (List.mem_cons_self ..)⟩ fun u hu => k u (List.mem_cons_of_mem _ hu)
theorem allT_ands : ∀ (l : List Tr) (a : Tr), (∀ u ∈ l, andsT u = [u]) → andsT (allT a l) = andsT a ++ l
  | [], a, _ => by simp [allT]
  | y :: l, a, k => by
    show andsT (allT (.bi ndA a y) l) = _
    rw [allT_ands l _ fun u hu => k u (List.mem_cons_of_mem _ hu), andsT_bi, if_pos (show ndA.Tag = 22 from rfl), k y (List.mem_cons_self ..)]
    simp
theorem All_l1_eq : ∀ (l : List Tr) (a : Tr), (allT a l).size ≤ 50000 → expr_All_l1 (l.map exT) (exT a) = some (exT (allT a l), 0)
  | [], a, _ => rfl
  | y :: l, a, h => by
    simp only [List.map_cons]
    unfold expr_All_l1
    have h1 : (allT (.bi ndA a y) l).size ≤ 50000 := h
    rw [allT_size] at h1
    simp only [Tr.size] at h1
    have h2 : expr_joined ⟨22, 0, 0, 0, ⟨0, 0, 0, []⟩⟩ [exT a, exT y] = some (exT (.bi ndA a y)) := joined2 ⟨22, 0, 0, 0, ⟨0, 0, 0, []⟩⟩ a y (by omega)
    rw [h2]
    exact All_l1_eq l (.bi ndA a y) h
theorem expr_All_eq (a : Tr) (l : List Tr) (hw : ∀ u ∈ a :: l, u.wf ∧ u.size ≤ 1000) (hs : sumS (a :: l) + l.length ≤ 1000) : expr_All ((a :: l).map exT) = some (exT (allT a l), 0) := by
  unfold expr_All expr_nodes
  have hll : ∀ l : List Tr, l.length ≤ sumS l := by
    intro l
    induction l with
    | nil => exact Nat.le_refl _
    | cons q l ih => have := q.size_pos; rw [sumS_cons]; simp; omega
  have hll2 := hll (a :: l)
  have hn := nodes_l1 ((a :: l).map exT) 0 (by
    intro q hq
    obtain ⟨t, ht, rfl⟩ := List.mem_map.1 hq
    have := (hw t ht).2
    simp only [exT, Tr.flat_len]; omega) (by rw [List.length_map]; omega)
  rw [show ((0 : Nat) : Int) = 0 from rfl] at hn
  rw [hn]
  have hall : ((a :: l).map exT).all (fun e => rightE e.Nodes) = true := by
    rw [List.all_eq_true]
    intro q hq
    obtain ⟨t, ht, rfl⟩ := List.mem_map.1 hq
    exact rightE_flat (hw t ht).1 (hw t ht).2
  have hsum : (((a :: l).map exT).map fun e => e.Nodes.length).sum = sumS (a :: l) := by
    rw [List.map_map]
    unfold sumS
    congr 1
    apply List.map_congr_left
    intro t _
    simp only [Function.comp_apply, exT, Tr.flat_len]
  rw [hall, hsum]
  simp only [if_true, Option.bind_some]
  rw [if_neg (by decide), if_neg (by simp; omega)]
  rw [List.length_map, wrapI (n := ((0 + sumS (a :: l) : Nat) : Int) + ((a :: l).length : Int)) (by omega) (by omega), wrapI (by omega) (by omega)]
  rw [if_neg (by simp only [List.length_cons, decide_eq_true_eq]; omega)]
  simp only [List.map_cons]
  rw [show idx (exT a :: l.map exT) 0 = some (exT a) from rfl]
  simp only [Option.bind_some]
  have hsa := (hw a (List.mem_cons_self ..)).2
  rw [clone_node _ (by simp only [exT, Tr.flat_len]; omega)]
  simp only [Option.bind_some]
  rw [show (1 : Int) = ((1 : Nat) : Int) from rfl, sliceF_at 1 (exT a :: l.map exT).length rfl (by simp) (by simp) (Nat.le_refl _)]
  simp only [List.take_length, Option.bind_some]
  rw [sumS_cons] at hs
  exact All_l1_eq l a (by rw [allT_size]; omega)
theorem allT_eP {own : List DValue} (hown : rgR own) : ∀ (l : List Tr) (a : Tr), a.wf → rgT a → (eP own a).2 = 0 → (l ≠ [] → Tu (eP own a).1) → (∀ u ∈ l, u.wf ∧ rgT u ∧ (eP own u).2 = 0 ∧ Tu (eP own u).1) →
    eP own (allT a l) = (fA (eP own a).1 (l.map fun w => (eP own w).1), 0)
  | [], a, _, _, h0, _, _ => Prod.ext rfl h0
  | y :: l, a, hw, hr, h0, ht, k => by
    obtain ⟨h1, h2, h3, h4⟩ := k y (List.mem_cons_self ..)
    have ht := ht (by simp)
    obtain ⟨e1, e2⟩ := eP_and hown (n := ndA) rfl hw h1 hr h2
    have h5 := e1.2 ⟨h0, h3, (tu_iff ht.pl).1 ht, (tu_iff h4.pl).1 h4⟩
    have h6 := e2 h5
    have := allT_eP hown l (.bi ndA a y) ⟨ndA_ok, hw, h1⟩ ⟨hr, h2⟩ h5 (fun _ => by rw [h6]; exact andV_tu ht h4) fun u hu => k u (List.mem_cons_of_mem _ hu)
    show eP own (allT (.bi ndA a y) l) = _
    rw [this, h6]
    rfl
def arT : Tr → Bool
  | .lf n => arB n
  | .un n a => arT a || arB n
  | .bi n a b => arT a || arT b || arB n
theorem flat_any (t : Tr) : ∀ s, (t.flat s).any arB = arT t := by
  induction t with
  | lf n => intro s; simp only [Tr.flat, List.any_cons, List.any_nil, Bool.or_false, arT]; rfl
  | un n a ih => intro s; simp only [Tr.flat, List.any_append, ih, List.any_cons, List.any_nil, Bool.or_false, arT]; rfl
  | bi n a b iha ihb => intro s; simp only [Tr.flat, List.any_append, iha, ihb, List.any_cons, List.any_nil, Bool.or_false, arT]; rfl
theorem safe_ex {t : Tr} (hw : t.wf) (hs : t.size ≤ 1000) : expr_Safe (exT t) = some (!(arT t)) := by
  rw [expr_Safe_eq _ (by simp only [exT, Tr.flat_len]; omega)]
  unfold exT
  rw [rightE_flat hw hs, flat_any]; rfl
theorem ands_safe (t : Tr) : (andsT t).all (fun u => !(arT u)) = !(arT t) := by
  induction t with
  | lf n => simp [andsT]
  | un n a _ => simp [andsT]
  | bi n a b iha ihb =>
    rw [andsT_bi]
    split
    · rename_i hn
      rw [List.all_append, iha, ihb]
      have : arB n = false := by unfold arB; rw [hn]; rfl
      simp [arT, this]
    · simp
theorem parts_l1 (t : Tr) (hw : t.wf) (hs : t.size ≤ 1000) (hr : rgT t) (own : List DValue) (hown : rgR own) : ∀ (rest done : List Tr), andsT t = done ++ rest → (∀ u ∈ done, (eP own u).2 = 0) → ((andsT t).length ≠ 1 → ∀ u ∈ done, Tu (eP own u).1) → (done ≠ [] → (eP own t).2 = 0 ∨ (andsT t).length ≠ 1) →
    law10_ExprParts_l1 (exT t) own (eP own t) ((andsT t).map exT) (rest.map exT) done.length (done.all fun u => !(arT u)) (foldD own done) = some true
  | [], done, hd, h1, h2, h3 => by
    rw [List.append_nil] at hd
    subst hd
    unfold law10_ExprParts_l1
    simp only [List.map_nil]
    obtain ⟨a, l, hal⟩ : ∃ a l, andsT t = a :: l := by
      cases h : andsT t with
      | nil => exact absurd h (ands_ne t)
      | cons a l => exact ⟨a, l, rfl⟩
    have hsz := ands_size t
    have hmem := ands_mem hw hr
    rw [ands_safe t]
    rw [hal] at h1 h2 h3 hsz hmem ⊢
    have hAll := expr_All_eq a l (fun u hu => ⟨(hmem u hu).1, by have := (hmem u hu).2.2.2; omega⟩) (by simp only [List.length_cons] at hsz; omega)
    rw [hAll]
    simp only [Option.bind_some]
    have ha := hmem a (List.mem_cons_self ..)
    have hl' : ∀ u ∈ l, u.wf ∧ rgT u ∧ andsT u = [u] ∧ u.size ≤ t.size := fun u hu => hmem u (List.mem_cons_of_mem _ hu)
    rw [if_pos (by simp), safe_ex hw hs]
    simp only [Option.bind_some, bne_self_eq_false, Bool.false_eq_true, if_false]
    have hjw := allT_wf l a ha.1 fun u hu => (hl' u hu).1
    have hjr := allT_rg l a ha.2.1 fun u hu => (hl' u hu).2.1
    have hjs : (allT a l).size ≤ 1000 := by rw [allT_size]; simp only [sumS_cons, List.length_cons] at hsz; omega
    have hje : expr_Eval (exT (allT a l)) own = some (eP own (allT a l)) := eval_tree own hown hjw hjs hjr
    rw [hje]
    simp only [Option.bind_some]
    have hne : l ≠ [] → (a :: l).length ≠ 1 := by intro h h9; simp at h9; exact h h9
    have hj := allT_eP hown l a ha.1 ha.2.1 (h1 a (List.mem_cons_self ..)) (fun h => h2 (hne h) a (List.mem_cons_self ..)) (fun u hu => ⟨(hl' u hu).1, (hl' u hu).2.1, h1 u (List.mem_cons_of_mem _ hu), h2 (hne (List.ne_nil_of_mem hu)) u (List.mem_cons_of_mem _ hu)⟩)
    have ht : (eP own t).2 = 0 ∧ (eP own t).1 = foldD own (a :: l) := by
      by_cases hlen : (a :: l).length = 1
      · have hone := ands_lone (t := t) (by rw [hal]; exact hlen)
        rw [hal] at hone
        injection hone with e1 e2
        subst e1 e2
        exact ⟨h1 a (List.mem_cons_self ..), rfl⟩
      · have := ands_all hown hw hr fun u hu => by
          rw [hal] at hu
          exact ⟨h1 u hu, h2 hlen u hu⟩
        rw [hal] at this
        exact ⟨this.1, this.2.2⟩
    have hands : andsT (allT a l) = a :: l := by rw [allT_ands l a fun u hu => (hl' u hu).2.2.1, ha.2.2.1]; rfl
    rw [hj]
    rw [if_pos (by rw [ht.1, ht.2]; simp [foldD]), expr_Ands_eq _ (by simp only [exT, Tr.flat_len]; omega)]
    unfold exT
    rw [treeOf_flat hjw hjs]
    simp only [Option.bind_some, hands]
    simp
  | u :: rest, done, hd, h1, h2, h3 => by
    have hmem := ands_mem hw hr
    have hu : u ∈ andsT t := by rw [hd]; exact List.mem_append_right _ (List.mem_cons_self ..)
    obtain ⟨hu1, hu2, hu3, hu4⟩ := hmem u hu
    simp only [List.map_cons]
    unfold law10_ExprParts_l1
    rw [safe_ex hu1 (by omega)]
    have hE : expr_Eval (exT u) own = some (eP own u) := eval_tree own hown hu1 (by omega) hu2
    rw [hE]
    have es : (if (done.all fun u => !(arT u)) = true then ((some (!(arT u))).bind fun r12 => some r12) else some false) = some ((done ++ [u]).all fun u => !(arT u)) := by
      rw [List.all_append]
      cases (done.all fun u => !(arT u)) <;> simp
    rw [es]
    simp only [Option.bind_some]
    by_cases h0 : (eP own u).2 = 0
    · rw [if_neg (by simp [h0]), List.length_map]
      have hpl : Pl (eP own u).1 := by
        rcases eP_cases hown hu1 hu2 with ⟨_, h⟩ | h
        · exact h
        · exact absurd h0 h
      have hlen1 : 1 ≤ (andsT t).length := List.length_pos_iff.2 (ands_ne t)
      by_cases hb1 : (eP own t).2 ≠ 0 ∧ (andsT t).length = 1
      · rw [if_pos (by simp [hb1.1, hb1.2])]; simp [hb1.1]
      · by_cases hb2 : (andsT t).length ≠ 1 ∧ 1 < (eP own u).1.Kind
        · have := ands_bad2 hown hw hr hb2.1 u hu hb2.2
          rw [if_pos (by simp [hb2.2]; right; omega)]; simp [this]
        · have hcond : ((((eP own t).2 != 0) && (((andsT t).length : Int) == 1)) || (decide ((1 : Int) < ((andsT t).length : Int)) && decide (1 < (eP own u).1.Kind))) = false := by
            rw [Bool.or_eq_false_iff]
            constructor
            · rw [Bool.and_eq_false_iff]
              by_cases h9 : (eP own t).2 = 0
              · left; simp [h9]
              · right
                have : (andsT t).length ≠ 1 := fun h => hb1 ⟨h9, h⟩
                simp; omega
            · rw [Bool.and_eq_false_iff]
              by_cases h9 : (andsT t).length = 1
              · left; simp [h9]
              · right
                simp only [decide_eq_false_iff_not]
                exact fun h => hb2 ⟨h9, h⟩
          rw [hcond]
          simp only [Bool.false_eq_true, if_false]
          have hdone' : andsT t = (done ++ [u]) ++ rest := by rw [hd]; simp
          have htu : (andsT t).length ≠ 1 → Tu (eP own u).1 := fun h => (tu_iff hpl).2 (by
            have := fun k => hb2 ⟨h, k⟩
            omega)
          have h1' : ∀ w ∈ done ++ [u], (eP own w).2 = 0 := fun w hw' => by
            rcases List.mem_append.1 hw' with h | h
            · exact h1 w h
            · simp only [List.mem_singleton] at h; subst h; exact h0
          have h2' : (andsT t).length ≠ 1 → ∀ w ∈ done ++ [u], Tu (eP own w).1 := fun hl w hw' => by
            rcases List.mem_append.1 hw' with h | h
            · exact h2 hl w h
            · simp only [List.mem_singleton] at h; subst h; exact htu hl
          have h3' : done ++ [u] ≠ [] → (eP own t).2 = 0 ∨ (andsT t).length ≠ 1 := fun _ => by
            by_cases h9 : (eP own t).2 = 0
            · exact .inl h9
            · exact .inr fun h => hb1 ⟨h9, h⟩
          have ih := parts_l1 t hw hs hr own hown rest (done ++ [u]) hdone' h1' h2' h3'
          rw [List.length_append] at ih
          simp only [List.length_cons, List.length_nil, Nat.zero_add] at ih
          unfold law10_ExprParts_k1
          cases hdn : done with
          | nil =>
            subst hdn
            rw [if_pos (by simp)]
            simpa [foldD, fA] using ih
          | cons d ds =>
            rw [if_neg (by simp; omega)]
            have hlen2 : (andsT t).length ≠ 1 := by rw [hd, hdn]; simp
            have hft : Tu (foldD own (d :: ds)) := by
              rw [hdn] at h2
              exact fA_tu (h2 hlen2 d (List.mem_cons_self ..)) fun x hx => by
                obtain ⟨w, hw', rfl⟩ := List.mem_map.1 hx
                exact h2 hlen2 w (List.mem_cons_of_mem _ hw')
            rw [value_And_tu hft (htu hlen2)]
            simp only [Option.bind_some]
            rw [if_neg (by simp), ← foldD_snoc]
            rw [hdn] at ih
            simpa using ih
    · rw [if_pos (by simpa using h0)]
      simp [ands_bad1 hown hw hr u hu h0]
theorem exprParts_true (p : DExpr) (r : List DValue) (hp : rgE p.Nodes) (hr : rgR r) : law10_ExprParts p r = some true := by
  unfold law10_ExprParts
  rw [wakes_eq]
  simp only [Option.bind_some, Bool.not_true, Bool.false_eq_true, if_false]
  have h1 := short_eq p 200 (by omega)
  rw [show ((200 : Int)) = ((200 : Nat) : Int) from rfl, h1]
  simp only [Option.bind_some]
  have hlen := shortN_len p.Nodes 200
  have hrg := shortN_rg hp 200
  rw [expr_Check_eq _ (by show (shortN p.Nodes 200).length ≤ 100000; omega)]
  simp only [Option.bind_some]
  cases hri : rightE (shortN p.Nodes 200) with
  | false => rfl
  | true =>
    simp only [if_true]
    rw [if_neg (by decide), row_eq]
    simp only [Option.bind_some]
    obtain ⟨t, ht⟩ : ∃ t, treeOf (shortN p.Nodes 200) = some t := by
      unfold rightE at hri
      exact Option.isSome_iff_exists.1 hri
    obtain ⟨hw, hN, hs⟩ := treeOf_some ht
    rw [hN] at hrg ⊢
    have hrT := rgE_tree t 0 hrg
    have hE : expr_Eval ⟨t.flat 0⟩ (rowR r) = some (eP (rowR r) t) := eval_tree (rowR r) (rowR_rg hr) hw hs hrT
    rw [hE, expr_Ands_eq _ (by show (t.flat 0).length ≤ 80000; rw [t.flat_len]; omega)]
    simp only [treeOf_flat hw hs, Option.bind_some]
    have hb : value_Bool true = some (bV true) := rfl
    rw [hb]
    simp only [Option.bind_some]
    have := parts_l1 t hw hs hrT (rowR r) (rowR_rg hr) (andsT t) [] rfl (fun u hu => by cases hu) (fun _ u hu => by cases hu) (fun h => absurd rfl h)
    simpa [exT, foldD] using this
end Go.Proofs.YtdhledkpgaeoaaaGreatDoor

