/- Rows by columns: what is asked of lists, and their groups; plainly. -/
import Derived.Test.YtchjhcgkfglgiaaK7
namespace Go.Proofs.Ytchjhcgkfglgiaa
open Go

/-! ### What is asked of a list -/
def okAll (l : List Row) (c : List Int) : Bool := decide (c.length ≤ 16) && c.all (fun e => decide (0 ≤ e)) && l.all (fun r => okCols r c)
def askedL (l : List Row) (c : List Int) : Int := if allR l then (if okAll l c then 0 else 2) else 150
theorem asked_l1_eq (c : List Int) : ∀ l : List Row, row_asked_l1 c l = some (if l.all (fun r => okCols r c) then 0 else 2)
  | [] => rfl
  | r :: l => by
    unfold row_asked_l1
    rw [row_has_eq, Option.bind_some, asked_l1_eq c l, List.all_cons]
    cases okCols r c <;> rfl
theorem row_askedL_eq {l : List Row} (h : l.length ≤ 8000) (c : List Int) : row_asked l c = some (askedL l c) := by
  unfold row_asked askedL
  rw [row_lists_eq, why_one l h, Option.bind_some]
  cases allR l with
  | false => simp
  | true =>
    rw [if_pos rfl, if_neg (by decide), ContainsFunc_int_eq (f := row_asked_1) (g := fun c => decide (c < (0 : Int))) (fun v => rfl), if_pos rfl]
    have hn : c.all (fun e => decide (0 ≤ e)) = !c.any (fun e => decide (e < (0 : Int))) := by
      rw [List.not_any_eq_all_not]
      congr 1
      funext e
      rw [Bool.eq_iff_iff]; simp only [decide_eq_true_eq, Bool.not_eq_true', decide_eq_false_iff_not]; omega
    unfold okAll
    by_cases hc : c.length ≤ 16
    · rw [if_pos (by simp; omega), Option.bind_some, Option.bind_some, decide_eq_true hc, hn, asked_l1_eq]
      cases c.any (fun e => decide (e < (0 : Int))) <;> cases l.all (fun r => okCols r c) <;> rfl
    · rw [if_neg (by simp; omega), Option.bind_some, decide_eq_false hc]; rfl
theorem okAll_mem {l : List Row} {c : List Int} (h : okAll l c = true) {r : Row} (hr : r ∈ l) : okCols r c = true := by
  unfold okAll at h
  rw [Bool.and_eq_true, List.all_eq_true] at h
  exact h.2 r hr
theorem askedL_zero {l : List Row} {c : List Int} (h : askedL l c = 0) : allR l = true ∧ okAll l c = true := by
  unfold askedL at h
  cases h1 : allR l <;> cases h2 : okAll l c <;> simp_all
/-! ### What is taken of a row -/
def takeR (c : List Int) (r : Row) : Row := (row_take r c).getD []
theorem take_ok {r : Row} {c : List Int} (h : okCols r c = true) : row_take r c = some (takeR c r) ∧ (takeR c r).length = c.length ∧ ∀ v ∈ takeR c r, v ∈ r := by
  unfold okCols at h
  rw [Bool.and_eq_true, decide_eq_true_eq, List.all_eq_true] at h
  obtain ⟨t, g1, g2, g3, g4⟩ := take_l1_eq r c [] (fun e he => by have := h.2 e he; rw [Bool.and_eq_true, decide_eq_true_eq, decide_eq_true_eq] at this; exact this) (by simp; omega)
  have e : row_take r c = some t := g3
  unfold takeR
  rw [e]
  exact ⟨rfl, by simpa using g1, fun v hv => (g2 v hv).elim (fun h => by cases h) id⟩
theorem take_right {r : Row} {c : List Int} (h : okCols r c = true) (hr : rightB r = true) : rightB (takeR c r) = true := by
  obtain ⟨_, h1, h2⟩ := take_ok h
  unfold rightB at hr ⊢
  unfold okCols at h
  rw [Bool.and_eq_true, decide_eq_true_eq] at h hr ⊢
  rw [List.all_eq_true] at hr ⊢
  exact ⟨by omega, fun v hv => hr.2 v (h2 v hv)⟩
theorem row_Take_eq {r : Row} {c : List Int} (h : okCols r c = true) (hr : rightB r = true) : row_Take r c = some (takeR c r, 0) := by
  unfold row_Take
  rw [row_asked_eq, (take_ok h).1]
  simp [asked, h, hr]
/-! ### The order of groups -/
def gcmp (c : List Int) (a b : Row) : Int := cmb (cmpRow (takeR c a) (takeR c b)) (cmpRow a b)
theorem gcmp_Cmp (c : List Int) : Cmp (gcmp c) :=
  have h := Cmp.lex cmpRow_Cmp cmpRow_Cmp
  ⟨fun x y => h.rng (takeR c x, x) (takeR c y, y), fun x y => h.anti (takeR c x, x) (takeR c y, y), fun x y => (h.eq (takeR c x, x) (takeR c y, y)).trans ⟨fun e => (Prod.mk.injEq ..▸ e).2, fun e => by rw [e]⟩, fun x y z => h.trans (takeR c x, x) (takeR c y, y) (takeR c z, z)⟩
theorem Groups_1_eq {a b : Row} {c : List Int} (ha : okCols a c = true) (hb : okCols b c = true) : row_Groups_1 c a b = some (gcmp c a b) := by
  unfold row_Groups_1
  rw [(take_ok ha).1, (take_ok hb).1]
  simp only [Option.bind_some, row_order_eq, cmp_Or_eq, orL]
  unfold gcmp cmb
  congr 1
  by_cases h : cmpRow (takeR c a) (takeR c b) = 0
  · by_cases h2 : cmpRow a b = 0 <;> simp [h, h2]
  · simp [h]
theorem Groups_2_eq {a b : Row} {c : List Int} (ha : okCols a c = true) (hb : okCols b c = true) : row_Groups_2 c a b = some (decide (takeR c a = takeR c b)) := by
  unfold row_Groups_2
  rw [(take_ok ha).1, (take_ok hb).1]
  simp only [Option.bind_some, row_equal_eq]
theorem insF_congr {α : Type} {lt lt' : α → α → Bool} (x : α) : ∀ l : List α, (∀ y ∈ l, lt y x = lt' y x) → insF lt x l = insF lt' x l
  | [], _ => rfl
  | y :: l, h => by
    unfold insF
    rw [h y (List.mem_cons_self ..), insF_congr x l fun z hz => h z (List.mem_cons_of_mem _ hz)]
theorem isort_congr {α : Type} {lt lt' : α → α → Bool} : ∀ l : List α, (∀ x ∈ l, ∀ y ∈ l, lt x y = lt' x y) → isort lt l = isort lt' l
  | [], _ => rfl
  | x :: l, h => by
    unfold isort
    rw [← isort_congr l fun y hy z hz => h y (List.mem_cons_of_mem _ hy) z (List.mem_cons_of_mem _ hz)]
    exact insF_congr x _ fun y hy => h y (List.mem_cons_of_mem _ ((isort_perm lt l).mem_iff.1 hy)) x (List.mem_cons_self ..)
theorem sortF_on {α : Type} [DecidableEq α] {f : α → α → Int} (h : Cmp f) {c : α × α → Option Int} {l : List α} (hc : ∀ x ∈ l, ∀ y ∈ l, c (x, y) = some (f x y)) (hl : l.length ≤ 1099511627776) : sortF c l = some (srt f l) := by
  have hg := Good.of_cmp h (c := fun p => some (f p.1 p.2)) (fun _ _ => rfl) hl
  have hlt : ∀ x ∈ l, ∀ y ∈ l, ltF c x y = ltF (fun p : α × α => some (f p.1 p.2)) x y := fun x hx y hy => by unfold ltF; rw [hc x hx y hy]
  have hg' : Good c l := ⟨hl, fun x hx y hy => by rw [hc x hx y hy]; rfl, fun x hx => by rw [hlt x hx x hx]; exact hg.irr x hx,
    fun x hx y hy z hz h1 h2 => by rw [hlt x hx y hy] at h1; rw [hlt y hy z hz] at h2; rw [hlt x hx z hz]; exact hg.tr x hx y hy z hz h1 h2,
    fun x hx y hy h1 h2 => by rw [hlt x hx y hy] at h1; rw [hlt y hy x hx] at h2; exact hg.anti x hx y hy h1 h2⟩
  rw [sortF_good hg', isort_congr l hlt]
  rfl
/-! ### Runs -/
def runsF (al : Row → Row → Bool) : Nat → List Row → List (List Row)
  | 0, _ => []
  | _ + 1, [] => []
  | k + 1, x :: t => (x :: t.takeWhile (al x)) :: runsF al k (t.dropWhile (al x))
theorem runs_l2_eq {Sg : Type} {alike : Row → Row → Option Bool} {al : Row → Row → Bool} (yld : List Row → Sg → Option (Bool × Sg)) (nx : Sg → List Row → Option Sg) (s : Sg) (x : Row) (t : List Row) (hal : ∀ y ∈ t, alike x y = some (al x y)) (ht : t.length ≤ 8000) :
    ∀ (rest pre : List Row) (fuel : Nat), t = pre ++ rest → rest.length < fuel → row_runs_1_l2 alike yld nx s (x :: t) fuel ((1 + pre.length : Nat) : Int) = (yld (x :: (pre ++ rest.takeWhile (al x))) s).bind fun r => if (!r.1) then some r.2 else nx r.2 (rest.dropWhile (al x))
  | rest, pre, 0, _, h => by omega
  | [], pre, fuel + 1, e, _ => by
    rw [List.append_nil] at e
    subst e
    unfold row_runs_1_l2
    rw [if_neg (by simp; omega), Option.bind_some, if_neg (by decide), show (0 : Int) = ((0 : Nat) : Int) from rfl, sliceF_ok (by omega) (by simp; omega), Option.bind_some]
    rw [sliceF_ok (by simp; omega) (Nat.le_refl _)]
    simp only [Option.bind_some, List.takeWhile_nil, List.dropWhile_nil, List.append_nil, List.drop_zero]
    rw [List.take_of_length_le (by simp; omega), List.take_of_length_le (Nat.le_refl _), List.drop_of_length_le (by simp; omega)]
  | b :: rest, pre, fuel + 1, e, hf => by
    have hlen : t.length = pre.length + rest.length + 1 := by rw [e]; simp; omega
    have hb : idx (x :: t) ((1 + pre.length : Nat) : Int) = some b := by
      rw [idx_nat, Nat.add_comm, List.getElem?_cons_succ, e]
      simp
    unfold row_runs_1_l2
    rw [if_pos (by simp; omega), show idx (x :: t) 0 = some x from rfl, Option.bind_some, hb, Option.bind_some, hal b (by rw [e]; simp), Option.bind_some, Option.bind_some]
    cases hb2 : al x b with
    | true =>
      rw [if_pos rfl, wrapI (by omega) (by omega), show (((1 + pre.length : Nat) : Int) + 1) = ((1 + (pre ++ [b]).length : Nat) : Int) by simp; omega]
      rw [runs_l2_eq yld nx s x t hal ht rest (pre ++ [b]) fuel (by rw [e]; simp) (by simp at hf; omega)]
      simp [List.takeWhile_cons, List.dropWhile_cons, hb2]
    | false =>
      rw [if_neg (by decide), show (0 : Int) = ((0 : Nat) : Int) from rfl, sliceF_ok (by omega) (by simp; omega), Option.bind_some]
      rw [sliceF_ok (by simp; omega) (Nat.le_refl _)]
      simp only [Option.bind_some, List.drop_zero]
      rw [List.take_of_length_le (l := x :: t) (Nat.le_refl _)]
      have e1 : (x :: t).take (1 + pre.length) = x :: pre := by rw [Nat.add_comm, List.take_succ_cons, e]; simp
      have e2 : (x :: t).drop (1 + pre.length) = b :: rest := by rw [Nat.add_comm, List.drop_succ_cons, e]; simp
      rw [e1, e2]
      simp [List.takeWhile_cons, List.dropWhile_cons, hb2]
def grp (c : List Int) (y : List Row) : DGroup := ⟨takeR c (y.headD []), y⟩
def alk (c : List Int) (a b : Row) : Bool := decide (takeR c a = takeR c b)
theorem runs_l1_eq (c : List Int) : ∀ (k fuel : Nat) (l : List Row) (out : List DGroup), (∀ r ∈ l, okCols r c = true) → l.length ≤ k → l.length < fuel → out.length + l.length ≤ 8000 →
    row_runs_1_l1 (row_Groups_2 c) (bodyY (fun x s => row_Groups_b1 c x s)) fuel out l = some (out ++ (runsF (alk c) k l).map (grp c))
  | k, 0, l, out, _, _, h, _ => by omega
  | k, fuel + 1, [], out, _, _, _, _ => by
    unfold row_runs_1_l1
    rw [if_neg (by simp)]
    cases k <;> simp [runsF]
  | 0, fuel + 1, x :: t, out, _, h, _, _ => by simp at h
  | k + 1, fuel + 1, x :: t, out, h, hk, hf, ho => by
    simp only [List.length_cons] at hk hf ho
    have hx := h x (List.mem_cons_self ..)
    have hsub : ∀ r ∈ t.dropWhile (alk c x), r ∈ t := fun r hr => (List.dropWhile_sublist _).subset hr
    have hdl : (t.dropWhile (alk c x)).length ≤ t.length := (List.dropWhile_sublist _).length_le
    have htl : (t.takeWhile (alk c x)).length ≤ t.length := (List.takeWhile_sublist _).length_le
    unfold row_runs_1_l1
    rw [if_pos (by simp), show (1 : Int) = ((1 + ([] : List Row).length : Nat) : Int) from rfl,
      runs_l2_eq (al := alk c) _ _ out x t (fun y hy => Groups_2_eq hx (h y (List.mem_cons_of_mem _ hy))) (by omega) t [] FUEL rfl (by unfold FUEL; omega)]
    rw [List.nil_append]
    have hb : row_Groups_b1 c (x :: t.takeWhile (alk c x)) out = some (out ++ [grp c (x :: t.takeWhile (alk c x))]) := by
      unfold row_Groups_b1 slices_Clone_api_Row_api_Row
      rw [show idx (x :: t.takeWhile (alk c x)) 0 = some x from rfl, Option.bind_some, (take_ok hx).1, Option.bind_some, app_nil (by simp; omega), Option.bind_some, Option.bind_some, app_ok (by simp; omega)]
      rfl
    have hb2 : bodyY (fun x s => row_Groups_b1 c x s) (x :: t.takeWhile (alk c x)) out = some (true, out ++ [grp c (x :: t.takeWhile (alk c x))]) := by
      show Option.map _ (row_Groups_b1 c (x :: t.takeWhile (alk c x)) out) = _
      rw [hb]; rfl
    rw [hb2]
    simp only [Option.bind_some, Bool.not_true, Bool.false_eq_true, if_false]
    have ih := runs_l1_eq c k fuel (t.dropWhile (alk c x)) (out ++ [grp c (x :: t.takeWhile (alk c x))]) (fun r hr => h r (List.mem_cons_of_mem _ (hsub r hr))) (by omega) (by omega) (by simp; omega)
    rw [ih]
    simp [runsF]
theorem row_Groups_eq {l : List Row} (h : Small l) (c : List Int) : row_Groups l c = some (if askedL l c = 0 then ((runsF (alk c) l.length (srt (gcmp c) l)).map (grp c), 0) else ([], askedL l c)) := by
  unfold row_Groups
  have hlen := h.len
  rw [row_askedL_eq h.len, Option.bind_some]
  by_cases ha : askedL l c = 0
  · obtain ⟨_, hok⟩ := askedL_zero ha
    rw [if_neg (by simp [ha]), if_pos ha, row_copies_eq l (fun r hr => by have := h.row r hr; omega) (by omega), Option.bind_some]
    rw [sortF_on (gcmp_Cmp c) (fun x hx y hy => Groups_1_eq (okAll_mem hok hx) (okAll_mem hok hy)) (by omega), Option.bind_some]
    unfold row_runs
    rw [Option.bind_some]
    unfold row_runs_1
    have hl := srt_len (gcmp c) l
    show ((row_runs_1_l1 (row_Groups_2 c) (bodyY fun x s => row_Groups_b1 c x s) FUEL [] (srt (gcmp c) l)).bind fun xs1 => some (xs1, (0 : Int))) = _
    rw [runs_l1_eq c l.length FUEL (srt (gcmp c) l) [] (fun r hr => okAll_mem hok ((srt_perm _ _).mem_iff.1 hr)) (by omega) (by unfold FUEL; omega) (by simp; omega)]
    rfl
  · rw [if_pos (by simp [ha]), if_neg ha]
theorem runs_flat (al : Row → Row → Bool) : ∀ (k : Nat) (l : List Row), l.length ≤ k → (runsF al k l).flatten = l
  | 0, l, h => by
    have : l = [] := List.eq_nil_of_length_eq_zero (by omega)
    subst this
    rfl
  | k + 1, [], _ => rfl
  | k + 1, x :: t, h => by
    have hdl : (t.dropWhile (al x)).length ≤ t.length := (List.dropWhile_sublist _).length_le
    unfold runsF
    rw [List.flatten_cons, runs_flat al k _ (by simp at h; omega), List.cons_append, List.takeWhile_append_dropWhile]
theorem runs_mem (al : Row → Row → Bool) : ∀ (k : Nat) (l : List Row) (y : List Row), y ∈ runsF al k l → ∃ x t, y = x :: t ∧ x ∈ l ∧ ∀ z ∈ t, z ∈ l ∧ al x z = true
  | 0, l, y, h => by cases h
  | k + 1, [], y, h => by cases h
  | k + 1, x :: t, y, h => by
    unfold runsF at h
    rcases List.mem_cons.1 h with rfl | h
    · exact ⟨x, _, rfl, List.mem_cons_self .., fun z hz => ⟨List.mem_cons_of_mem _ ((List.takeWhile_sublist _).subset hz), by simpa using List.all_eq_true.1 (List.all_takeWhile (p := al x) (l := t)) z hz⟩⟩
    · obtain ⟨x', t', e, h1, h2⟩ := runs_mem al k _ y h
      have hsub : ∀ r ∈ t.dropWhile (al x), r ∈ t := fun r hr => (List.dropWhile_sublist _).subset hr
      exact ⟨x', t', e, List.mem_cons_of_mem _ (hsub _ h1), fun z hz => ⟨List.mem_cons_of_mem _ (hsub _ (h2 z hz).1), (h2 z hz).2⟩⟩
theorem gcmp_le {c : List Int} {a b : Row} (h : gcmp c a b ≤ 0) : cmpRow (takeR c a) (takeR c b) ≤ 0 := by
  unfold gcmp cmb at h
  split at h
  · exact h
  · rename_i h2; simp at h2; omega
theorem drop_lt (c : List Int) (x : Row) : ∀ t : List Row, SortedL (gcmp c) (x :: t) → ∀ z ∈ t.dropWhile (alk c x), cmpRow (takeR c x) (takeR c z) < 0
  | [], _, z, hz => by cases hz
  | b :: t, hs, z, hz => by
    have hs' := List.pairwise_cons.1 hs
    have hs2 := List.pairwise_cons.1 hs'.2
    rw [List.dropWhile_cons] at hz
    split at hz
    · exact drop_lt c x t (List.pairwise_cons.2 ⟨fun w hw => hs'.1 w (List.mem_cons_of_mem _ hw), hs2.2⟩) z hz
    · rename_i hb
      have hlt : cmpRow (takeR c x) (takeR c b) < 0 := by
        have h1 := gcmp_le (hs'.1 b (List.mem_cons_self ..))
        rcases Int.lt_or_eq_of_le h1 with h | h
        · exact h
        · exact absurd (decide_eq_true ((cmpRow_Cmp.eq _ _).1 h)) hb
      rcases List.mem_cons.1 hz with rfl | hz
      · exact hlt
      · exact cmpRow_Cmp.lt (Int.le_of_lt hlt) (gcmp_le (hs2.1 z hz)) (.inl hlt)
theorem runs_keys (c : List Int) : ∀ (k : Nat) (l : List Row), SortedL (gcmp c) l → ((runsF (alk c) k l).map (grp c)).Pairwise (fun a b => cmpRow a.Key b.Key < 0)
  | 0, l, _ => List.Pairwise.nil
  | k + 1, [], _ => List.Pairwise.nil
  | k + 1, x :: t, hs => by
    unfold runsF
    rw [List.map_cons]
    have hs' := List.pairwise_cons.1 hs
    refine List.pairwise_cons.2 ⟨fun g hg => ?_, runs_keys c k _ (hs'.2.sublist (List.dropWhile_sublist _))⟩
    obtain ⟨y, hy, rfl⟩ := List.mem_map.1 hg
    obtain ⟨x', t', rfl, h1, _⟩ := runs_mem _ _ _ y hy
    exact drop_lt c x t hs x' h1
end Go.Proofs.Ytchjhcgkfglgiaa
