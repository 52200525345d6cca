/- Facts of this claim: Q13. -/
import Derived.Test.YtegigakgcnhiaaaGreatDoorLfQ1
namespace Go.Proofs.YtegigakgcnhiaaaGreatDoor
open Go

theorem rows_in {c : DCatalog} {N : Nat} {x : List DBase} {from1 : Int} {t i : Nat} (h : i < (rowsX x from1 (t : Int)).length) : ∃ w r, from1 = ((w + 1 : Nat) : Int) ∧ w < x.length ∧ rowsX x from1 (t : Int) = cell x w t ∧ (cell x w t)[i]? = some r := by
  have hf : 1 ≤ from1 ∧ from1 ≤ (x.length : Int) := by
    unfold rowsX at h
    split at h
    · omega
    · simp at h
  obtain ⟨w, rfl⟩ : ∃ w : Nat, from1 = ((w + 1 : Nat) : Int) := ⟨(from1 - 1).toNat, by omega⟩
  have er : rowsX x ((w + 1 : Nat) : Int) (t : Int) = cell x w t := by
    unfold rowsX
    rw [if_pos (by omega), Int.toNat_natCast, Int.toNat_natCast]
    rfl
  rw [er] at h
  exact ⟨w, _, rfl, by omega, er, List.getElem?_eq_getElem h⟩
theorem gather_of_perm {c : DCatalog} (hc : catB c = true) {x y : List DBase} (hx : rightL c x = true) (h : ∀ u, u < c.Tables.length → (tabX x u).Perm (tabX y u)) : gatherX x c.Tables.length = gatherX y c.Tables.length := by
  unfold gatherX
  refine List.map_congr_left fun t ht => ?_
  have htl := List.mem_range.1 ht
  exact srt_of_perm rowC (h t htl) (by have := (tab_small hc hx htl).1.len; omega)
theorem place_Where_eq {c : DCatalog} (hs : SmallC c) (hc : catB c = true) {u : Nat} {t : DTable} (ht : c.Tables[u]? = some t) {r : Row} (hr : fitU t r) {N : Nat} (h1 : 1 ≤ N) (h8 : N ≤ 8) : place_Where c (u : Int) r (N : Int) = some ((homeV t r N : Int), 0) := by
  have hul := (List.getElem?_eq_some_iff.1 ht).1
  have hm := List.mem_iff_getElem?.2 ⟨u, ht⟩
  have htab := cat_tab hc _ hm
  unfold place_Where
  rw [catalog_Check_eq hs, Option.bind_some, hc, if_pos rfl, if_neg (by decide)]
  have hb : ((((decide ((u : Int) < (0 : Int))) || (decide ((c.Tables.length : Int) ≤ (u : Int)))) || (decide ((N : Int) < (1 : Int)))) || (decide ((8 : Int) < (N : Int)))) = false := by
    simp
    omega
  rw [hb, if_pos (show (!false) = true from rfl), idx_nat, ht, Option.bind_some, place_fits_eq hs hm htab, Option.bind_some, hr.1, Option.bind_some, if_neg (by simp), Option.bind_some, place_home_eq htab hr.1 hr.2 h1 h8, Option.bind_some]
theorem stays_l3 {c : DCatalog} (hs : SmallC c) (hc : catB c = true) {u : Nat} {t : DTable} (ht : c.Tables[u]? = some t) {n : Nat} (hn : n ≤ 8) (nx1 : Int → Option Bool) : ∀ rows : List Row, (∀ r ∈ rows, fitU t r ∧ (t.Keys ≠ [] → homeV t r 3 = n)) → law17_PlaceStays_l3 c u nx1 (n : Int) rows = nx1 ((n + 1 : Nat) : Int)
  | [], _ => by
    unfold law17_PlaceStays_l3
    rw [wrapI (by omega) (by omega)]
    rfl
  | r :: rows, h => by
    obtain ⟨h1, h2⟩ := h r (List.mem_cons_self ..)
    unfold law17_PlaceStays_l3
    rw [show (3 : Int) = ((3 : Nat) : Int) from rfl, place_Where_eq hs hc ht h1 (by omega) (by omega), Option.bind_some, stays_l3 hs hc ht hn nx1 rows fun q hq => h q (List.mem_cons_of_mem _ hq), if_neg]
    by_cases hk : t.Keys = []
    · have : homeV t r 3 = 0 := if_pos hk
      rw [this]
      simp
    · rw [h2 hk]
      simp
theorem rowsX_at {N T : Nat} {x : List DBase} (hs : Shape N T x) {n t : Nat} (hn : n < N) : rowsX x ((n + 1 : Nat) : Int) (t : Int) = cell x n t := by
  unfold rowsX
  rw [if_pos ⟨by omega, by rw [hs.len]; omega, by omega⟩, Int.toNat_natCast, Int.toNat_natCast]
  rfl
theorem stays_l2 {c : DCatalog} (hs : SmallC c) (hc : catB c = true) {x : List DBase} (hL : Lies c 3 x) {u : Nat} {t : DTable} (ht : c.Tables[u]? = some t) (nx : Nat → Option Bool) : ∀ (f n : Nat), 3 < n + f → n ≤ 3 → law17_PlaceStays_l2 c ⟨x⟩ nx u f ((n + 1 : Nat) : Int) = nx (u + 1)
  | 0, n, h, hn => by omega
  | f + 1, n, h, hn => by
    unfold law17_PlaceStays_l2
    by_cases hlt : n < 3
    · rw [if_pos (by rw [decide_eq_true_eq]; omega), place_Rows_eq (l := ⟨x⟩) (hL.small hc (by omega)), Option.bind_some, rowsX_at hL.shape hlt]
      have := stays_l3 hs hc ht (n := n + 1) (by omega) (law17_PlaceStays_l2 c ⟨x⟩ nx u f) (cell x n u) fun r hr => ⟨hL.fit n u r hr t ht, fun hk => hL.home n u r hr t ht hk⟩
      refine this.trans (stays_l2 hs hc hL ht nx f (n + 1) (by omega) (by omega))
    · rw [if_neg (by rw [decide_eq_true_eq]; omega)]
theorem stays_l1 {c : DCatalog} (hs : SmallC c) (hc : catB c = true) {x : List DBase} (hL : Lies c 3 x) : ∀ (m u : Nat), c.Tables.length - u = m → u ≤ c.Tables.length → law17_PlaceStays_l1 c ⟨x⟩ (c.Tables.drop u) u = some true
  | 0, u, h, hu => by
    rw [List.drop_of_length_le (by omega)]
    rfl
  | m + 1, u, h, hu => by
    have hlt : u < c.Tables.length := by omega
    rw [List.drop_eq_getElem_cons hlt]
    unfold law17_PlaceStays_l1
    have := stays_l2 hs hc hL (List.getElem?_eq_getElem hlt) (law17_PlaceStays_l1 c ⟨x⟩ (c.Tables.drop (u + 1))) FUEL 0 (by unfold FUEL; omega) (by omega)
    refine Eq.trans this (stays_l1 hs hc hL m (u + 1) (by omega) (by omega))
theorem stays_k1 {c : DCatalog} (hs : SmallC c) (hc : catB c = true) {x0 x : List DBase} (hL : Lies c 3 x) (hp : ∀ u, u < c.Tables.length → (tabX x u).Perm (tabX x0 u)) : law17_PlaceStays_k1 c (⟨gatherX x0 c.Tables.length⟩, 0) ⟨x⟩ = some true := by
  unfold law17_PlaceStays_k1
  rw [place_Gather_eq hs (l := ⟨x⟩) (hL.small hc (by omega)) hL.uns, hL.why hc (by omega) (by omega), if_pos rfl, Option.bind_some]
  simp only [bne_self_eq_false, Bool.not_false, if_true, place_Same_eq, Option.bind_some]
  rw [gather_of_perm hc (hL.right (by omega) (by omega)) hp]
  simp only [decide_true, Bool.not_true, Bool.false_eq_true, if_false]
  have := stays_l1 hs hc hL c.Tables.length 0 (by omega) (Nat.zero_le _)
  rw [List.drop_zero] at this
  exact this
theorem stays_l4 {c : DCatalog} (hs : SmallC c) (hc : catB c = true) {x0 : List DBase} : ∀ (l : List DStep) (i : Nat) (x : List DBase), Lies c 3 x → (∀ u, u < c.Tables.length → (tabX x u).Perm (tabX x0 u)) → law17_PlaceStays_l4 c (⟨gatherX x0 c.Tables.length⟩, 0) l i ⟨x⟩ = some true
  | [], i, x, hL, hp => stays_k1 hs hc hL hp
  | s :: l, i, x, hL, hp => by
    unfold law17_PlaceStays_l4
    by_cases hi : ((i : Int) == 20) = true
    · rw [if_pos hi]
      exact stays_k1 hs hc hL hp
    · rw [if_neg hi, place_Move_eq hs (l := ⟨x⟩) (hL.small hc (by omega)) hL.uns, Option.bind_some]
      have hr := hL.right (show 1 ≤ 3 by omega) (by omega)
      unfold moveW
      rw [hc, if_pos rfl, if_pos hr]
      by_cases hb : 0 ≤ s.Table ∧ s.Table < (c.Tables.length : Int) ∧ 0 ≤ s.At ∧ s.At < ((rowsX x s.From s.Table).length : Int) ∧ 1 ≤ s.To ∧ s.To ≤ (x.length : Int)
      · rw [if_pos hb]
        obtain ⟨b1, b2, b3, b4, b5, b6⟩ := hb
        by_cases hq : ((c.Tables[s.Table.toNat]?.map fun t => decide (t.Keys = [])).getD true) = true ∨ s.To = s.From
        · rw [if_pos hq]
          simp only [BEq.rfl, if_true]
          obtain ⟨t, ht⟩ := Int.eq_ofNat_of_zero_le b1
          obtain ⟨j, hj⟩ := Int.eq_ofNat_of_zero_le b3
          obtain ⟨m, hm⟩ : ∃ m : Nat, s.To = ((m + 1 : Nat) : Int) := ⟨(s.To - 1).toNat, by omega⟩
          have htl : t < c.Tables.length := by omega
          have b4' : j < (rowsX x s.From (t : Int)).length := by rw [ht, hj] at b4; omega
          obtain ⟨w, r, g1, g2, g3, g4⟩ := rows_in (c := c) (N := 3) b4'
          rw [ht, hj, hm, g3, g1, Int.toNat_natCast, g4, Option.getD_some]
          have hx3 := hL.shape.len
          have hkk : (c.Tables[t]).Keys = [] ∨ m = w := by
            rcases hq with hq | hq
            · rw [ht, Int.toNat_natCast, List.getElem?_eq_getElem htl] at hq
              exact .inl (by simpa using hq)
            · exact .inr (by rw [hm, g1] at hq; omega)
          exact stays_l4 hs hc l (i + 1) _ (move_lies hc hL g4 (by omega) htl hkk) fun u hu => (move_tab hc hL.parts hL.uns g4 (by omega) htl u).trans (hp u hu)
        · rw [if_neg hq]
          exact stays_l4 hs hc l (i + 1) x hL hp
      · rw [if_neg hb]
        exact stays_l4 hs hc l (i + 1) x hL hp
theorem placeStays_true (c : DCatalog) (b : DBase) (hu : allU b.Tables) (l : List DStep) : law17_PlaceStays c b l = some true := by
  unfold law17_PlaceStays
  rw [wakes17_true, Option.bind_some, if_neg (by simp)]
  obtain ⟨o1, h1, hs⟩ := overTables_ok c
  obtain ⟨o2, h2, _⟩ := overBase_ok b
  rw [h1, Option.bind_some, h2]
  cases o1 with
  | true => rfl
  | false =>
    have hs := hs rfl
    simp only [Bool.not_false, if_true, Option.bind_some]
    cases o2 with
    | true => rfl
    | false =>
      rw [if_neg (by simp), place_Lay_eq hs b hu, Option.bind_some]
      cases hc : catB c with
      | false => rfl
      | true =>
        cases hb : restB c b with
        | false => rfl
        | true =>
          simp only [if_true]
          have hL := lay_lies hc hb hu (show 1 ≤ 3 by omega) (by omega) []
          have hG := place_Gather_eq hs (l := ⟨layX c b 3 []⟩) (hL.small hc (by omega)) hL.uns
          simp only [hL.why hc (by omega) (by omega), if_true] at hG
          rw [if_pos (show (1 : Int) ≤ 3 ∧ (3 : Int) ≤ 8 by omega), show (3 : Int).toNat = 3 from rfl, if_neg (by simp)]
          simp only [hG, Option.bind_some]
          rw [if_neg (by simp)]
          exact stays_l4 hs hc l 0 _ hL fun u _ => .refl _
end Go.Proofs.YtegigakgcnhiaaaGreatDoor

