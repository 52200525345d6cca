/- Rows by hashes, and the law RowWhole; plainly. -/
import Derived.Test.YtchjhcgkfglgiaaK8
namespace Go.Proofs.Ytchjhcgkfglgiaa
open Go

/-! ### Hashes of rows -/
/-- Rows whose values may be hashed. -/
def Plain (l : List Row) : Prop := ∀ r ∈ l, ∀ v ∈ r, v.S.length ≤ 200 ∧ 0 ≤ v.U ∧ v.U < 18446744073709551616
def hashR (c : List Int) (r : Row) : Nat := ((row_hash (takeR c r)).getD 0).toNat
theorem hash_ok {r : Row} {c : List Int} (h : okCols r c = true) (hv : ∀ v ∈ r, v.S.length ≤ 200 ∧ 0 ≤ v.U ∧ v.U < 18446744073709551616) : row_hash (takeR c r) = some (hashR c r : Int) ∧ hashR c r < 4294967296 := by
  obtain ⟨_, h1, h2⟩ := take_ok h
  have hc : c.length ≤ 16 := by
    unfold okCols at h
    rw [Bool.and_eq_true, decide_eq_true_eq] at h
    exact h.1
  obtain ⟨n, g0, g1, _⟩ := hash_l1_eq (takeR c r) [] (fun x hx => by cases hx) (fun v hv' => hv v (h2 v hv')) (by rw [h1]; simp; omega)
  have e : row_hash (takeR c r) = some (n : Int) := g1
  unfold hashR
  rw [e]
  exact ⟨rfl, g0⟩
theorem row_Hash_eq {r : Row} {c : List Int} (h : okCols r c = true) (hr : rightB r = true) (hv : ∀ v ∈ r, v.S.length ≤ 200 ∧ 0 ≤ v.U ∧ v.U < 18446744073709551616) : row_Hash r c = some ((hashR c r : Int), 0) := by
  unfold row_Hash
  rw [row_Take_eq h hr]
  simp [(hash_ok h hv).1]
theorem mod_eq {h N : Nat} (hh : h < 4294967296) (h1 : 1 ≤ N) (h2 : N ≤ 64) : IntKind.i64.wrap ((h : Int).tmod (IntKind.u32.wrap (N : Int))) = ((h % N : Nat) : Int) := by
  rw [wrap32 N (by omega), show (h : Int).tmod (N : Int) = ((h % N : Nat) : Int) from rfl]
  have : h % N < N := Nat.mod_lt _ (by omega)
  rw [IntKind.wrap_i64]; omega
theorem nz_ok {N : Nat} (h1 : 1 ≤ N) (h2 : N ≤ 64) : nz (IntKind.u32.wrap (N : Int)) = some () := by
  rw [wrap32 N (by omega)]
  unfold nz
  rw [if_neg (by omega)]
theorem mget_mset {β : Type} (m : List (Int × β)) (k k' : Int) (v : β) : mget (mset m k v) k' = if k = k' then some v else mget m k' := by
  induction m with
  | nil => simp only [mset, mget]
  | cons p m ih =>
    unfold mset
    by_cases h : p.1 = k
    · rw [if_pos h]
      simp only [mget]
      by_cases h2 : k = k'
      · simp [h2]
      · rw [if_neg h2, if_neg h2, if_neg (by rw [h]; exact h2)]
    · rw [if_neg h]
      simp only [mget]
      rw [ih]
      by_cases h2 : k = k'
      · subst h2; simp [h]
      · simp [h2]
/-! ### Parts -/
def part (c : List Int) (N i : Nat) (l : List Row) : List Row := l.filter fun r => decide (hashR c r % N = i)
theorem part_l2_eq (x : List (Int × List Row)) (N : Nat) (hN : N ≤ 64) : ∀ (k i : Nat) (out : List (List Row)), i + k = N → out.length = N → out.take i = (List.range i).map (fun i : Nat => (mget x (i : Int)).getD []) →
    row_Part_l2 x k i out = some ((List.range N).map (fun i : Nat => (mget x (i : Int)).getD []), 0)
  | 0, i, out, h1, h2, h3 => by
    unfold row_Part_l2
    rw [List.take_of_length_le (by omega)] at h3
    rw [h3, show i = N by omega]
  | k + 1, i, out, h1, h2, h3 => by
    unfold row_Part_l2
    have hi : i < out.length := by omega
    rw [idx_nat, List.getElem?_eq_getElem hi, Option.bind_some, Option.bind_some, Int.toNat_natCast]
    refine part_l2_eq x N hN k (i + 1) _ (by omega) (by simp; omega) ?_
    rw [List.range_succ, List.map_append, ← h3, List.take_add_one, List.take_set_of_le (Nat.le_refl i)]
    simp [hi]
theorem part_l1_eq (c : List Int) (N : Nat) (h1 : 1 ≤ N) (hN : N ≤ 64) : ∀ (rest done : List Row) (x : List (Int × List Row)), (∀ i : Nat, (mget x (i : Int)).getD [] = part c N i done) → (∀ r ∈ rest, okCols r c = true) → Plain rest → done.length + rest.length ≤ 8000 →
    row_Part_l1 c (N : Int) rest x = some ((List.range N).map (fun i => part c N i (done ++ rest)), 0)
  | [], done, x, hx, _, _, _ => by
    unfold row_Part_l1 zerosF
    rw [if_pos (by omega), Option.bind_some, Int.toNat_natCast, List.length_replicate, part_l2_eq x N hN N 0 _ (by omega) (by simp) rfl]
    rw [List.append_nil]
    congr 2
    exact List.map_congr_left fun i _ => hx i
  | e :: rest, done, x, hx, hok, hp, hl => by
    have he := hok e (List.mem_cons_self ..)
    obtain ⟨g1, g2⟩ := hash_ok he (hp e (List.mem_cons_self ..))
    have hlen : (part c N (hashR c e % N) done).length ≤ done.length := List.length_filter_le _ _
    unfold row_Part_l1
    rw [(take_ok he).1, Option.bind_some, g1, Option.bind_some, nz_ok h1 hN, Option.bind_some, mod_eq g2 h1 hN, hx, app_ok (by simp at hl ⊢; omega), Option.bind_some]
    rw [part_l1_eq c N h1 hN rest (done ++ [e]) _ (fun i => ?_) (fun r hr => hok r (List.mem_cons_of_mem _ hr)) (fun r hr => hp r (List.mem_cons_of_mem _ hr)) (by simp at hl ⊢; omega)]
    · rw [List.append_assoc]; rfl
    · rw [mget_mset]
      unfold part
      rw [List.filter_append]
      by_cases hi : hashR c e % N = i
      · rw [if_pos (by rw [hi])]; simp [hi]
      · rw [if_neg (by omega), hx i]; simp [part, hi]
theorem row_Part_eq {l : List Row} (h : Small l) {c : List Int} (ha : askedL l c = 0) (hp : Plain l) {N : Nat} (h1 : 1 ≤ N) (hN : N ≤ 64) : row_Part l c (N : Int) = some ((List.range N).map (fun i => part c N i l), 0) := by
  have hlen := h.len
  obtain ⟨_, hok⟩ := askedL_zero ha
  unfold row_Part
  rw [row_askedL_eq h.len, ha, Option.bind_some, if_neg (by decide), if_neg (by simp; omega), row_copies_eq l (fun r hr => by have := h.row r hr; omega) (by omega), Option.bind_some]
  rw [part_l1_eq c N h1 hN l [] [] (fun i => rfl) (fun r hr => okAll_mem hok hr) hp (by simp; omega)]
  rfl
theorem flat_one {α : Type} (a : α) (g : Nat → List α) : ∀ (N j : Nat), j < N → ((List.range N).flatMap (fun i => if j = i then a :: g i else g i)).Perm (a :: (List.range N).flatMap g)
  | 0, j, h => by omega
  | N + 1, j, h => by
    rw [List.range_succ, List.flatMap_append, List.flatMap_append]
    by_cases hj : j = N
    · subst hj
      have e : (List.range j).flatMap (fun i => if j = i then a :: g i else g i) = (List.range j).flatMap g := by
        rw [List.flatMap_def, List.flatMap_def]
        congr 1
        exact List.map_congr_left fun i hi => if_neg (by have := List.mem_range.1 hi; omega)
      rw [e]
      simp only [List.flatMap_cons, List.flatMap_nil, List.append_nil, if_true]
      exact List.perm_middle
    · have ih := flat_one a g N j (by omega)
      simp only [List.flatMap_cons, List.flatMap_nil, List.append_nil, if_neg hj]
      exact ih.append_right _
theorem parts_perm (f : Row → Nat) (N : Nat) : ∀ l : List Row, (∀ r ∈ l, f r < N) → ((List.range N).flatMap (fun i => l.filter fun r => decide (f r = i))).Perm l
  | [], _ => by simp
  | a :: l, h => by
    have e : (fun i => (a :: l).filter fun r => decide (f r = i)) = fun i => if f a = i then a :: (l.filter fun r => decide (f r = i)) else l.filter fun r => decide (f r = i) := by
      funext i
      rw [List.filter_cons]
      by_cases hi : f a = i <;> simp [hi]
    rw [e]
    exact (flat_one a _ N (f a) (h a (List.mem_cons_self ..))).trans ((parts_perm f N l fun r hr => h r (List.mem_cons_of_mem _ hr)).cons a)
/-! ### Merged -/
theorem Concat_l2_eq : ∀ (ls : List (List Row)) (out : List Row), out.length + ls.flatten.length ≤ 8000 → slices_Concat_api_Row_api_Row_l2 ls out = some (out ++ ls.flatten)
  | [], out, _ => by unfold slices_Concat_api_Row_api_Row_l2; simp
  | l :: ls, out, h => by
    rw [List.flatten_cons, List.length_append] at h
    unfold slices_Concat_api_Row_api_Row_l2
    rw [app_ok (by omega), Option.bind_some, Concat_l2_eq ls _ (by rw [List.length_append]; omega), List.flatten_cons, List.append_assoc]
theorem Concat_l1_eq (all : List (List Row)) : ∀ (ls : List (List Row)) (n : Nat), n + ls.flatten.length ≤ 8000 → slices_Concat_api_Row_api_Row_l1 all ls (n : Int) = (slices_Concat_api_Row_api_Row_l2 all [])
  | [], n, h => by
    unfold slices_Concat_api_Row_api_Row_l1
    rw [Grow_eq _ (by omega) (by simp at h; omega), Option.bind_some]
  | l :: ls, n, h => by
    rw [List.flatten_cons, List.length_append] at h
    unfold slices_Concat_api_Row_api_Row_l1
    rw [wrapI (by omega) (by omega), if_neg (by rw [decide_eq_true_eq]; omega), show (n : Int) + (l.length : Int) = ((n + l.length : Nat) : Int) by omega]
    exact Concat_l1_eq all ls _ (by omega)
theorem Concat_eq {ls : List (List Row)} (h : ls.flatten.length ≤ 8000) : slices_Concat_api_Row_api_Row ls = some ls.flatten := by
  unfold slices_Concat_api_Row_api_Row
  rw [show (0 : Int) = ((0 : Nat) : Int) from rfl, Concat_l1_eq ls ls 0 (by omega), Concat_l2_eq ls [] (by simpa using h), List.nil_append]
theorem maxL_le : ∀ (ls : List (List Row)) (n b : Nat), n ≤ b → (∀ l ∈ ls, l.length ≤ b) → maxL ls n ≤ b
  | [], n, b, h, _ => h
  | l :: ls, n, b, h, hl => maxL_le ls _ b (by have := hl l (List.mem_cons_self ..); omega) fun m hm => hl m (List.mem_cons_of_mem _ hm)
theorem row_Merge_eq {ls : List (List Row)} (hs : Small ls.flatten) (hr : allR ls.flatten = true) : row_Merge ls = some (srtR ls.flatten, 0) := by
  have hlen := hs.len
  have hle : ∀ l ∈ ls, l.length ≤ 8000 := fun l hl => Nat.le_trans (List.Sublist.length_le (List.sublist_flatten_of_mem hl)) hlen
  have hall : ls.all allR = true := by
    rw [List.all_eq_true]
    intro l hl
    unfold allR at hr ⊢
    rw [List.all_eq_true] at hr ⊢
    exact fun r hr' => hr r (List.mem_flatten.2 ⟨l, hl, hr'⟩)
  unfold row_Merge
  rw [row_lists_eq]
  unfold whyL
  rw [if_pos hall, lim_zero (maxL_le ls 0 8000 (by omega) hle), Option.bind_some, if_neg (by decide), Concat_eq hlen, Option.bind_some, row_Sorted_eq hs, hr]
  rfl
/-! ### The law -/
theorem runs_len (al : Row → Row → Bool) : ∀ (k : Nat) (l : List Row), (runsF al k l).length ≤ k
  | 0, _ => Nat.le_refl _
  | _ + 1, [] => Nat.zero_le _
  | k + 1, x :: t => by
    unfold runsF
    have := runs_len al k (t.dropWhile (al x))
    rw [List.length_cons]; omega
theorem row_Compare_self (a : Row) : row_Compare a a = some 0 := by
  rw [row_Compare_eq, (cmpRow_Cmp.eq a a).2 rfl]; simp
theorem rw4 (c : List Int) (nx : Nat → List Row → Option Bool) (i : Nat) (g : DGroup) (x : List Row) (hx : x.length + g.Rows.length ≤ 8000) : ∀ l : List Row, (∀ r ∈ l, okCols r c = true ∧ rightB r = true ∧ takeR c r = g.Key) → law05_RowWhole_l4 c nx i g x l = nx (i + 1) (x ++ g.Rows)
  | [], _ => by
    unfold law05_RowWhole_l4
    rw [app_ok (by omega), Option.bind_some]
  | r :: l, h => by
    obtain ⟨h1, h2, h3⟩ := h r (List.mem_cons_self ..)
    unfold law05_RowWhole_l4
    rw [row_Take_eq h1 h2, Option.bind_some, h3, row_Compare_self]
    simp only [Option.bind_some, bne_self_eq_false, Bool.not_false, if_true, Bool.false_eq_true, if_false]
    exact rw4 c nx i g x hx l fun r hr => h r (List.mem_cons_of_mem _ hr)
theorem rw3 (c : List Int) (n : Int) (N : Nat) (hn : IntKind.i64.wrap ((((max n (0 : Int))).tmod (64 : Int)) + (1 : Int)) = (N : Int)) (h1 : 1 ≤ N) (h2 : N ≤ 64) (nx : Nat → Option Bool) (i : Nat) : ∀ l : List Row, (∀ r ∈ l, okCols r c = true ∧ rightB r = true ∧ hashR c r % N = i) → Plain l → law05_RowWhole_l3 c n nx i l = nx (i + 1)
  | [], _, _ => by unfold law05_RowWhole_l3; rfl
  | r :: l, h, hp => by
    obtain ⟨g1, g2, g3⟩ := h r (List.mem_cons_self ..)
    have hv := hp r (List.mem_cons_self ..)
    unfold law05_RowWhole_l3
    rw [row_Hash_eq g1 g2 hv, hn]
    simp only [Option.bind_some, bne_self_eq_false, Bool.not_false, if_true]
    rw [nz_ok h1 h2, Option.bind_some, mod_eq (hash_ok g1 hv).2 h1 h2, g3]
    simp only [Option.bind_some, bne_self_eq_false, Bool.false_eq_true, if_false]
    exact rw3 c n N hn h1 h2 nx i l (fun r hr => h r (List.mem_cons_of_mem _ hr)) fun r hr => hp r (List.mem_cons_of_mem _ hr)
theorem rowWhole_true (p : List Row) (hp0 : ∀ r ∈ p, ∀ v ∈ r, 0 ≤ v.U ∧ v.U < 18446744073709551616) (c : List Int) (n : Int) : law05_RowWhole p c n = some true := by
  unfold law05_RowWhole
  rw [wakes_true, Option.bind_some, if_neg (by decide), over_eq, Option.bind_some]
  cases hO : overB p with
  | true => rfl
  | false =>
    rw [Bool.false_or]
    by_cases hc : 40 < c.length
    · rw [if_pos (by rw [decide_eq_true_eq]; omega)]
    rw [if_neg (by rw [decide_eq_true_eq]; omega)]
    obtain ⟨hl, hrow⟩ := over_len hO
    have hs := small_over hO
    have hp : Plain p := fun r hr v hv => ⟨(hrow r hr).2 v hv, hp0 r hr v hv⟩
    rw [row_Groups_eq hs, Option.bind_some]
    by_cases ha : askedL p c = 0
    · rw [if_pos ha]
      obtain ⟨hR, hok⟩ := askedL_zero ha
      rw [if_neg (by simp)]
      obtain ⟨N, hN, h1, h2⟩ : ∃ N : Nat, IntKind.i64.wrap ((((max n (0 : Int))).tmod (64 : Int)) + (1 : Int)) = (N : Int) ∧ 1 ≤ N ∧ N ≤ 64 := by
        refine ⟨(max n 0).toNat % 64 + 1, ?_, by omega, by omega⟩
        rw [show max n 0 = (((max n 0).toNat : Nat) : Int) by omega, show (((max n 0).toNat : Nat) : Int).tmod 64 = (((max n 0).toNat % 64 : Nat) : Int) from rfl, wrapI (by omega) (by omega)]
        simp
      obtain ⟨s, hse⟩ : ∃ s, srt (gcmp c) p = s := ⟨_, rfl⟩
      have hperm : s.Perm p := by rw [← hse]; exact srt_perm _ p
      have hsort : SortedL (gcmp c) s := by rw [← hse]; exact srt_sorted (gcmp_Cmp c) p (by have := hs.len; omega)
      rw [hse]
      have hslen : s.length = p.length := hperm.length_eq
      have hmem : ∀ r ∈ s, okCols r c = true ∧ rightB r = true := fun r hr => ⟨okAll_mem hok (hperm.mem_iff.1 hr), by
        unfold allR at hR
        rw [List.all_eq_true] at hR
        exact hR r (hperm.mem_iff.1 hr)⟩
      have hkeys := runs_keys c p.length s hsort
      have hflat := runs_flat (alk c) p.length s (by omega)
      have hrm := runs_mem (alk c) p.length s
      have hrl := runs_len (alk c) p.length s
      obtain ⟨ys, hys⟩ : ∃ ys, runsF (alk c) p.length s = ys := ⟨_, rfl⟩
      rw [hys] at hkeys hflat hrm hrl ⊢
      -- the last lines
      have hend : ∀ i, law05_RowWhole_l1 p c n (ys.map (grp c), 0) [] i s = some true := by
        intro i
        unfold law05_RowWhole_l1
        rw [row_Alike_eq (hs.perm hperm.symm) hs, allR_perm hperm, hR]
        simp only [Bool.and_self, if_true, Option.bind_some, bne_self_eq_false, Bool.false_or]
        rw [show srtR s = srtR p from srt_of_perm cmpRow_Cmp hperm (by have := hs.len; omega), decide_eq_true rfl, hN, row_Part_eq hs ha hp h1 h2]
        simp only [Bool.not_true, Bool.false_eq_true, if_false, Option.bind_some, bne_self_eq_false, Bool.false_or, List.length_map, List.length_range]
        have hmodlt : ∀ r ∈ p, hashR c r % N < N := fun r _ => Nat.mod_lt _ (by omega)
        have hpp : ((List.range N).map (fun i => part c N i p)).flatten.Perm p := parts_perm (fun r => hashR c r % N) N p hmodlt
        have key : ∀ (m : List (List Row)) (i : Nat), ((List.range N).map (fun i => part c N i p)).drop i = m → law05_RowWhole_l2 p c n ((List.range N).map (fun i => part c N i p), 0) m i = some true := by
          intro m
          induction m with
          | nil =>
            intro i _
            unfold law05_RowWhole_l2
            rw [row_Merge_eq (hs.perm hpp.symm) (by rw [allR_perm hpp]; exact hR), row_Sorted_eq hs, hR, Option.bind_some, Option.bind_some]
            simp only [if_true, BEq.rfl, Bool.and_self, row_Same_eq, Option.bind_some]
            rw [decide_eq_true (srt_of_perm cmpRow_Cmp hpp (by have := (hs.perm hpp.symm).len; omega))]
          | cons e m ih =>
            intro i hi
            unfold law05_RowWhole_l2
            have he : ((List.range N).map (fun i => part c N i p))[i]? = some e := by
              have := List.getElem?_drop (xs := (List.range N).map (fun i => part c N i p)) (i := i) (j := 0)
              rw [hi] at this
              simpa using this.symm
            have hiN : i < N := by
              have := (List.getElem?_eq_some_iff.1 he).1
              simpa using this
            rw [List.getElem?_map, List.getElem?_range hiN] at he
            have he' : part c N i p = e := by simpa using he
            rw [rw3 c n N hN h1 h2 _ i e (fun r hr => ?_) (fun r hr => ?_)]
            · exact ih (i + 1) (by rw [← List.drop_drop, hi]; rfl)
            · rw [← he'] at hr
              have hr' := List.mem_filter.1 hr
              have hr2 := hmem r (hperm.mem_iff.2 hr'.1)
              exact ⟨hr2.1, hr2.2, by simpa using hr'.2⟩
            · rw [← he'] at hr
              exact hp r (List.mem_filter.1 hr).1
        exact key _ 0 rfl
      have key : ∀ (m : List (List Row)) (i : Nat), ys.drop i = m → law05_RowWhole_l1 p c n (ys.map (grp c), 0) (m.map (grp c)) i (ys.take i).flatten = some true := by
        intro m
        induction m with
        | nil =>
          intro i hi
          have hle : ys.length ≤ i := List.drop_eq_nil_iff.1 hi
          rw [List.take_of_length_le hle, hflat]
          exact hend i
        | cons y m ih =>
          intro i hi
          have hy : ys[i]? = some y := by
            have := List.getElem?_drop (xs := ys) (i := i) (j := 0)
            rw [hi] at this
            simpa using this.symm
          have hil : i < ys.length := (List.getElem?_eq_some_iff.1 hy).1
          obtain ⟨a, t, hat, hay, hty⟩ := hrm y (List.mem_of_getElem? hy)
          subst hat
          have hgr : (grp c (a :: t)).Rows = a :: t := rfl
          have hgk : (grp c (a :: t)).Key = takeR c a := rfl
          have htl : (ys.take (i + 1)).flatten = (ys.take i).flatten ++ (a :: t) := by rw [List.take_add_one, hy]; simp
          have hlen : (ys.take i).flatten.length + (a :: t).length ≤ 8000 := by
            have h3 : ys.flatten = (ys.take (i + 1)).flatten ++ (ys.drop (i + 1)).flatten := by rw [← List.flatten_append, List.take_append_drop]
            have h4 := congrArg List.length h3
            rw [htl, List.length_append, List.length_append, hflat, hslen] at h4
            omega
          rw [List.map_cons]
          unfold law05_RowWhole_l1
          rw [if_pos (by rw [hgr]; simp; omega)]
          have hcmp : (if (decide ((0 : Int) < (i : Int))) then ((idx (ys.map (grp c)) (IntKind.i64.wrap ((i : Int) - (1 : Int)))).bind fun e3 =>
              (row_Compare e3.Key (grp c (a :: t)).Key).bind fun r9 => some (decide ((0 : Int) ≤ r9))) else some false) = some false := by
            by_cases hi0 : i = 0
            · subst hi0; rfl
            · have hlt : i - 1 < ys.length := by omega
              rw [if_pos (by rw [decide_eq_true_eq]; omega), wrapI (by omega) (by omega), show (i : Int) - 1 = ((i - 1 : Nat) : Int) by omega, idx_nat, List.getElem?_map, List.getElem?_eq_getElem hlt]
              simp only [Option.map_some, Option.bind_some]
              obtain ⟨a', t', e', ha', _⟩ := hrm ys[i - 1] (List.getElem_mem hlt)
              have hk := List.pairwise_iff_getElem.1 hkeys (i - 1) i (by simpa using hlt) (by simpa using hil) (by omega)
              rw [List.getElem_map, List.getElem_map, show ys[i] = a :: t from (List.getElem?_eq_some_iff.1 hy).2, e'] at hk
              rw [e', Compare_right (a := (grp c (a' :: t')).Key) (b := (grp c (a :: t)).Key) (take_right (hmem a' ha').1 (hmem a' ha').2) (take_right (hmem a hay).1 (hmem a hay).2), Option.bind_some, decide_eq_false (by omega)]
          rw [hcmp]
          simp only [Option.bind_some, Bool.false_eq_true, if_false]
          rw [rw4 c _ i (grp c (a :: t)) _ (by rw [hgr]; exact hlen) _ (fun r hr => ?_), hgr, ← htl]
          · exact ih (i + 1) (by rw [← List.drop_drop, hi]; rfl)
          · rw [hgr] at hr
            rcases List.mem_cons.1 hr with rfl | hr
            · exact ⟨(hmem r hay).1, (hmem r hay).2, hgk.symm⟩
            · obtain ⟨q1, q2⟩ := hty r hr
              exact ⟨(hmem r q1).1, (hmem r q1).2, by rw [hgk]; exact (of_decide_eq_true q2).symm⟩
      have := key ys 0 rfl
      simpa using this
    · rw [if_neg ha, if_pos (by simp [ha])]; rfl
theorem rowWhole_holds (p : List Row) (h : inL (inL okDValue) p) (c : List Int) (n : Int) : law05_RowWhole p c n = some true :=
  rowWhole_true p (fun r hr v hv => by
    obtain ⟨_, _, ⟨h1, h2⟩, _⟩ := (h.2 r hr).2 v hv
    have e1 : IntKind.u64.min = 0 := rfl
    have e2 : IntKind.u64.max = 18446744073709551615 := rfl
    rw [e1] at h1
    rw [e2] at h2
    omega) c n
end Go.Proofs.Ytchjhcgkfglgiaa
