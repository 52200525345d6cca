/- Facts of this claim: M7. -/
import Derived.Test.YtdhledkpgaeoaaaGreatDoorKdM6
namespace Go.Proofs.YtdhledkpgaeoaaaGreatDoor
open Go

def andsT : Tr → List Tr
  | .lf n => [.lf n]
  | .un n a => [.un n a]
  | .bi n a b => if n.Tag = 22 then andsT a ++ andsT b else [.bi n a b]
theorem andsT_bi (n : DENode) (a b : Tr) : andsT (.bi n a b) = if n.Tag = 22 then andsT a ++ andsT b else [.bi n a b] := rfl
def us (s : Nat) (x : Int) : Int := if 0 ≤ x then x - (s : Int) else x
def usN (s : Nat) (n : DENode) : DENode := put2 n (us s n.L) (us s n.R)
theorem usN_put2 (k : Nat) (n : DENode) (l r : Int) : usN k (put2 n l r) = put2 n (us k l) (us k r) := rfl
theorem us_pos {k : Nat} {x : Int} (h : 0 ≤ x) : us k x = x - (k : Int) := if_pos h
theorem us_neg (k : Nat) : us k (-1) = -1 := rfl
theorem flat_us (t : Tr) (k : Nat) : ∀ s, (t.flat (s + k)).map (usN k) = t.flat s := by
  induction t with
  | lf m => intro s; rfl
  | un m a ih =>
    intro s
    have := a.size_pos
    simp only [Tr.flat, List.map_append, ih, List.map_cons, List.map_nil, usN_put2, us_neg]
    rw [us_pos (by omega), show ((s + k + a.size : Nat) : Int) - 1 - (k : Int) = ((s + a.size : Nat) : Int) - 1 from by omega]
  | bi m a b iha ihb =>
    intro s
    have := a.size_pos
    have := b.size_pos
    have hb := ihb (s + a.size)
    rw [show s + a.size + k = s + k + a.size from by omega] at hb
    simp only [Tr.flat, List.map_append, iha, hb, List.map_cons, List.map_nil, usN_put2]
    rw [us_pos (by omega), us_pos (by omega), show ((s + k + a.size : Nat) : Int) - 1 - (k : Int) = ((s + a.size : Nat) : Int) - 1 from by omega, show ((s + k + a.size + b.size : Nat) : Int) - 1 - (k : Int) = ((s + a.size + b.size : Nat) : Int) - 1 from by omega]
def bnd2 (n : DENode) : Prop := -1000000 ≤ n.L ∧ n.L ≤ 1000000 ∧ -1000000 ≤ n.R ∧ n.R ≤ 1000000
theorem flat_bnd2 (t : Tr) : ∀ s, s + t.size ≤ 1000000 → ∀ n ∈ t.flat s, bnd2 n := by
  induction t with
  | lf m => intro s _ n hn; simp only [Tr.flat, List.mem_singleton] at hn; subst hn; refine ⟨?_, ?_, ?_, ?_⟩ <;> simp [put2]
  | un m a ih =>
    intro s hs n hn
    simp only [Tr.size] at hs
    simp only [Tr.flat, List.mem_append, List.mem_singleton] at hn
    rcases hn with hn | rfl
    · exact ih s (by omega) n hn
    · refine ⟨?_, ?_, ?_, ?_⟩ <;> simp only [put2] <;> omega
  | bi m a b iha ihb =>
    intro s hs n hn
    simp only [Tr.size] at hs
    simp only [Tr.flat, List.mem_append, List.mem_singleton] at hn
    rcases hn with (hn | hn) | rfl
    · exact iha s (by omega) n hn
    · exact ihb _ (by omega) n hn
    · refine ⟨?_, ?_, ?_, ?_⟩ <;> simp only [put2] <;> omega
theorem Ands_l2_eq (nx : List DExpr → List Int → Option (List DExpr)) (out : List DExpr) (ho : out.length ≤ 100000) (y : List Int) (k : Nat) (hk : k ≤ 1000000) (xs : List DENode) (hb : ∀ n ∈ xs, bnd2 n) : ∀ (tl : List DENode) (i : Nat), xs.drop i = tl →
    expr_Ands_l2 nx out y (k : Int) tl i ⟨(xs.take i).map (usN k) ++ xs.drop i⟩ = nx (out ++ [⟨xs.map (usN k)⟩]) y
  | [], i, h => by
    have := List.drop_eq_nil_iff.1 h
    unfold expr_Ands_l2
    rw [app_ok (by simp; omega)]
    unfold expr_Ands_k1
    rw [h, List.append_nil, List.take_of_length_le this]
    rfl
  | e :: tl, i, h => by
    have hi : i < xs.length := by
      rcases Nat.lt_or_ge i xs.length with q | q
      · exact q
      · rw [List.drop_eq_nil_of_le q] at h; cases h
    obtain ⟨b1, b2, b3, b4⟩ := hb xs[i] (List.getElem_mem hi)
    have hd : xs.drop (i + 1) = tl := by rw [← List.drop_drop, h]; rfl
    have ih := Ands_l2_eq nx out ho y k hk xs hb tl (i + 1) hd
    have hs := set_map (usN k) xs i hi
    have hx := idx_map (usN k) xs i hi
    unfold expr_Ands_l2
    dsimp only
    rw [hx]
    simp only [Option.bind_some]
    have hk2 : ∀ (m : DENode), m.Tag = xs[i].Tag → m.Col = xs[i].Col → m.Value = xs[i].Value → m.R = xs[i].R → m.L = us k xs[i].L → ∀ zs : List DENode, zs[i]? = some m → zs.set i (usN k xs[i]) = (xs.take (i + 1)).map (usN k) ++ xs.drop (i + 1) →
        expr_Ands_k2 (k : Int) (expr_Ands_l2 nx out y (k : Int) tl) i ⟨zs⟩ = nx (out ++ [⟨xs.map (usN k)⟩]) y := by
      intro m h1 h2 h3 h4 h5 zs hz hset
      unfold expr_Ands_k2
      dsimp only
      rw [idx_nat, hz]
      simp only [Option.bind_some]
      by_cases hR : 0 ≤ m.R
      · rw [if_pos (by simpa using hR)]
        have hm : ({ m with R := IntKind.i64.wrap (m.R - (k : Int)) } : DENode) = usN k xs[i] := by
          rw [wrapI (by omega) (by omega)]
          obtain ⟨mt, ml, mr, mc, mv⟩ := m
          simp only at h1 h2 h3 h4 h5 hR
          subst h1 h2 h3 h4 h5
          simp only [usN, put2, us_pos hR]
        rw [hm, Int.toNat_natCast, hset]
        exact ih
      · rw [if_neg (by simpa using hR)]
        have hm : m = usN k xs[i] := by
          obtain ⟨mt, ml, mr, mc, mv⟩ := m
          simp only at h1 h2 h3 h4 h5 hR
          subst h1 h2 h3 h4 h5
          simp only [usN, put2, us, if_neg hR]
        have e1 : zs.set i (usN k xs[i]) = zs := by
          rw [← hm]
          apply List.ext_getElem?
          intro j
          by_cases hj : j = i
          · subst hj
            have hlt := (List.getElem?_eq_some_iff.1 hz).1
            rw [List.getElem?_set_self hlt, hz]
          · rw [List.getElem?_set_ne (by omega)]
        rw [← e1, hset]
        exact ih
    have hzi : ((xs.take i).map (usN k) ++ xs.drop i)[i]? = some xs[i] := by rw [← idx_nat]; exact hx
    have hlen : i < ((xs.take i).map (usN k) ++ xs.drop i).length := (List.getElem?_eq_some_iff.1 hzi).1
    by_cases hL : 0 ≤ xs[i].L
    · rw [if_pos (by simpa using hL), Int.toNat_natCast]
      refine hk2 ({ xs[i] with L := IntKind.i64.wrap (xs[i].L - (k : Int)) } : DENode) rfl rfl rfl rfl (by show IntKind.i64.wrap (xs[i].L - (k : Int)) = _; rw [wrapI (by omega) (by omega), us_pos hL]) _ (by rw [List.getElem?_set_self hlen]) ?_
      rw [List.set_set]; exact hs
    · rw [if_neg (by simpa using hL)]
      exact hk2 xs[i] rfl rfl rfl rfl (by simp only [us, if_neg hL]) _ hzi hs
def placed (N : List DENode) (all : List Int) (su : Nat × Tr) : Prop := su.2.wf ∧ su.1 + su.2.size ≤ N.length ∧ (N.drop su.1).take su.2.size = su.2.flat su.1 ∧ (all.drop su.1).take su.2.size = fl su.2 su.1
def rtI (su : Nat × Tr) : Int := ((su.1 + su.2.size : Nat) : Int) - 1
def rootN : Tr → Nat → DENode
  | .lf n, _ => put2 n (-1) (-1)
  | .un n a, s => put2 n (((s + a.size : Nat) : Int) - 1) (-1)
  | .bi n a b, s => put2 n (((s + a.size : Nat) : Int) - 1) (((s + a.size + b.size : Nat) : Int) - 1)
theorem flat_root (t : Tr) (s : Nat) : (t.flat s)[t.size - 1]? = some (rootN t s) := by
  cases t with
  | lf n => rfl
  | un n a =>
    simp only [Tr.flat, Tr.size, rootN]
    rw [List.getElem?_append_right (by rw [a.flat_len]; omega), a.flat_len]
    simp
  | bi n a b =>
    simp only [Tr.flat, Tr.size, rootN]
    rw [List.getElem?_append_right (by simp [a.flat_len, b.flat_len]), List.length_append, a.flat_len, b.flat_len]
    simp
theorem part_get {α : Type} {N xs : List α} {s k j : Nat} (h : (N.drop s).take k = xs) (hj : j < k) : N[s + j]? = xs[j]? := by
  rw [← h, List.getElem?_take_of_lt hj, List.getElem?_drop]
theorem placed_root {N : List DENode} {all : List Int} {su : Nat × Tr} (h : placed N all su) : idx N (rtI su) = some (rootN su.2 su.1) ∧ idx all (rtI su) = some (su.1 : Int) := by
  obtain ⟨hw, hl, h1, h2⟩ := h
  have hp := su.2.size_pos
  have e : rtI su = ((su.1 + (su.2.size - 1) : Nat) : Int) := by unfold rtI; omega
  rw [e, idx_nat, idx_nat, part_get h1 (by omega), part_get h2 (by omega), flat_root, fl_last]
  exact ⟨rfl, rfl⟩
theorem take_part {α : Type} {N xs ys zs : List α} {s k a b : Nat} (h : (N.drop s).take k = xs ++ ys ++ zs) (hx : xs.length = a) (hy : ys.length = b) : (N.drop s).take a = xs ∧ (N.drop (s + a)).take b = ys := by
  have hk : a + b ≤ k := by
    have := congrArg List.length h
    simp only [List.length_take, List.length_append, List.length_drop] at this
    omega
  constructor
  · have := congrArg (List.take a) h
    rw [List.take_take, Nat.min_eq_left (by omega)] at this
    rw [this, List.append_assoc, List.take_append_of_le_length (by omega), List.take_of_length_le (by omega)]
  · have this : (((N.drop s).take k).drop a).take b = ((xs ++ ys ++ zs).drop a).take b := by rw [h]
    rw [List.drop_take, List.drop_drop, List.take_take, Nat.min_eq_left (by omega)] at this
    rw [this, List.append_assoc, List.drop_append_of_le_length (by omega), List.drop_of_length_le (by omega), List.nil_append, List.take_append_of_le_length (by omega), List.take_of_length_le (by omega)]
theorem placed_bi {N : List DENode} {all : List Int} {s : Nat} {n : DENode} {a b : Tr} (h : placed N all (s, .bi n a b)) : placed N all (s, a) ∧ placed N all (s + a.size, b) := by
  obtain ⟨⟨_, ha, hb⟩, hl, h1, h2⟩ := h
  simp only [Tr.size, Tr.flat, fl] at hl h1 h2
  obtain ⟨h3, h4⟩ := take_part h1 (a.flat_len s) (b.flat_len _)
  obtain ⟨h5, h6⟩ := take_part h2 (fl_len a s) (fl_len b _)
  exact ⟨⟨ha, by show s + a.size ≤ _; omega, h3, h5⟩, ⟨hb, by show s + a.size + b.size ≤ _; omega, h4, h6⟩⟩
def szs : List (Nat × Tr) → Nat
  | [] => 0
  | su :: st => su.2.size + szs st
def outs (st : List (Nat × Tr)) : List DExpr := st.flatMap fun su => (andsT su.2).map exT
theorem ands_one {t : Tr} {s : Nat} (hw : t.wf) (h : (rootN t s).Tag ≠ 22) : andsT t = [t] := by
  cases t with
  | lf n => rfl
  | un n a => rfl
  | bi n a b => rw [andsT_bi, if_neg (show ¬ n.Tag = 22 from h)]
theorem ands_two {t : Tr} {s : Nat} (hw : t.wf) (h : (rootN t s).Tag = 22) : ∃ n a b, t = .bi n a b ∧ n.Tag = 22 := by
  cases t with
  | lf n =>
    have h : n.Tag = 22 := h
    have h1 := hw.1
    rw [h] at h1; simp [pk] at h1
  | un n a =>
    have h : n.Tag = 22 := h
    have h1 := hw.1.1
    rw [h] at h1; simp [pk] at h1
  | bi n a b => exact ⟨n, a, b, rfl, h⟩
theorem Ands_l1_eq (N : List DENode) (hN : N.length ≤ 100000) (all : List Int) (b : Bool) : ∀ (fu : Nat) (st : List (Nat × Tr)) (out : List DExpr), (∀ su ∈ st, placed N all su) → szs st < fu → st.length ≤ 100000 → out.length + szs st ≤ 90000 →
    expr_Ands_l1 ⟨N⟩ (all, b) fu out (st.map rtI).reverse = some (out ++ outs st)
  | 0, _, _, _, h, _, _ => by omega
  | fu + 1, [], out, _, _, _, _ => by
    unfold expr_Ands_l1
    simp [outs]
  | fu + 1, su :: st, out, hp, hf, hs, ho => by
    have hp0 := hp su (List.mem_cons_self ..)
    obtain ⟨h1, h2⟩ := placed_root hp0
    simp only [List.length_cons] at hs
    simp only [szs] at hf ho
    have hpos := su.2.size_pos
    unfold expr_Ands_l1
    have hlen : ((su :: st).map rtI).reverse.length = st.length + 1 := by simp
    rw [if_pos (by rw [hlen]; simp <;> omega), hlen, wrapI (by omega) (by omega)]
    have e1 : ((su :: st).map rtI).reverse = (st.map rtI).reverse ++ [rtI su] := by simp
    rw [e1, idx_at st.length (by omega), List.getElem?_append_right (by simp)]
    simp only [List.length_reverse, List.length_map, Nat.sub_self, List.getElem?_cons_zero, Option.bind_some]
    rw [sliceF_at (i := 0) 0 st.length rfl (by omega) (Nat.zero_le _) (by simp), List.drop_zero]
    rw [List.take_append_of_le_length (by simp), List.take_of_length_le (by simp)]
    simp only [Option.bind_some]
    rw [h1]
    simp only [Option.bind_some]
    have hp' : ∀ q ∈ st, placed N all q := fun q hq => hp q (List.mem_cons_of_mem _ hq)
    by_cases ht : (rootN su.2 su.1).Tag = 22
    · rw [if_pos (by simp [ht])]
      obtain ⟨s, u⟩ := su
      obtain ⟨n, a, c, rfl, hn⟩ := ands_two hp0.1 ht
      obtain ⟨hpa, hpb⟩ := placed_bi hp0
      simp only [Tr.size] at hf ho
      have e2 : (st.map rtI).reverse ++ [(rootN (.bi n a c) s).R, (rootN (.bi n a c) s).L] = (((s, a) :: (s + a.size, c) :: st).map rtI).reverse := by
        simp [rootN, put2, rtI]
      simp only at hN ⊢
      rw [app_ok (by simp; omega)]
      simp only [Option.bind_some]
      unfold expr_Ands_k1
      rw [e2, Ands_l1_eq N hN all b fu ((s, a) :: (s + a.size, c) :: st) out (fun q hq => by
        rcases List.mem_cons.1 hq with rfl | hq
        · exact hpa
        · rcases List.mem_cons.1 hq with rfl | hq
          · exact hpb
          · exact hp' q hq) (by simp only [szs]; omega) (by
            have : ∀ l : List (Nat × Tr), l.length ≤ szs l := by
              intro l
              induction l with
              | nil => exact Nat.le_refl _
              | cons q l ih => have := q.2.size_pos; simp [szs]; omega
            have := this st
            simp only [List.length_cons]; omega) (by simp only [szs]; omega)]
      congr 2
      simp only [outs, List.flatMap_cons, andsT_bi, if_pos hn, List.map_append, List.append_assoc]
    · rw [if_neg (by simpa using ht), h2]
      obtain ⟨s, u⟩ := su
      obtain ⟨hw, hl, h3, h4⟩ := hp0
      simp only at hl h3 h4 hpos hf ho ⊢
      simp only [Option.bind_some]
      have e3 : IntKind.i64.wrap (rtI (s, u) + 1) = ((s + u.size : Nat) : Int) := by
        unfold rtI
        simp only
        rw [wrapI (by omega) (by omega)]; omega
      rw [e3, sliceF_at s (s + u.size) rfl rfl (by omega) hl]
      have e4 : (N.take (s + u.size)).drop s = u.flat s := by rw [List.drop_take, Nat.add_sub_cancel_left]; exact h3
      rw [e4]
      simp only [Option.bind_some]
      rw [clone_node _ (by rw [u.flat_len]; omega)]
      simp only [Option.bind_some]
      have h5 := Ands_l2_eq (expr_Ands_l1 ⟨N⟩ (all, b) fu) out (by omega) (st.map rtI).reverse s (by omega) (u.flat s) (flat_bnd2 u s (by omega)) (u.flat s) 0 rfl
      simp only [List.take_zero, List.map_nil, List.nil_append, List.drop_zero] at h5
      rw [h5]
      have h6 := flat_us u s 0
      rw [Nat.zero_add] at h6
      rw [h6, Ands_l1_eq N hN all b fu st _ hp' (by omega) (by omega) (by simp; omega)]
      congr 1
      simp only [outs, List.flatMap_cons, ands_one hw ht, List.map_cons, List.map_nil, List.append_assoc]
      rfl
theorem expr_Ands_eq (e : DExpr) (hl : e.Nodes.length ≤ 80000) : expr_Ands e = some (match treeOf e.Nodes with
    | none => []
    | some t => (andsT t).map exT) := by
  unfold expr_Ands
  have hf := firsts_eq e.Nodes [] (by simp [sizes]; omega)
  simp only [sizes, fls, rootsL] at hf
  unfold expr_firsts
  rw [show ((0 : Nat)) = 0 from rfl] at hf
  rw [hf]
  unfold treeOf
  cases hp : parse e.Nodes [] with
  | none => rfl
  | some st =>
    have hsz := parse_sizes hp
    match st, hsz with
    | [], _ => rfl
    | [t], hsz =>
      simp only [Option.bind_some, List.length_cons, List.length_nil, Nat.zero_add, decide_true, Bool.true_and]
      have hw := (parse_some hp (fun t ht => by cases ht)).2 t (List.mem_cons_self ..)
      have hfl := (parse_some hp (fun t ht => by cases ht)).1
      simp only [flats, sizes, List.nil_append, Nat.zero_add] at hfl hsz
      simp only [sizes, Nat.zero_add, hsz]
      by_cases h1 : e.Nodes.length ≤ 1000
      · rw [if_neg (by simp [h1])]
        simp only [h1, decide_true, if_true]
        have hpl : placed e.Nodes (fls [t]) (0, t) := by
          refine ⟨hw, by show 0 + t.size ≤ _; omega, ?_, ?_⟩
          · simp only [List.drop_zero]; rw [← hfl, List.take_of_length_le (by rw [t.flat_len]; exact Nat.le_refl _)]
          · simp only [fls, sizes, List.nil_append, List.drop_zero]; rw [List.take_of_length_le (by rw [fl_len]; exact Nat.le_refl _)]
        have h2 := Ands_l1_eq e.Nodes (by omega) (fls [t]) true FUEL [(0, t)] [] (fun q hq => by
          simp only [List.mem_singleton] at hq; subst hq; exact hpl) (by simp only [szs]; exact Nat.lt_of_lt_of_le (Nat.lt_succ_self _) (fuel_ge (by omega))) (by simp) (by simp [szs]; omega)
        have e2 : ([(0, t)].map rtI).reverse = [((e.Nodes.length : Int) - 1)] := by
          simp only [List.map_cons, List.map_nil, List.reverse_cons, List.reverse_nil, List.nil_append, rtI]
          rw [← hsz]; simp
        rw [e2] at h2
        rw [wrapI (by omega) (by omega)]
        have e9 : (⟨e.Nodes⟩ : DExpr) = e := rfl
        rw [e9] at h2
        rw [h2]
        simp [outs]
      · rw [if_pos (by simp [h1])]
        simp only [h1, if_false]
    | t :: t2 :: st, _ => simp
end Go.Proofs.YtdhledkpgaeoaaaGreatDoor

