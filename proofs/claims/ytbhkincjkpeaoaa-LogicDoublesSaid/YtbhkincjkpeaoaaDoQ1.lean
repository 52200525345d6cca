/- Facts of this claim: L1, L2, L3, L4, L5, L6, L7, L8. -/
import Derived.Test.YtbhkincjkpeaoaaDoR13
import Derived.KernelRfl
namespace Go.Proofs.Ytbhkincjkpeaoaa
open Go

theorem wrapI {n : Int} (h : -9223372036854775808 ≤ n) (h2 : n ≤ 9223372036854775807) : IntKind.i64.wrap n = n := by rw [IntKind.wrap_i64]; omega
theorem app_ok {α : Type} {xs ys : List α} (h : xs.length + ys.length ≤ 68719476736) : app xs ys = some (xs ++ ys) := if_pos h
theorem sliceF_ok {α : Type} {xs : List α} {l m : Nat} (h : l ≤ m) (h2 : m ≤ xs.length) : sliceF xs (l : Int) (m : Int) = some ((xs.take m).drop l) := by
  unfold sliceF
  rw [if_pos (by omega)]
  simp
theorem sliceF_at {α : Type} {xs : List α} {i j : Int} (l m : Nat) (hi : i = (l : Int)) (hj : j = (m : Int)) (h : l ≤ m) (h2 : m ≤ xs.length) : sliceF xs i j = some ((xs.take m).drop l) := by
  subst hi hj; exact sliceF_ok h h2
theorem idx_at {α : Type} {xs : List α} {i : Int} (k : Nat) (hi : i = (k : Int)) : idx xs i = xs[k]? := by subst hi; exact idx_nat _ _
def rightV (v : DValue) : Bool := (ref02_Right v).getD false
theorem ref02_Right_eq (v : DValue) : ref02_Right v = some (rightV v) := by
  unfold rightV ref02_Right
  repeat' split
  all_goals rfl
theorem value_Check_eq (v : DValue) : value_Check v = some (if rightV v then 0 else 120) := by
  obtain ⟨k, n, u, s⟩ := v
  unfold rightV ref02_Right value_Check value_blank
  simp only [value_blank_k1, value_blank_k2, value_blank_k3, value_blank_k4]
  by_cases h0 : k = 0
  · subst h0; simp
    repeat' split
    all_goals simp_all
  by_cases h1 : k = 1
  · subst h1
    by_cases n0 : n = 0
    · subst n0; simp
      repeat' split
      all_goals simp_all
    by_cases n1 : n = 1
    · subst n1; simp
      repeat' split
      all_goals simp_all
    simp [n0, n1]
  by_cases h2 : k = 2
  · subst h2; simp
    repeat' split
    all_goals simp_all
  by_cases h3 : k = 3
  · subst h3; simp
    repeat' split
    all_goals simp_all
  by_cases h4 : k = 4
  · subst h4; simp
    repeat' split
    all_goals simp_all
  simp [h0, h1, h2, h3, h4]
def plainV (v : DValue) : Bool := rightV v && (v.Kind != 4)
theorem value_Plain_eq (v : DValue) : value_Plain v = some (plainV v) := by
  unfold value_Plain plainV
  rw [value_Check_eq]
  cases rightV v <;> simp
theorem ref02_Plain_eq (v : DValue) : ref02_Plain v = some (plainV v) := by
  unfold ref02_Plain plainV
  rw [ref02_Right_eq]
  rfl
theorem plainV_kind {v : DValue} (h : plainV v = true) : 0 ≤ v.Kind ∧ v.Kind ≤ 3 := by
  obtain ⟨k, n, u, s⟩ := v
  unfold plainV rightV ref02_Right at h
  simp only [Bool.and_eq_true, bne_iff_ne, ne_eq] at h
  obtain ⟨h1, h2⟩ := h
  by_cases h0 : k = 0
  · simp [h0]
  by_cases k1 : k = 1
  · simp [k1]
  by_cases k2 : k = 2
  · simp [k2]
  by_cases k3 : k = 3
  · simp [k3]
  simp [h0, k1, k2, k3, h2] at h1
def pk (tag : Int) : Option Nat := if tag = 1 ∨ tag = 2 then some 0 else if 4 ≤ tag ∧ tag ≤ 7 then some 1 else if 12 ≤ tag ∧ tag ≤ 23 then some 2 else none
def pkI (tag : Int) : Int := match pk tag with
  | some k => (k : Int)
  | none => -1
theorem expr_parts_eq (tag : Int) : expr_parts tag = some (pkI tag) := by
  unfold expr_parts pkI pk
  by_cases h1 : tag = 1 ∨ tag = 2
  · rw [if_pos h1, if_pos (by simpa using h1)]; rfl
  rw [if_neg h1, if_neg (by simpa using h1)]
  by_cases h2 : 4 ≤ tag ∧ tag ≤ 7
  · rw [if_pos h2, if_pos (by simpa using h2)]; rfl
  rw [if_neg h2, if_neg (by simpa using h2)]
  by_cases h3 : 12 ≤ tag ∧ tag ≤ 23
  · rw [if_pos h3, if_pos (by simpa using h3)]; rfl
  rw [if_neg h3, if_neg (by simpa using h3)]
theorem ref10_Parts_eq (tag : Int) : ref10_Parts tag = some (pkI tag) := by
  unfold ref10_Parts ref08_Parts pkI pk
  by_cases h1 : tag = 1 ∨ tag = 2
  · rw [if_pos h1]; rcases h1 with rfl | rfl <;> rfl
  rw [if_neg h1]
  by_cases h2 : 4 ≤ tag ∧ tag ≤ 7
  · rw [if_pos h2]
    have : tag = 4 ∨ tag = 5 ∨ tag = 6 ∨ tag = 7 := by omega
    rcases this with rfl | rfl | rfl | rfl <;> rfl
  rw [if_neg h2]
  by_cases h3 : 12 ≤ tag ∧ tag ≤ 23
  · rw [if_pos h3, if_neg (by simp; omega), if_neg (by simp; omega), if_neg (by simp; omega), if_neg (by simp; omega)]; rfl
  rw [if_neg h3]
  by_cases h4 : tag = 3 ∨ (8 ≤ tag ∧ tag ≤ 11)
  · rw [if_pos (by simpa using h4)]
  rw [if_neg (by simpa using h4), if_pos (by simp; omega)]
  rfl
def cnt (n : DENode) : Bool := (ref10_counts n).getD false
theorem ref10_counts_eq (n : DENode) : ref10_counts n = some (cnt n) := by
  unfold cnt ref10_counts
  rw [ref02_Plain_eq]
  split
  · rfl
  · split <;> rfl
theorem expr_counts_eq (n : DENode) : expr_counts n = some (cnt n) := by
  rw [← ref10_counts_eq]
  unfold expr_counts ref10_counts
  rw [ref02_Plain_eq, value_Plain_eq]
inductive Tr where
  | lf (n : DENode)
  | un (n : DENode) (a : Tr)
  | bi (n : DENode) (a b : Tr)
  deriving Inhabited
def Tr.size : Tr → Nat
  | .lf _ => 1
  | .un _ a => a.size + 1
  | .bi _ a b => a.size + b.size + 1
def put2 (n : DENode) (l r : Int) : DENode := { n with L := l, R := r }
def Tr.flat : Tr → Nat → List DENode
  | .lf n, _ => [put2 n (-1) (-1)]
  | .un n a, s => a.flat s ++ [put2 n ((s + a.size : Nat) - 1) (-1)]
  | .bi n a b, s => a.flat s ++ b.flat (s + a.size) ++ [put2 n ((s + a.size : Nat) - 1) ((s + a.size + b.size : Nat) - 1)]
def okN (k : Nat) (n : DENode) : Prop := pk n.Tag = some k ∧ cnt n = true ∧ n.L = -1 ∧ n.R = -1
def Tr.wf : Tr → Prop
  | .lf n => okN 0 n
  | .un n a => okN 1 n ∧ a.wf
  | .bi n a b => okN 2 n ∧ a.wf ∧ b.wf
theorem Tr.size_pos (t : Tr) : 0 < t.size := by cases t <;> simp [Tr.size]
theorem Tr.flat_len (t : Tr) : ∀ s, (t.flat s).length = t.size := by
  induction t with
  | lf n => intro s; rfl
  | un n a ih => intro s; simp [Tr.flat, Tr.size, ih]
  | bi n a b iha ihb => intro s; simp [Tr.flat, Tr.size, iha, ihb]; omega
def sizes : List Tr → Nat
  | [] => 0
  | t :: st => sizes st + t.size
def flats : List Tr → List DENode
  | [] => []
  | t :: st => flats st ++ t.flat (sizes st)
theorem flats_len : ∀ st : List Tr, (flats st).length = sizes st
  | [] => rfl
  | t :: st => by simp [flats, sizes, flats_len st, t.flat_len]
theorem sizes_len : ∀ st : List Tr, st.length ≤ sizes st
  | [] => Nat.le_refl _
  | t :: st => by have := sizes_len st; have := t.size_pos; simp [sizes]; omega
def push (st : List Tr) (n : DENode) : Option (List Tr) :=
  match pk n.Tag, st with
  | some 0, st => if cnt n && n.L == -1 && n.R == -1 then some (.lf (put2 n (-1) (-1)) :: st) else none
  | some 1, a :: st => if cnt n && n.L == ((sizes st + a.size : Nat) : Int) - 1 && n.R == -1 then some (.un (put2 n (-1) (-1)) a :: st) else none
  | some 2, b :: a :: st => if cnt n && n.L == ((sizes st + a.size : Nat) : Int) - 1 && n.R == ((sizes st + a.size + b.size : Nat) : Int) - 1 then some (.bi (put2 n (-1) (-1)) a b :: st) else none
  | _, _ => none
def parse : List DENode → List Tr → Option (List Tr)
  | [], st => some st
  | n :: ns, st => (push st n).bind (parse ns)
def wfs (st : List Tr) : Prop := ∀ t ∈ st, t.wf
theorem put2_at {n : DENode} {l r : Int} (h : n.L = l) (h2 : n.R = r) : put2 (put2 n (-1) (-1)) l r = n := by subst h h2; rfl
theorem push_some {st st' : List Tr} {n : DENode} (h : push st n = some st') (hw : wfs st) : flats st' = flats st ++ [n] ∧ sizes st' = sizes st + 1 ∧ wfs st' := by
  unfold push at h
  split at h
  · rename_i k st0 hk
    split at h
    · rename_i hc
      simp only [Bool.and_eq_true, beq_iff_eq] at hc
      obtain ⟨⟨h1, h2⟩, h3⟩ := hc
      cases h
      refine ⟨?_, rfl, fun t ht => ?_⟩
      · simp only [flats, Tr.flat]
        rw [put2_at h2 h3]
      · rcases List.mem_cons.1 ht with rfl | ht
        · exact ⟨hk, h1, rfl, rfl⟩
        · exact hw t ht
    · cases h
  · rename_i k a st0 hk
    split at h
    · rename_i hc
      simp only [Bool.and_eq_true, beq_iff_eq] at hc
      obtain ⟨⟨h1, h2⟩, h3⟩ := hc
      cases h
      refine ⟨?_, by simp [sizes, Tr.size]; omega, fun t ht => ?_⟩
      · simp only [flats, Tr.flat]
        rw [put2_at h2 h3, List.append_assoc]
      · rcases List.mem_cons.1 ht with rfl | ht
        · exact ⟨⟨hk, h1, rfl, rfl⟩, hw a (List.mem_cons_self ..)⟩
        · exact hw t (List.mem_cons_of_mem _ ht)
    · cases h
  · rename_i k b a st0 hk
    split at h
    · rename_i hc
      simp only [Bool.and_eq_true, beq_iff_eq] at hc
      obtain ⟨⟨h1, h2⟩, h3⟩ := hc
      cases h
      refine ⟨?_, by simp [sizes, Tr.size]; omega, fun t ht => ?_⟩
      · simp only [flats, Tr.flat, sizes]
        rw [put2_at h2 h3]
        simp only [List.append_assoc]
      · rcases List.mem_cons.1 ht with rfl | ht
        · exact ⟨⟨hk, h1, rfl, rfl⟩, hw a (List.mem_cons_of_mem _ (List.mem_cons_self ..)), hw b (List.mem_cons_self ..)⟩
        · exact hw t (List.mem_cons_of_mem _ (List.mem_cons_of_mem _ ht))
    · cases h
  · cases h
theorem parse_some : ∀ {ns : List DENode} {st st' : List Tr}, parse ns st = some st' → wfs st → flats st' = flats st ++ ns ∧ wfs st'
  | [], st, st', h, hw => by cases h; simp [hw]
  | n :: ns, st, st', h, hw => by
    unfold parse at h
    cases hp : push st n with
    | none => rw [hp] at h; cases h
    | some st1 =>
      rw [hp] at h
      obtain ⟨h1, _, h3⟩ := push_some hp hw
      obtain ⟨h4, h5⟩ := parse_some (ns := ns) h h3
      exact ⟨by rw [h4, h1]; simp, h5⟩
theorem parse_append : ∀ (ns ms : List DENode) (st : List Tr), parse (ns ++ ms) st = (parse ns st).bind (parse ms)
  | [], ms, st => rfl
  | n :: ns, ms, st => by
    simp only [List.cons_append, parse]
    cases push st n with
    | none => rfl
    | some st1 => exact parse_append ns ms st1
theorem parse_flat (t : Tr) : ∀ (st : List Tr), t.wf → parse (t.flat (sizes st)) st = some (t :: st) := by
  induction t with
  | lf n =>
    intro st ⟨h1, h2, h3, h4⟩
    have hn' : put2 n (-1) (-1) = n := by cases n; simp only at h3 h4; subst h3 h4; rfl
    simp only [Tr.flat, parse, push, hn']
    rw [h1]
    simp [h2, h3, h4, parse, hn']
  | un n a ih =>
    intro st ⟨⟨h1, h2, h3, h4⟩, ha⟩
    have hn' : put2 n (-1) (-1) = n := by cases n; simp only at h3 h4; subst h3 h4; rfl
    simp only [Tr.flat]
    rw [parse_append, ih st ha]
    simp only [Option.bind_some, parse, push]
    have e1 : (put2 n (((sizes st + a.size : Nat) : Int) - 1) (-1)).Tag = n.Tag := rfl
    rw [e1, h1]
    have e2 : cnt (put2 n (((sizes st + a.size : Nat) : Int) - 1) (-1)) = true := h2
    rw [e2]
    simp only [put2, beq_self_eq_true, Bool.and_self, if_true, Option.bind_some, parse]
    simp only [put2] at hn'
    rw [hn']
  | bi n a b iha ihb =>
    intro st ⟨⟨h1, h2, h3, h4⟩, ha, hb⟩
    have hn' : put2 n (-1) (-1) = n := by cases n; simp only at h3 h4; subst h3 h4; rfl
    simp only [Tr.flat]
    rw [parse_append, parse_append, iha st ha]
    simp only [Option.bind_some]
    have e0 : sizes st + a.size = sizes (a :: st) := rfl
    rw [e0, ihb (a :: st) hb]
    simp only [Option.bind_some, parse, push]
    have e1 : (put2 n (((sizes (a :: st) : Nat) : Int) - 1) (((sizes (a :: st) + b.size : Nat) : Int) - 1)).Tag = n.Tag := rfl
    rw [e1, h1]
    have e2 : cnt (put2 n (((sizes (a :: st) : Nat) : Int) - 1) (((sizes (a :: st) + b.size : Nat) : Int) - 1)) = true := h2
    rw [e2]
    simp only [put2, sizes, beq_self_eq_true, Bool.and_self, if_true, Option.bind_some, parse]
    simp only [put2] at hn'
    rw [hn']
def treeOf (ns : List DENode) : Option Tr := match parse ns [] with
  | some [t] => if ns.length ≤ 1000 then some t else none
  | _ => none
theorem treeOf_some {ns : List DENode} {t : Tr} (h : treeOf ns = some t) : t.wf ∧ ns = t.flat 0 ∧ t.size ≤ 1000 := by
  unfold treeOf at h
  split at h
  · rename_i t0 hp
    split at h
    · rename_i hl
      cases h
      obtain ⟨h1, h2⟩ := parse_some hp (fun t ht => by cases ht)
      simp only [flats, sizes, List.nil_append] at h1
      exact ⟨h2 t (List.mem_cons_self ..), h1.symm, by rw [← t.flat_len 0, h1]; exact hl⟩
    · cases h
  · cases h
theorem treeOf_flat {t : Tr} (h : t.wf) (hs : t.size ≤ 1000) : treeOf (t.flat 0) = some t := by
  unfold treeOf
  have h0 := parse_flat t [] h
  simp only [sizes] at h0
  rw [h0]
  simp only [t.flat_len, hs, if_true]
def fl : Tr → Nat → List Int
  | .lf _, s => [(s : Int)]
  | .un _ a, s => fl a s ++ [(s : Int)]
  | .bi _ a b, s => fl a s ++ fl b (s + a.size) ++ [(s : Int)]
def fls : List Tr → List Int
  | [] => []
  | t :: st => fls st ++ fl t (sizes st)
def rootsL : List Tr → List Int
  | [] => []
  | t :: st => rootsL st ++ [((sizes st + t.size : Nat) : Int) - 1]
theorem fl_len (t : Tr) : ∀ s, (fl t s).length = t.size := by
  induction t with
  | lf n => intro s; rfl
  | un n a ih => intro s; simp [fl, Tr.size, ih]
  | bi n a b iha ihb => intro s; simp [fl, Tr.size, iha, ihb]; omega
theorem fls_len : ∀ st : List Tr, (fls st).length = sizes st
  | [] => rfl
  | t :: st => by simp [fls, sizes, fls_len st, fl_len]
theorem rootsL_len : ∀ st : List Tr, (rootsL st).length = st.length
  | [] => rfl
  | t :: st => by simp [rootsL, rootsL_len st]
theorem fl_last (t : Tr) (s : Nat) : (fl t s)[t.size - 1]? = some (s : Int) := by
  cases t with
  | lf n => rfl
  | un n a => simp only [fl, Tr.size]; rw [List.getElem?_append_right (by rw [fl_len]; omega), fl_len]; simp
  | bi n a b => simp only [fl, Tr.size]; rw [List.getElem?_append_right (by simp [fl_len]), List.length_append, fl_len, fl_len]; simp
theorem fls_root (t : Tr) (st : List Tr) (rest : List Int) : (fls st ++ fl t (sizes st) ++ rest)[sizes st + t.size - 1]? = some (sizes st : Int) := by
  have := t.size_pos
  rw [List.getElem?_append_left (by rw [List.length_append, fls_len, fl_len]; omega), List.getElem?_append_right (by rw [fls_len]; omega), fls_len, show sizes st + t.size - 1 - sizes st = t.size - 1 from by omega]
  exact fl_last t _
theorem firsts_eq : ∀ (ns : List DENode) (st : List Tr), sizes st + ns.length ≤ 100000 → expr_firsts_l1 ns (sizes st) (fls st) (rootsL st) = some (match parse ns st with
      | some st' => (fls st', decide (st'.length = 1) && decide (sizes st' ≤ 1000))
      | none => ([], false)) := by
  intro ns
  induction ns with
  | nil =>
    intro st _
    simp only [expr_firsts_l1, parse, rootsL_len, fls_len]
    congr 2
    congr 1
    · rw [Bool.eq_iff_iff]; simp; omega
    · rw [Bool.eq_iff_iff]; simp; omega
  | cons n ns ih =>
    intro st hs
    simp only [List.length_cons] at hs
    have hll := sizes_len st
    unfold expr_firsts_l1
    rw [expr_parts_eq]
    simp only [Option.bind_some, rootsL_len, expr_counts_eq]
    unfold parse
    unfold push
    -- the parts
    cases hk : pk n.Tag with
    | none =>
      have e : pkI n.Tag = -1 := by unfold pkI; rw [hk]
      simp [e]
    | some k =>
      have e : pkI n.Tag = (k : Int) := by unfold pkI; rw [hk]
      have hk3 : k = 0 ∨ k = 1 ∨ k = 2 := by
        unfold pk at hk
        repeat' split at hk
        all_goals simp at hk
        all_goals omega
      rw [e]
      rcases hk3 with rfl | rfl | rfl
      · -- none
        simp only []
        have c1 : (decide (((0 : Nat) : Int) < 0) || decide ((st.length : Int) < ((0 : Nat) : Int))) = false := by simp
        simp only [c1, Bool.not_false, if_true, Option.bind_some]
        cases hc : cnt n with
        | false => simp
        | true =>
          simp only [Bool.not_true, Bool.false_eq_true, if_false, Bool.true_and]
          rw [sliceF_at st.length st.length (by rw [wrapI (by omega) (by omega)]; omega) rfl (Nat.le_refl _) (by rw [rootsL_len]; exact Nat.le_refl _)]
          have hd : (List.take st.length (rootsL st)).drop st.length = [] := List.drop_of_length_le (by simp; omega)
          simp only [hd, Option.bind_some, expr_firsts_l2]
          by_cases hL : n.L = -1 ∧ n.R = -1
          · have hb : (n.L == -1 && n.R == -1) = true := by simp [hL]
            rw [if_pos hb, if_neg (by simp [hL.1, hL.2])]
            rw [app_ok (by simp only [List.length_cons, List.length_nil, fls_len]; omega)]
            simp only [Option.bind_some]
            rw [sliceF_at (i := 0) 0 st.length rfl (by rw [rootsL_len, wrapI (by omega) (by omega)]; omega) (Nat.zero_le _) (by rw [rootsL_len]; exact Nat.le_refl _)]
            rw [List.take_of_length_le (by rw [rootsL_len]; exact Nat.le_refl _), List.drop_zero]
            simp only [Option.bind_some]
            rw [app_ok (by simp only [List.length_cons, List.length_nil, rootsL_len]; omega)]
            simp only [Option.bind_some]
            have h2 := ih (.lf (put2 n (-1) (-1)) :: st) (by simp [sizes, Tr.size]; omega)
            simp only [sizes, Tr.size, fls, fl, rootsL] at h2
            rw [show (((sizes st + 1 : Nat) : Int) - 1) = (sizes st : Int) from by omega] at h2
            exact h2
          · have hb : (n.L == -1 && n.R == -1) = false := by
              rw [Bool.eq_false_iff]; intro h; apply hL; simpa using h
            rw [hb]
            rw [if_pos (by
              simp only [Bool.not_eq_true', decide_eq_false_iff_not]
              intro h
              have h1 : (-1 : Int) = n.L := by injection h
              have h2 : (-1 : Int) = n.R := by injection h with _ h; injection h
              exact hL ⟨h1.symm, h2.symm⟩)]
            simp
      · -- one
        cases st with
        | nil => simp
        | cons a st =>
          simp only []
          have c1 : (decide (((1 : Nat) : Int) < 0) || decide (((a :: st).length : Int) < ((1 : Nat) : Int))) = false := by simp; omega
          simp only [c1, Bool.not_false, if_true, Option.bind_some]
          cases hc : cnt n with
          | false => simp
          | true =>
            simp only [Bool.not_true, Bool.false_eq_true, if_false, Bool.true_and]
            simp only [List.length_cons] at hll ⊢
            simp only [sizes] at hs hll
            have hap := a.size_pos
            rw [sliceF_at st.length (st.length + 1) (by rw [wrapI (by omega) (by omega)]; omega) (by omega) (by omega) (by rw [rootsL_len]; exact Nat.le_refl _)]
            have hd : (List.take (st.length + 1) (rootsL (a :: st))).drop st.length = [((sizes st + a.size : Nat) : Int) - 1] := by
              rw [List.take_of_length_le (by rw [rootsL_len]; exact Nat.le_refl _)]
              simp only [rootsL]
              rw [List.drop_append_of_le_length (by rw [rootsL_len]; exact Nat.le_refl _), List.drop_of_length_le (by rw [rootsL_len]; exact Nat.le_refl _), List.nil_append]
            rw [hd]
            simp only [Option.bind_some, expr_firsts_l2]
            rw [idx_at (sizes st + a.size - 1) (by omega)]
            have hf := fls_root a st []
            rw [List.append_nil] at hf
            simp only [fls]
            rw [hf]
            simp only [Option.bind_some]
            rw [idx_at 0 rfl]
            simp only [List.getElem?_cons_zero, Option.bind_some]
            have hset : ([(-1 : Int), -1].set ((0 : Nat) : Int).toNat (((sizes st + a.size : Nat) : Int) - 1)) = [((sizes st + a.size : Nat) : Int) - 1, -1] := rfl
            rw [hset]
            by_cases hL : n.L = ((sizes st + a.size : Nat) : Int) - 1 ∧ n.R = -1
            · have hb : (n.L == ((sizes st + a.size : Nat) : Int) - 1 && n.R == -1) = true := by simp [hL]
              rw [if_pos hb, if_neg (by rw [hL.1, hL.2]; simp)]
              rw [app_ok (by simp only [List.length_cons, List.length_nil, List.length_append, fls_len, fl_len]; omega)]
              simp only [Option.bind_some]
              rw [sliceF_at (i := 0) 0 st.length rfl (by rw [rootsL_len, wrapI (by simp <;> omega) (by simp <;> omega)]; simp) (Nat.zero_le _) (by rw [rootsL_len]; simp)]
              have ht : (List.take st.length (rootsL (a :: st))).drop 0 = rootsL st := by
                simp only [rootsL, List.drop_zero]
                rw [List.take_append_of_le_length (by rw [rootsL_len]; exact Nat.le_refl _), List.take_of_length_le (by rw [rootsL_len]; exact Nat.le_refl _)]
              rw [ht]
              simp only [Option.bind_some]
              rw [app_ok (by simp only [List.length_cons, List.length_nil, rootsL_len]; omega)]
              simp only [Option.bind_some]
              have h2 := ih (.un (put2 n (-1) (-1)) a :: st) (by simp [sizes, Tr.size]; omega)
              simp only [sizes, Tr.size, fls, fl, rootsL] at h2
              rw [show (((sizes st + (a.size + 1) : Nat) : Int) - 1) = ((sizes st + a.size : Nat) : Int) from by omega] at h2
              have hm : min ((sizes (a :: st) : Nat) : Int) (sizes st : Int) = (sizes st : Int) := by simp only [sizes]; omega
              rw [hm]
              simp only [List.append_assoc] at h2 ⊢
              exact h2
            · have hb : (n.L == ((sizes st + a.size : Nat) : Int) - 1 && n.R == -1) = false := by
                rw [Bool.eq_false_iff]; intro h; apply hL; simpa using h
              rw [hb]
              rw [if_pos (by
                simp only [Bool.not_eq_true', decide_eq_false_iff_not]
                intro h
                have h1 : ((sizes st + a.size : Nat) : Int) - 1 = n.L := by injection h
                have h2 : (-1 : Int) = n.R := by injection h with _ h; injection h
                exact hL ⟨h1.symm, h2.symm⟩)]
              simp
      · -- two
        cases st with
        | nil => simp
        | cons b st =>
          cases st with
          | nil => simp
          | cons a st =>
            simp only []
            have c1 : (decide (((2 : Nat) : Int) < 0) || decide (((b :: a :: st).length : Int) < ((2 : Nat) : Int))) = false := by simp; omega
            simp only [c1, Bool.not_false, if_true, Option.bind_some]
            cases hc : cnt n with
            | false => simp
            | true =>
              simp only [Bool.not_true, Bool.false_eq_true, if_false, Bool.true_and]
              simp only [List.length_cons] at hll ⊢
              simp only [sizes] at hs hll
              have hap := a.size_pos
              have hbp := b.size_pos
              rw [sliceF_at st.length (st.length + 1 + 1) (by rw [wrapI (by omega) (by omega)]; omega) (by omega) (by omega) (by rw [rootsL_len]; exact Nat.le_refl _)]
              have hd : (List.take (st.length + 1 + 1) (rootsL (b :: a :: st))).drop st.length = [((sizes st + a.size : Nat) : Int) - 1, ((sizes st + a.size + b.size : Nat) : Int) - 1] := by
                rw [List.take_of_length_le (by rw [rootsL_len]; exact Nat.le_refl _)]
                simp only [rootsL, sizes, List.append_assoc]
                rw [List.drop_append_of_le_length (by rw [rootsL_len]; exact Nat.le_refl _), List.drop_of_length_le (by rw [rootsL_len]; exact Nat.le_refl _), List.nil_append]
                rfl
              rw [hd]
              simp only [Option.bind_some, expr_firsts_l2]
              simp only [fls, sizes]
              rw [idx_at (sizes st + a.size - 1) (by omega)]
              rw [fls_root a st (fl b (sizes st + a.size))]
              simp only [Option.bind_some]
              rw [idx_at 0 rfl]
              simp only [List.getElem?_cons_zero, Option.bind_some]
              have hset : ([(-1 : Int), -1].set ((0 : Nat) : Int).toNat (((sizes st + a.size : Nat) : Int) - 1)) = [((sizes st + a.size : Nat) : Int) - 1, -1] := rfl
              rw [hset]
              rw [idx_at (sizes st + a.size + b.size - 1) (by omega)]
              have hf := fls_root b (a :: st) []
              rw [List.append_nil] at hf
              simp only [fls, sizes] at hf
              rw [hf]
              simp only [Option.bind_some]
              rw [idx_at (0 + 1) rfl]
              simp only [List.getElem?_cons_succ, List.getElem?_cons_zero, Option.bind_some]
              have hset2 : ([((sizes st + a.size : Nat) : Int) - 1, -1].set ((0 + 1 : Nat) : Int).toNat (((sizes st + a.size + b.size : Nat) : Int) - 1)) = [((sizes st + a.size : Nat) : Int) - 1, ((sizes st + a.size + b.size : Nat) : Int) - 1] := rfl
              rw [hset2]
              by_cases hL : n.L = ((sizes st + a.size : Nat) : Int) - 1 ∧ n.R = ((sizes st + a.size + b.size : Nat) : Int) - 1
              · have hb : (n.L == ((sizes st + a.size : Nat) : Int) - 1 && n.R == ((sizes st + a.size + b.size : Nat) : Int) - 1) = true := by rw [hL.1, hL.2]; simp
                rw [if_pos hb, if_neg (by rw [hL.1, hL.2]; simp)]
                rw [app_ok (by simp only [List.length_cons, List.length_nil, List.length_append, fls_len, fl_len]; omega)]
                simp only [Option.bind_some]
                rw [sliceF_at (i := 0) 0 st.length rfl (by rw [rootsL_len, wrapI (by simp; omega) (by simp; omega)]; simp; omega) (Nat.zero_le _) (by rw [rootsL_len]; simp; omega)]
                have ht : (List.take st.length (rootsL (b :: a :: st))).drop 0 = rootsL st := by
                  simp only [rootsL, List.drop_zero, List.append_assoc]
                  rw [List.take_append_of_le_length (by rw [rootsL_len]; exact Nat.le_refl _), List.take_of_length_le (by rw [rootsL_len]; exact Nat.le_refl _)]
                rw [ht]
                simp only [Option.bind_some]
                rw [app_ok (by simp only [List.length_cons, List.length_nil, rootsL_len]; omega)]
                simp only [Option.bind_some]
                have h2 := ih (.bi (put2 n (-1) (-1)) a b :: st) (by simp [sizes, Tr.size]; omega)
                simp only [sizes, Tr.size, fls, fl, rootsL] at h2
                rw [show (((sizes st + (a.size + b.size + 1) : Nat) : Int) - 1) = ((sizes st + a.size + b.size : Nat) : Int) from by omega, show sizes st + (a.size + b.size + 1) = sizes st + a.size + b.size + 1 from by omega] at h2
                have hm : min (min (((sizes st + a.size + b.size : Nat)) : Int) (sizes st : Int)) ((sizes st + a.size : Nat) : Int) = (sizes st : Int) := by omega
                rw [hm]
                simp only [List.append_assoc] at h2 ⊢
                exact h2
              · have hb : (n.L == ((sizes st + a.size : Nat) : Int) - 1 && n.R == ((sizes st + a.size + b.size : Nat) : Int) - 1) = false := by
                  rw [Bool.eq_false_iff]; intro h; apply hL; simpa using h
                rw [hb]
                rw [if_pos (by
                  simp only [Bool.not_eq_true', decide_eq_false_iff_not]
                  intro h
                  have h1 : ((sizes st + a.size : Nat) : Int) - 1 = n.L := by injection h
                  have h2 : ((sizes st + a.size + b.size : Nat) : Int) - 1 = n.R := by injection h with _ h; injection h
                  exact hL ⟨h1.symm, h2.symm⟩)]
                simp
end Go.Proofs.Ytbhkincjkpeaoaa

namespace Go.Proofs.Ytbhkincjkpeaoaa
open Go

theorem fuel_ge {n : Nat} (h : n ≤ 1000000) : n ≤ FUEL := by unfold FUEL; omega
def rightE (ns : List DENode) : Bool := (treeOf ns).isSome
theorem parse_sizes {ns : List DENode} {st : List Tr} (h : parse ns [] = some st) : sizes st = ns.length := by
  have := (parse_some h (fun t ht => by cases ht)).1
  rw [← flats_len, this]; simp [flats]
theorem expr_Check_eq (e : DExpr) (h : e.Nodes.length ≤ 100000) : expr_Check e = some (if rightE e.Nodes then 0 else 200) := by
  unfold expr_Check expr_firsts rightE treeOf
  have := firsts_eq e.Nodes [] (by simpa [sizes] using h)
  simp only [sizes, fls, rootsL] at this
  rw [this]
  cases hp : parse e.Nodes [] with
  | none => rfl
  | some st =>
    have hsz := parse_sizes hp
    match st, hsz with
    | [], _ => rfl
    | [t], hsz =>
      simp only [Option.bind_some, hsz]
      by_cases hl : e.Nodes.length ≤ 1000 <;> simp [hl]
    | t :: t2 :: st, _ => simp
theorem size_of (t : Tr) : t.wf → ∀ (P R N : List DENode) (fu : Nat), N = P ++ t.flat P.length ++ R → t.size ≤ fu → N.length ≤ 100000 → ref10_size_f fu ⟨N⟩ (((P.length + t.size : Nat) : Int) - 1) = some (t.size : Int) := by
  induction t with
  | lf n =>
    intro ⟨h1, h2, h3, h4⟩ P R N fu hN hf hl
    have hNl := congrArg List.length hN
    simp only [List.length_append, Tr.flat_len] at hNl
    simp only [Tr.size] at hf hNl ⊢
    obtain ⟨fu, rfl⟩ : ∃ k, fu = k + 1 := ⟨fu - 1, by omega⟩
    unfold ref10_size_f
    have hx : N[P.length]? = some (put2 n (-1) (-1)) := by
      rw [hN, List.append_assoc, List.getElem?_append_right (Nat.le_refl _), Nat.sub_self]; rfl
    rw [if_neg (by simp; omega), idx_at P.length (by omega), hx]
    have e1 : (put2 n (-1) (-1)).Tag = n.Tag := rfl
    simp only [Option.bind_some]
    rw [e1, ref10_Parts_eq]
    have e : pkI n.Tag = 0 := by unfold pkI; rw [h1]; rfl
    simp only [e, Option.bind_some, ref10_counts_eq]
    have e2 : cnt (put2 n (-1) (-1)) = true := h2
    rw [e2]
    simp [put2]
  | un n a ih =>
    intro ⟨⟨h1, h2, h3, h4⟩, ha⟩ P R N fu hN hf hl
    obtain ⟨m, hm⟩ : ∃ m, m = put2 n (((P.length + a.size : Nat) : Int) - 1) (-1) := ⟨_, rfl⟩
    have hNl := congrArg List.length hN
    simp only [List.length_append, Tr.flat_len] at hNl
    simp only [Tr.size] at hf hNl ⊢
    simp only [Tr.flat, ← hm] at hN
    obtain ⟨fu, rfl⟩ : ∃ k, fu = k + 1 := ⟨fu - 1, by omega⟩
    have hpos := a.size_pos
    have hi := ih ha P ([m] ++ R) N fu (by rw [hN]; simp only [List.append_assoc]) (by omega) hl
    unfold ref10_size_f
    have hx : N[P.length + a.size]? = some m := by
      rw [hN, List.append_assoc, List.append_assoc, ← List.append_assoc P, List.getElem?_append_right (by simp [a.flat_len])]
      simp [a.flat_len]
    rw [if_neg (by simp; omega), idx_at (P.length + a.size) (by omega), hx]
    simp only [Option.bind_some]
    have e1 : m.Tag = n.Tag := by rw [hm]; rfl
    rw [e1, ref10_Parts_eq]
    have e : pkI n.Tag = 1 := by unfold pkI; rw [h1]; rfl
    simp only [e, Option.bind_some, ref10_counts_eq]
    have e2 : cnt m = true := by rw [hm]; exact h2
    have eL : m.L = ((P.length + a.size : Nat) : Int) - 1 := by rw [hm]; rfl
    have eR : m.R = -1 := by rw [hm]; rfl
    rw [wrapI (n := ((P.length + (a.size + 1) : Nat) : Int) - 1 - 1) (by omega) (by omega), show (((P.length + (a.size + 1) : Nat) : Int) - 1 - 1) = (((P.length + a.size : Nat) : Int) - 1) from by omega]
    rw [hi]
    simp only [Option.bind_some]
    rw [wrapI (n := (a.size : Int) + 1) (by omega) (by omega)]
    have n1 : ¬ a.size = 0 := by omega
    simp [e2, eL, eR, n1]
  | bi n a b iha ihb =>
    intro ⟨⟨h1, h2, h3, h4⟩, ha, hb⟩ P R N fu hN hf hl
    obtain ⟨m, hm⟩ : ∃ m, m = put2 n (((P.length + a.size : Nat) : Int) - 1) (((P.length + a.size + b.size : Nat) : Int) - 1) := ⟨_, rfl⟩
    have hNl := congrArg List.length hN
    simp only [List.length_append, Tr.flat_len] at hNl
    simp only [Tr.size] at hf hNl ⊢
    simp only [Tr.flat, ← hm] at hN
    obtain ⟨fu, rfl⟩ : ∃ k, fu = k + 1 := ⟨fu - 1, by omega⟩
    have hap := a.size_pos
    have hbp := b.size_pos
    have hi1 := iha ha P (b.flat (P.length + a.size) ++ [m] ++ R) N fu (by rw [hN]; simp only [List.append_assoc]) (by omega) hl
    have hi2 := ihb hb (P ++ a.flat P.length) ([m] ++ R) N fu (by rw [hN]; simp only [List.append_assoc, List.length_append, a.flat_len]) (by omega) hl
    rw [List.length_append, a.flat_len] at hi2
    unfold ref10_size_f
    have hx : N[P.length + a.size + b.size]? = some m := by
      rw [hN, List.append_assoc, List.append_assoc, ← List.append_assoc P, List.getElem?_append_right (by simp [a.flat_len, b.flat_len]; omega)]
      have : P.length + a.size + b.size - (P ++ (a.flat P.length ++ b.flat (P.length + a.size))).length = 0 := by simp [a.flat_len, b.flat_len]; omega
      rw [this]; rfl
    rw [if_neg (by simp; omega), idx_at (P.length + a.size + b.size) (by omega), hx]
    simp only [Option.bind_some]
    have e1 : m.Tag = n.Tag := by rw [hm]; rfl
    rw [e1, ref10_Parts_eq]
    have e : pkI n.Tag = 2 := by unfold pkI; rw [h1]; rfl
    simp only [e, Option.bind_some, ref10_counts_eq]
    have e2 : cnt m = true := by rw [hm]; exact h2
    have eL : m.L = ((P.length + a.size : Nat) : Int) - 1 := by rw [hm]; rfl
    have eR : m.R = ((P.length + a.size + b.size : Nat) : Int) - 1 := by rw [hm]; rfl
    rw [wrapI (n := ((P.length + (a.size + b.size + 1) : Nat) : Int) - 1 - 1) (by omega) (by omega), show (((P.length + (a.size + b.size + 1) : Nat) : Int) - 1 - 1) = (((P.length + a.size + b.size : Nat) : Int) - 1) from by omega]
    rw [hi2]
    simp only [Option.bind_some]
    rw [wrapI (n := ((P.length + a.size + b.size : Nat) : Int) - 1 - (b.size : Int)) (by omega) (by omega), show ((P.length + a.size + b.size : Nat) : Int) - 1 - (b.size : Int) = ((P.length + a.size : Nat) : Int) - 1 from by omega]
    rw [hi1]
    simp only [Option.bind_some]
    rw [wrapI (n := (a.size : Int) + (b.size : Int)) (by omega) (by omega), wrapI (n := (a.size : Int) + (b.size : Int) + 1) (by omega) (by omega)]
    have n1 : ¬ a.size = 0 := by omega
    have n2 : ¬ b.size = 0 := by omega
    have e5 : (P.length : Int) + (a.size : Int) + (b.size : Int) - 1 - (b.size : Int) = (P.length : Int) + (a.size : Int) - 1 := by omega
    simp [e2, eL, eR, n1, n2, e5]
theorem size_is (N : List DENode) (hN : N.length ≤ 100000) : ∀ (fu q : Nat), q ≤ N.length → q < fu → ∃ k : Nat, ref10_size_f fu ⟨N⟩ ((q : Int) - 1) = some (k : Int) ∧ (k = 0 ∨ ∃ (t : Tr) (P R : List DENode), t.wf ∧ t.size = k ∧ N = P ++ t.flat P.length ++ R ∧ P.length + k = q) := by
  intro fu
  induction fu with
  | zero => intro q _ h; omega
  | succ fu ih =>
    intro q hq hf
    unfold ref10_size_f
    by_cases h0 : q = 0
    · subst h0
      exact ⟨0, by rw [if_pos (by simp)]; rfl, .inl rfl⟩
    rw [if_neg (by simp; omega), idx_at (q - 1) (by omega)]
    have hlt : q - 1 < N.length := by omega
    rw [List.getElem?_eq_getElem hlt]
    obtain ⟨n, hn⟩ : ∃ n, n = N[q - 1] := ⟨_, rfl⟩
    rw [← hn]
    have hd : N = N.take (q - 1) ++ ([n] ++ N.drop q) := by
      have h1 := List.take_append_drop (q - 1) N
      rw [List.drop_eq_getElem_cons hlt, ← hn, show q - 1 + 1 = q from by omega] at h1
      exact h1.symm
    simp only [Option.bind_some, ref10_Parts_eq, ref10_counts_eq]
    cases hk : pk n.Tag with
    | none =>
      have e : pkI n.Tag = -1 := by unfold pkI; rw [hk]
      exact ⟨0, by simp [e], .inl rfl⟩
    | some k =>
      have e : pkI n.Tag = (k : Int) := by unfold pkI; rw [hk]
      have hk3 : k = 0 ∨ k = 1 ∨ k = 2 := by
        unfold pk at hk
        repeat' split at hk
        all_goals simp at hk
        all_goals omega
      cases hc : cnt n with
      | false => exact ⟨0, by simp [e, hc], .inl rfl⟩
      | true =>
        rcases hk3 with rfl | rfl | rfl
        · rw [e]
          by_cases hL : n.L = -1 ∧ n.R = -1
          · refine ⟨1, by simp [hL], .inr ⟨.lf (put2 n (-1) (-1)), N.take (q - 1), N.drop q, ⟨hk, hc, rfl, rfl⟩, rfl, ?_, by simp; omega⟩⟩
            simp only [Tr.flat]
            rw [put2_at hL.1 hL.2, List.append_assoc]
            exact hd
          · refine ⟨0, ?_, .inl rfl⟩
            have : (n.L != -1 || n.R != -1) = true := by
              rw [Bool.or_eq_true, bne_iff_ne, bne_iff_ne]
              by_cases hl : n.L = -1
              · exact .inr fun h => hL ⟨hl, h⟩
              · exact .inl hl
            simp [this]
        · rw [e, wrapI (by omega) (by omega)]
          have e9 : (((q - 1 : Nat) : Int) - 1) = (q : Int) - 1 - 1 := by omega
          obtain ⟨r2, h2, h2'⟩ := ih (q - 1) (by omega) (by omega)
          rw [e9] at h2
          rw [h2]
          rcases h2' with rfl | ⟨t, P, R, hw, hs, hN2, hl⟩
          · exact ⟨0, by simp, .inl rfl⟩
          · have hp := t.size_pos
            by_cases hL : n.L = (q : Int) - 1 - 1 ∧ n.R = -1
            · refine ⟨r2 + 1, ?_, .inr ⟨.un (put2 n (-1) (-1)) t, P, N.drop q, ⟨⟨hk, hc, rfl, rfl⟩, hw⟩, by simp only [Tr.size]; omega, ?_, by omega⟩⟩
              · simp only [Option.bind_some]
                rw [wrapI (n := (r2 : Int) + 1) (by omega) (by omega)]
                have : ¬ (r2 = 0) := by omega
                simp [hL, this]
              · simp only [Tr.flat]
                rw [put2_at (by rw [hL.1]; omega) hL.2]
                have ht : N.take (q - 1) = P ++ t.flat P.length := by
                  rw [hN2, List.take_append_of_le_length (by simp [t.flat_len]; omega), List.take_of_length_le (by simp [t.flat_len]; omega)]
                rw [ht] at hd
                simpa only [List.append_assoc] using hd
            · refine ⟨0, ?_, .inl rfl⟩
              have : (n.L != (q : Int) - 1 - 1 || n.R != -1) = true := by
                rw [Bool.or_eq_true, bne_iff_ne, bne_iff_ne]
                by_cases hl : n.L = (q : Int) - 1 - 1
                · exact .inr fun h => hL ⟨hl, h⟩
                · exact .inl hl
              simp [this]
        · rw [e, wrapI (n := (q : Int) - 1 - 1) (by omega) (by omega)]
          have e9 : (((q - 1 : Nat) : Int) - 1) = (q : Int) - 1 - 1 := by omega
          obtain ⟨r2, h2, h2'⟩ := ih (q - 1) (by omega) (by omega)
          rw [e9] at h2
          rw [h2]
          rcases h2' with rfl | ⟨t, P, R, hw, hs, hN2, hl⟩
          · exact ⟨0, by simp, .inl rfl⟩
          · have hp := t.size_pos
            simp only [Option.bind_some]
            rw [wrapI (n := (q : Int) - 1 - 1 - (r2 : Int)) (by omega) (by omega)]
            have e8 : (((q - 1 - r2 : Nat) : Int) - 1) = (q : Int) - 1 - 1 - (r2 : Int) := by omega
            have n2 : ¬ (r2 = 0) := by omega
            obtain ⟨r3, h3, h3'⟩ := ih (q - 1 - r2) (by omega) (by omega)
            rw [e8] at h3
            rw [h3]
            rcases h3' with rfl | ⟨t3, P3, R3, hw3, hs3, hN3, hl3⟩
            · exact ⟨0, by simp, .inl rfl⟩
            · have hp3 := t3.size_pos
              have n3 : ¬ (r3 = 0) := by omega
              by_cases hL : n.R = (q : Int) - 1 - 1 ∧ n.L = (q : Int) - 1 - 1 - (r2 : Int)
              · refine ⟨r3 + r2 + 1, ?_, .inr ⟨.bi (put2 n (-1) (-1)) t3 t, P3, N.drop q, ⟨⟨hk, hc, rfl, rfl⟩, hw3, hw⟩, by simp only [Tr.size]; omega, ?_, by omega⟩⟩
                · simp only [Option.bind_some]
                  rw [wrapI (n := (r3 : Int) + (r2 : Int)) (by omega) (by omega), wrapI (n := (r3 : Int) + (r2 : Int) + 1) (by omega) (by omega)]
                  simp [hL, n2, n3]
                · simp only [Tr.flat]
                  rw [put2_at (by rw [hL.2]; omega) (by rw [hL.1]; omega)]
                  have ht : N.take (q - 1) = P ++ t.flat P.length := by
                    rw [hN2, List.take_append_of_le_length (by simp [t.flat_len]; omega), List.take_of_length_le (by simp [t.flat_len]; omega)]
                  have hP : P = N.take P.length := by
                    conv => rhs; rw [hN2, List.append_assoc, List.take_append_of_le_length (Nat.le_refl _), List.take_of_length_le (Nat.le_refl _)]
                  have hP3 : P = P3 ++ t3.flat P3.length := by
                    rw [hP]
                    have : P.length = P3.length + t3.size := by omega
                    conv => lhs; rw [this, hN3]
                    rw [List.take_append_of_le_length (by simp [t3.flat_len]), List.take_of_length_le (by simp [t3.flat_len])]
                  have hPl : P.length = P3.length + t3.size := by omega
                  rw [ht, hPl] at hd
                  rw [hP3] at hd
                  simpa only [List.append_assoc] using hd
              · clear ih hN2 hN3
                refine ⟨0, ?_, .inl rfl⟩
                have : (n.R != (q : Int) - 1 - 1 || n.L != (q : Int) - 1 - 1 - (r2 : Int)) = true := by
                  rw [Bool.or_eq_true, bne_iff_ne, bne_iff_ne]
                  by_cases hl : n.R = (q : Int) - 1 - 1
                  · exact .inr fun h => hL ⟨hl, h⟩
                  · exact .inl hl
                have h' := this
                rw [Bool.or_eq_true, bne_iff_ne, bne_iff_ne] at h'
                simp [n2, n3]
                intro h1 h2
                exact absurd h2 (by rcases h' with h' | h'; exact absurd h1 h'; exact h')
theorem ref10_Right_eq (e : DExpr) : ref10_Right e = some (rightE e.Nodes) := by
  unfold ref10_Right rightE
  by_cases h : 1 ≤ e.Nodes.length ∧ e.Nodes.length ≤ 1000
  · rw [if_pos (by simp; omega), wrapI (by omega) (by omega)]
    unfold ref10_size
    obtain ⟨k, h1, h2⟩ := size_is e.Nodes (by omega) FUEL e.Nodes.length (Nat.le_refl _) (Nat.lt_of_lt_of_le (Nat.lt_succ_self _) (fuel_ge (by omega)))
    have h1' : ref10_size_f FUEL e ((e.Nodes.length : Int) - 1) = some (k : Int) := h1
    rw [h1']
    simp only [Option.bind_some]
    congr 1
    rw [Bool.eq_iff_iff]
    constructor
    · intro hk
      have hk' : k = e.Nodes.length := by have := eq_of_beq hk; omega
      rcases h2 with rfl | ⟨t, P, R, hw, hs, hN, hl⟩
      · omega
      · have hP : P = [] := List.eq_nil_of_length_eq_zero (by omega)
        subst hP
        have hR : R = [] := by
          have := congrArg List.length hN
          simp [t.flat_len] at this
          exact List.eq_nil_of_length_eq_zero (by omega)
        subst hR
        have hN' : e.Nodes = t.flat 0 := by simpa using hN
        rw [hN', treeOf_flat hw (by omega)]; rfl
    · intro hi
      cases ht : treeOf e.Nodes with
      | none => rw [ht] at hi; cases hi
      | some t =>
        obtain ⟨hw, hN, hs⟩ := treeOf_some ht
        have hlen : e.Nodes.length = t.size := by rw [hN, t.flat_len]
        have h3 := size_of t hw [] [] e.Nodes FUEL (by simpa using hN) (fuel_ge (by omega)) (by omega)
        simp only [List.length_nil, Nat.zero_add] at h3
        rw [← hlen] at h3
        have h4 : some (k : Int) = some (e.Nodes.length : Int) := h1.symm.trans h3
        simpa using h4
  · rw [if_neg (by simp; omega)]
    simp only [Option.bind_some]
    congr 1
    symm
    rw [Bool.eq_false_iff]
    intro hi
    cases ht : treeOf e.Nodes with
    | none => rw [ht] at hi; cases hi
    | some t =>
      obtain ⟨hw, hN, hs⟩ := treeOf_some ht
      have hlen : e.Nodes.length = t.size := by rw [hN, t.flat_len]
      have := t.size_pos
      omega
theorem rightE_len {ns : List DENode} (h : rightE ns = true) : 1 ≤ ns.length ∧ ns.length ≤ 1000 := by
  unfold rightE at h
  cases ht : treeOf ns with
  | none => rw [ht] at h; cases h
  | some t =>
    obtain ⟨hw, hN, hs⟩ := treeOf_some ht
    have hlen : ns.length = t.size := by rw [hN, t.flat_len]
    have := t.size_pos
    omega
end Go.Proofs.Ytbhkincjkpeaoaa

namespace Go.Proofs.Ytbhkincjkpeaoaa
open Go

def ddup {α : Type} [DecidableEq α] : α → List α → List α
  | _, [] => []
  | p, x :: t => if x = p then ddup x t else x :: ddup x t
theorem ddup_nil {α : Type} [DecidableEq α] (p : α) : ddup p [] = [] := by unfold ddup; rfl
theorem ddup_same {α : Type} [DecidableEq α] {p x : α} (h : x = p) (t : List α) : ddup p (x :: t) = ddup x t := by conv => lhs; unfold ddup
                                                                                                                   rw [if_pos h]
theorem ddup_ne {α : Type} [DecidableEq α] {p x : α} (h : ¬ x = p) (t : List α) : ddup p (x :: t) = x :: ddup x t := by conv => lhs; unfold ddup
                                                                                                                        rw [if_neg h]
def dedup {α : Type} [DecidableEq α] : List α → List α
  | [] => []
  | x :: t => x :: ddup x t
theorem ddup_mem {α : Type} [DecidableEq α] : ∀ (p : α) (l : List α) (z : α), z ∈ ddup p l → z ∈ l
  | p, x :: t, z, h => by
    unfold ddup at h
    split at h
    · exact List.mem_cons_of_mem _ (ddup_mem x t z h)
    · rcases List.mem_cons.1 h with rfl | h
      · exact List.mem_cons_self ..
      · exact List.mem_cons_of_mem _ (ddup_mem x t z h)
theorem mem_ddup {α : Type} [DecidableEq α] : ∀ (p : α) (l : List α) (z : α), z ∈ l → z = p ∨ z ∈ ddup p l
  | p, x :: t, z, h => by
    unfold ddup
    by_cases hx : x = p
    · rw [if_pos hx]
      rcases List.mem_cons.1 h with rfl | h
      · exact .inl hx
      · rcases mem_ddup x t z h with h | h
        · exact .inl (h.trans hx)
        · exact .inr h
    · rw [if_neg hx]
      rcases List.mem_cons.1 h with rfl | h
      · exact .inr (List.mem_cons_self ..)
      · rcases mem_ddup x t z h with h | h
        · exact .inr (by rw [h]; exact List.mem_cons_self ..)
        · exact .inr (List.mem_cons_of_mem _ h)
theorem mem_dedup {α : Type} [DecidableEq α] (l : List α) (z : α) : z ∈ dedup l ↔ z ∈ l := by
  cases l with
  | nil => exact Iff.rfl
  | cons x t =>
    constructor
    · intro h
      rcases List.mem_cons.1 h with rfl | h
      · exact List.mem_cons_self ..
      · exact List.mem_cons_of_mem _ (ddup_mem x t z h)
    · intro h
      rcases List.mem_cons.1 h with rfl | h
      · exact List.mem_cons_self ..
      · rcases mem_ddup x t z h with rfl | h
        · exact List.mem_cons_self ..
        · exact List.mem_cons_of_mem _ h
theorem compact_l2 (p : List Int) (hp : p.length ≤ 8000) (i : Nat) (y : List Int) (hy : i + y.length = p.length) : ∀ (k i1 : Nat) (x : List Int) (x1 : Nat), i1 + k = y.length → 0 < i1 → x.length = p.length → x1 + 1 ≤ i + i1 → x.drop (i + i1 - 1) = p.drop (i + i1 - 1) →
    slices_Compact_int_int_l2 i y k i1 x (x1 : Int) = some (x.take x1 ++ ddup ((p[i + i1 - 1]?).getD 0) (p.drop (i + i1))) := by
  intro k
  induction k with
  | zero =>
    intro i1 x x1 h1 h0 hx h2 h3
    simp only [slices_Compact_int_int_l2]
    have hx1 : x1 ≤ x.length := by omega
    rw [sliceF_ok hx1 (Nat.le_refl _)]
    simp only [Option.bind_some, List.take_length, Int.toNat_natCast]
    rw [show ((0 : Int)) = ((0 : Nat) : Int) from rfl, sliceF_ok (Nat.zero_le _) (by simp; omega)]
    simp only [Option.bind_some, List.drop_zero]
    have hn : p.drop (i + i1) = [] := List.drop_eq_nil_of_le (by omega)
    rw [hn, ddup_nil, List.append_nil, List.take_append_of_le_length (by simp; omega), List.take_take, Nat.min_self]
  | succ k ih =>
    intro i1 x x1 h1 h0 hx h2 h3
    have e1 : x[i + i1]? = p[i + i1]? := by
      have := congrArg (fun l : List Int => l[1]?) h3
      simp only [List.getElem?_drop] at this
      rwa [show i + i1 - 1 + 1 = i + i1 from by omega] at this
    have e0 : x[i + i1 - 1]? = p[i + i1 - 1]? := by
      have := congrArg (fun l : List Int => l[0]?) h3
      simpa only [List.getElem?_drop, Nat.add_zero] using this
    have hlt : i + i1 < p.length := by omega
    have g1 : idxV x (i : Int) y.length (i1 : Int) = some p[i + i1] := by
      unfold idxV
      rw [if_pos (by omega), show (i : Int) + (i1 : Int) = ((i + i1 : Nat) : Int) from by omega, idx_nat, e1, List.getElem?_eq_getElem hlt]
    have g0 : idxV x (i : Int) y.length (IntKind.i64.wrap ((i1 : Int) - 1)) = some p[i + i1 - 1] := by
      rw [wrapI (by omega) (by omega)]
      unfold idxV
      rw [if_pos (by omega), show (i : Int) + ((i1 : Int) - 1) = ((i + i1 - 1 : Nat) : Int) from by omega, idx_nat, e0, List.getElem?_eq_getElem (by omega)]
    have hd : p.drop (i + i1) = p[i + i1] :: p.drop (i + i1 + 1) := List.drop_eq_getElem_cons hlt
    have hp1 : (p[i + i1 - 1]?).getD 0 = p[i + i1 - 1] := by rw [List.getElem?_eq_getElem (by omega)]; rfl
    simp only [slices_Compact_int_int_l2, g1, g0, Option.bind_some]
    rw [hd, hp1]
    by_cases hx2 : p[i + i1] = p[i + i1 - 1]
    · rw [if_neg (by simp [hx2])]
      have h3' : x.drop (i + (i1 + 1) - 1) = p.drop (i + (i1 + 1) - 1) := by
        have := congrArg (List.drop 1) h3
        rwa [List.drop_drop, List.drop_drop, show i + i1 - 1 + 1 = i + (i1 + 1) - 1 from by omega] at this
      rw [ih (i1 + 1) x x1 (by omega) (by omega) hx (by omega) h3']
      rw [ddup_same hx2, show i + (i1 + 1) - 1 = i + i1 from by omega, List.getElem?_eq_getElem hlt, show i + (i1 + 1) = i + i1 + 1 from by omega]
      rfl
    · rw [if_pos (by simp [hx2]), idx_nat, List.getElem?_eq_getElem (by omega)]
      simp only [Option.bind_some, Int.toNat_natCast]
      rw [wrapI (by omega) (by omega), show ((x1 : Int) + 1) = ((x1 + 1 : Nat) : Int) from by omega]
      have h3' : (x.set x1 p[i + i1]).drop (i + (i1 + 1) - 1) = p.drop (i + (i1 + 1) - 1) := by
        rw [List.drop_set_of_lt (by omega)]
        have := congrArg (List.drop 1) h3
        rwa [List.drop_drop, List.drop_drop, show i + i1 - 1 + 1 = i + (i1 + 1) - 1 from by omega] at this
      rw [ih (i1 + 1) _ (x1 + 1) (by omega) (by omega) (by simpa using hx) (by omega) h3']
      rw [ddup_ne hx2, show i + (i1 + 1) - 1 = i + i1 from by omega, List.getElem?_eq_getElem hlt, show i + (i1 + 1) = i + i1 + 1 from by omega]
      have ht : (x.set x1 p[i + i1]).take (x1 + 1) = x.take x1 ++ [p[i + i1]] := by
        rw [List.take_succ_eq_append_getElem (by simp; omega), List.take_set_of_le (by omega)]
        simp
      rw [ht]
      simp
theorem compact_eq (p : List Int) (hp : p.length ≤ 8000) : slices_Compact_int_int p = some (dedup p) := by
  unfold slices_Compact_int_int
  by_cases h2 : p.length < 2
  · rw [if_pos (by simp; omega)]
    match p, h2 with
    | [], _ => rfl
    | [x], _ => rfl
  · rw [if_neg (by simp; omega)]
    have key : ∀ (l : List Int) (i : Nat), p.drop i = l → 0 < i → i ≤ p.length → dedup p = p.take i ++ ddup ((p[i - 1]?).getD 0) (p.drop i) → slices_Compact_int_int_l1 p l i = some (dedup p) := by
      intro l
      induction l with
      | nil =>
        intro i h1 h0 hle h3
        have := List.drop_eq_nil_iff.1 h1
        simp only [slices_Compact_int_int_l1]
        rw [h3, h1, List.take_of_length_le (by omega), ddup_nil, List.append_nil]
      | cons x t ih =>
        intro i h1 h0 hle h3
        have hi : i < p.length := by
          rcases Nat.lt_or_ge i p.length with h | h
          · exact h
          · rw [List.drop_eq_nil_of_le h] at h1; cases h1
        have hx : x = p[i] := by rw [List.drop_eq_getElem_cons hi] at h1; exact (List.cons.inj h1).1.symm
        have ht : p.drop (i + 1) = t := by rw [← List.drop_drop, h1]; rfl
        have hp1 : (p[i - 1]?).getD 0 = p[i - 1] := by rw [List.getElem?_eq_getElem (by omega)]; rfl
        simp only [slices_Compact_int_int_l1]
        rw [wrapI (by omega) (by omega), show (i : Int) - 1 = ((i - 1 : Nat) : Int) from by omega, idx_nat, List.getElem?_eq_getElem (by omega)]
        simp only [Option.bind_some]
        by_cases he : x = p[i - 1]
        · rw [if_pos (by simp [he])]
          rw [sliceF_ok hle (Nat.le_refl _)]
          simp only [Option.bind_some, List.take_length]
          rw [compact_l2 p hp i (p.drop i) (by simp; omega) _ 1 p i (by simp; omega) (by omega) rfl (by omega) (by simp)]
          rw [h3, h1, hp1, ddup_same he, ← ht, hx]
          rw [show i + 1 - 1 = i from by omega, List.getElem?_eq_getElem hi]; rfl
        · rw [if_neg (by simp [he])]
          refine ih (i + 1) ht (by omega) (by omega) ?_
          rw [h3, h1, hp1, ddup_ne he, List.take_succ_eq_append_getElem hi, ← ht, hx, show i + 1 - 1 = i from by omega, List.getElem?_eq_getElem hi]
          rw [List.append_assoc]; rfl
    have hpc : p = p[0] :: p.drop 1 := by
      have := List.drop_eq_getElem_cons (l := p) (i := 0) (by omega)
      simpa using this
    refine key (p.drop 1) 1 rfl (by omega) (by omega) ?_
    have e : (p[1 - 1]?).getD 0 = p[0] := by simp [List.getElem?_eq_getElem (show 0 < p.length by omega)]
    rw [e]
    conv => lhs; rw [hpc]
    have e2 : p.take 1 = [p[0]] := by
      conv => lhs; rw [hpc]
      rfl
    rw [e2]; rfl

theorem mem_sortI (l : List Int) (z : Int) : z ∈ sortI l ↔ z ∈ l := by unfold sortI; simp
theorem Cols_l1_eq : ∀ (ns : List DENode) (out : List Int), out.length + ns.length ≤ 8000 → ∃ cs, expr_Cols_l1 ns out = some cs ∧ ∀ c, c ∈ cs ↔ c ∈ out ∨ ∃ n ∈ ns, n.Tag = 2 ∧ n.Col = c
  | [], out, h => by
    unfold expr_Cols_l1 sortIF
    rw [if_pos (by simp at h; omega)]
    simp only [Option.bind_some]
    rw [compact_eq _ (by rw [sortI_len]; simpa using h)]
    exact ⟨_, rfl, fun c => by rw [mem_dedup, mem_sortI]; simp⟩
  | n :: ns, out, h => by
    simp only [List.length_cons] at h
    unfold expr_Cols_l1
    by_cases ht : n.Tag = 2
    · rw [if_pos (by simp [ht]), app_ok (by simp; omega)]
      simp only [Option.bind_some]
      obtain ⟨cs, h1, h2⟩ := Cols_l1_eq ns (out ++ [n.Col]) (by simp; omega)
      exact ⟨cs, h1, fun c => by rw [h2]; simp [ht, or_assoc, eq_comm]⟩
    · rw [if_neg (by simp [ht])]
      obtain ⟨cs, h1, h2⟩ := Cols_l1_eq ns out (by omega)
      exact ⟨cs, h1, fun c => by rw [h2]; simp [ht]⟩
theorem expr_Cols_eq (e : DExpr) (h : rightE e.Nodes = true) : ∃ cs, expr_Cols e = some cs ∧ ∀ c, c ∈ cs ↔ ∃ n ∈ e.Nodes, n.Tag = 2 ∧ n.Col = c := by
  have hl := rightE_len h
  unfold expr_Cols
  rw [expr_Check_eq e (by omega), h]
  obtain ⟨cs, h1, h2⟩ := Cols_l1_eq e.Nodes [] (by simp; omega)
  exact ⟨cs, by simpa using h1, fun c => by rw [h2]; simp⟩
def kn (tag l r : Int) : Int × Bool := (ref10_kind tag l r).getD (0, false)
theorem ref10_kind_eq (tag l r : Int) : ref10_kind tag l r = some (kn tag l r) := by
  unfold kn ref10_kind ref10_fits
  simp only [Option.bind_some]
  repeat' split
  all_goals simp
def k4 (k : Int) : Prop := k = 0 ∨ k = 1 ∨ k = 2 ∨ k = 3
theorem kn_k4 (tag l r : Int) : k4 (kn tag l r).1 := by
  unfold kn ref10_kind ref10_fits
  simp only [Option.bind_some]
  repeat' split
  all_goals simp [k4]
theorem Kind_1_one (kinds : List Int) (n : DENode) (x : Int) (hx : k4 x) (hk : pk n.Tag = some 1) : expr_Kind_1 kinds n [x] = some (if (kn n.Tag x 0).2 then ((kn n.Tag x 0).1, 0) else (0, 201)) := by
  obtain ⟨tag, L, R, col, v⟩ := n
  have ht : tag = 4 ∨ tag = 5 ∨ tag = 6 ∨ tag = 7 := by
    unfold pk at hk
    repeat' split at hk
    all_goals simp at hk
    rename_i h
    have h : 4 ≤ tag ∧ tag ≤ 7 := h
    omega
  rcases ht with rfl | rfl | rfl | rfl <;> rcases hx with rfl | rfl | rfl | rfl <;> rfl
theorem Kind_1_two (kinds : List Int) (n : DENode) (x y : Int) (hx : k4 x) (hy : k4 y) (hk : pk n.Tag = some 2) : expr_Kind_1 kinds n [x, y] = some (if (kn n.Tag x y).2 then ((kn n.Tag x y).1, 0) else (0, 201)) := by
  obtain ⟨tag, L, R, col, v⟩ := n
  have ht : tag = 12 ∨ tag = 13 ∨ tag = 14 ∨ tag = 15 ∨ tag = 16 ∨ tag = 17 ∨ tag = 18 ∨ tag = 19 ∨ tag = 20 ∨ tag = 21 ∨ tag = 22 ∨ tag = 23 := by
    unfold pk at hk
    repeat' split at hk
    all_goals simp at hk
    rename_i h
    have h : 12 ≤ tag ∧ tag ≤ 23 := h
    omega
  rcases ht with rfl | rfl | rfl | rfl | rfl | rfl | rfl | rfl | rfl | rfl | rfl | rfl <;> rcases hx with rfl | rfl | rfl | rfl <;> rcases hy with rfl | rfl | rfl | rfl <;> rfl
def kd (kinds : List Int) : Tr → Option Int
  | .lf n => if n.Tag = 1 then some n.Value.Kind else some ((kinds[n.Col.toNat]?).getD 0)
  | .un n a => (kd kinds a).bind fun x => if (kn n.Tag x 0).2 then some (kn n.Tag x 0).1 else none
  | .bi n a b => (kd kinds a).bind fun x => (kd kinds b).bind fun y => if (kn n.Tag x y).2 then some (kn n.Tag x y).1 else none
theorem kd_un (kinds : List Int) (n : DENode) (a : Tr) : kd kinds (.un n a) = (kd kinds a).bind fun x => if (kn n.Tag x 0).2 then some (kn n.Tag x 0).1 else none := rfl
theorem kd_bi (kinds : List Int) (n : DENode) (a b : Tr) : kd kinds (.bi n a b) = (kd kinds a).bind fun x => (kd kinds b).bind fun y => if (kn n.Tag x y).2 then some (kn n.Tag x y).1 else none := rfl
def colsT (m : Nat) : Tr → Prop
  | .lf n => n.Tag = 2 → n.Col < m
  | .un _ a => colsT m a
  | .bi _ a b => colsT m a ∧ colsT m b
theorem pk0 {tag : Int} (h : pk tag = some 0) : tag = 1 ∨ tag = 2 := by
  unfold pk at h
  repeat' split at h
  all_goals simp at h
  assumption
theorem cnt1 {n : DENode} (h : cnt n = true) (ht : n.Tag = 1) : plainV n.Value = true := by
  have h2 := ref10_counts_eq n
  rw [h] at h2
  unfold ref10_counts at h2
  rw [if_pos (by simp [ht]), ref02_Plain_eq] at h2
  simp at h2
  exact h2.1
theorem cnt2 {n : DENode} (h : cnt n = true) (ht : n.Tag = 2) : 0 ≤ n.Col ∧ n.Col < 16 := by
  have h2 := ref10_counts_eq n
  rw [h] at h2
  unfold ref10_counts at h2
  rw [if_neg (by simp [ht]), if_pos (by simp [ht])] at h2
  simp at h2
  exact ⟨h2.1.2, h2.2⟩
theorem kd_k4 {kinds : List Int} (hk : ∀ k ∈ kinds, k4 k) : ∀ (t : Tr), t.wf → ∀ {k}, kd kinds t = some k → k4 k
  | .lf n, ⟨h1, h2, _, _⟩, k, h => by
    unfold kd at h
    split at h
    · rename_i ht
      have := plainV_kind (cnt1 h2 ht)
      cases h; unfold k4; omega
    · injection h with h
      subst h
      cases hc : kinds[n.Col.toNat]? with
      | none => exact .inl rfl
      | some z => exact hk z (List.mem_of_getElem? hc)
  | .un n a, _, k, h => by
    unfold kd at h
    cases ha : kd kinds a with
    | none => rw [ha] at h; cases h
    | some x =>
      rw [ha, Option.bind_some] at h
      split at h
      · cases h; exact kn_k4 ..
      · cases h
  | .bi n a b, _, k, h => by
    unfold kd at h
    cases ha : kd kinds a with
    | none => rw [ha] at h; cases h
    | some x =>
      cases hb : kd kinds b with
      | none => rw [ha, hb] at h; cases h
      | some y =>
        rw [ha, hb] at h
        simp only [Option.bind_some] at h
        split at h
        · cases h; exact kn_k4 ..
        · cases h
theorem over_1 (stack l : List Int) (h : stack.length + l.length ≤ 100000) : expr_over_1_int (stack ++ l) (l.length : Int) = some (l, stack) := by
  unfold expr_over_1_int slices_Clone_int_int
  have e : IntKind.i64.wrap (((stack ++ l).length : Int) - (l.length : Int)) = (stack.length : Int) := by
    rw [List.length_append, wrapI (by omega) (by omega)]; omega
  rw [e, sliceF_at stack.length (stack ++ l).length rfl rfl (by simp) (Nat.le_refl _)]
  simp only [Option.bind_some, List.take_length, List.drop_append_of_le_length (Nat.le_refl _), List.drop_length, List.nil_append]
  rw [app_ok (by simp; omega)]
  simp only [Option.bind_some, List.nil_append]
  rw [sliceF_at (i := 0) 0 stack.length rfl rfl (Nat.zero_le _) (by simp)]
  simp
theorem over_bad (stack : List Int) {b : Int} (h : b ≠ 0) : expr_over_int_k1 b stack = some (0, b) := by
  unfold expr_over_int_k1; rw [if_pos (by simpa using h)]
theorem expr_parts_of {tag : Int} {k : Nat} (h : pk tag = some k) : expr_parts tag = some (k : Int) := by
  rw [expr_parts_eq]; unfold pkI; rw [h]
theorem over_tree (kinds : List Int) (hk : ∀ k ∈ kinds, k4 k) (t : Tr) : t.wf → colsT kinds.length t → ∀ (s : Nat) (rest : List DENode) (stack : List Int), stack.length + t.size ≤ 50000 →
    expr_over_int_l1 (expr_Kind_1 kinds) (t.flat s ++ rest) 0 stack = match kd kinds t with
      | some k => expr_over_int_l1 (expr_Kind_1 kinds) rest 0 (stack ++ [k])
      | none => some (0, 201) := by
  induction t with
  | lf n =>
    intro ⟨h1, h2, h3, h4⟩ hc s rest stack hl
    simp only [Tr.flat, Tr.size, List.cons_append, List.nil_append] at hl ⊢
    rw [expr_over_int_l1]
    have e1 : (put2 n (-1) (-1)).Tag = n.Tag := rfl
    rw [e1, expr_parts_of h1]
    have h0 := over_1 stack [] (by simp; omega)
    simp only [List.append_nil, List.length_nil] at h0
    simp only [Option.bind_some]
    rw [h0]
    simp only [Option.bind_some]
    have hv : expr_Kind_1 kinds (put2 n (-1) (-1)) [] = (kd kinds (.lf n)).map (fun k => (k, (0 : Int))) := by
      unfold expr_Kind_1 expr_Kind_1_l1 kd
      simp only [e1]
      rcases pk0 h1 with ht | ht
      · rw [if_pos (by simp [ht]), if_pos ht]; rfl
      · rw [if_neg (by simp [ht]), if_pos (by simp [ht]), if_neg (by simp [ht])]
        have hb := cnt2 h2 ht
        have hm : n.Col < kinds.length := hc ht
        have e2 : (put2 n (-1) (-1)).Col = n.Col := rfl
        rw [e2, idx_at n.Col.toNat (by omega), List.getElem?_eq_getElem (by omega)]
        rfl
    rw [hv]
    have : ∃ k, kd kinds (.lf n) = some k := by unfold kd; split <;> exact ⟨_, rfl⟩
    obtain ⟨k, hk1⟩ := this
    rw [hk1]
    simp only [Option.map_some, Option.bind_some]
    rw [if_neg (by simp), app_ok (by simp; omega)]
    rfl
  | un n a ih =>
    intro ⟨⟨h1, h2, h3, h4⟩, ha⟩ hc s rest stack hl
    simp only [Tr.flat, Tr.size, List.append_assoc] at hl ⊢
    rw [kd_un, ih ha hc s _ stack (by omega)]
    cases hx : kd kinds a with
    | none => rfl
    | some x =>
      have hx4 := kd_k4 hk a ha hx
      simp only [Option.bind_some, List.cons_append, List.nil_append]
      rw [expr_over_int_l1]
      have e1 : (put2 n (((s + a.size : Nat) : Int) - 1) (-1)).Tag = n.Tag := rfl
      rw [e1, expr_parts_of h1]
      have h0 := over_1 stack [x] (by simp; omega)
      simp only [Option.bind_some]
      have e0 : (([x] : List Int).length : Int) = ((1 : Nat) : Int) := rfl
      rw [← e0, h0]
      simp only [Option.bind_some]
      rw [Kind_1_one kinds _ x hx4 (by rw [e1]; exact h1), e1]
      cases hb : (kn n.Tag x 0).2 with
      | true =>
        simp only [if_true, Option.bind_some]
        rw [if_neg (by simp), app_ok (by simp; omega)]
        rfl
      | false =>
        simp only [Bool.false_eq_true, if_false, Option.bind_some]
        rw [if_pos (by decide), over_bad _ (by decide)]
  | bi n a b iha ihb =>
    intro ⟨⟨h1, h2, h3, h4⟩, ha, hb⟩ ⟨hca, hcb⟩ s rest stack hl
    simp only [Tr.flat, Tr.size, List.append_assoc] at hl ⊢
    rw [kd_bi, iha ha hca s _ stack (by omega)]
    cases hx : kd kinds a with
    | none => rfl
    | some x =>
      have hx4 := kd_k4 hk a ha hx
      simp only [Option.bind_some]
      rw [ihb hb hcb (s + a.size) _ (stack ++ [x]) (by have := a.size_pos; simp; omega)]
      cases hy : kd kinds b with
      | none => rfl
      | some y =>
        have hy4 := kd_k4 hk b hb hy
        have hap := a.size_pos
        simp only [Option.bind_some, List.cons_append, List.nil_append]
        rw [expr_over_int_l1]
        have e1 : (put2 n (((s + a.size : Nat) : Int) - 1) (((s + a.size + b.size : Nat) : Int) - 1)).Tag = n.Tag := rfl
        rw [e1, expr_parts_of h1]
        have h0 := over_1 stack [x, y] (by simp; omega)
        simp only [Option.bind_some]
        have e0 : (([x, y] : List Int).length : Int) = ((2 : Nat) : Int) := rfl
        have e9 : stack ++ [x] ++ [y] = stack ++ [x, y] := by simp
        rw [← e0, e9, h0]
        simp only [Option.bind_some]
        rw [Kind_1_two kinds _ x y hx4 hy4 (by rw [e1]; exact h1), e1]
        cases hb : (kn n.Tag x y).2 with
        | true =>
          simp only [if_true, Option.bind_some]
          rw [if_neg (by simp), app_ok (by simp; omega)]
          rfl
        | false =>
          simp only [Bool.false_eq_true, if_false, Option.bind_some]
          rw [if_pos (by decide), over_bad _ (by decide)]
theorem ref_tree (kinds : List Int) (hk : ∀ k ∈ kinds, k4 k) (t : Tr) : t.wf → colsT kinds.length t → ∀ (rest : List DENode) (own : List Int), own.length + t.size ≤ 50000 →
    (kd kinds t = none ∧ ref10_Kind_l3 kinds (t.flat own.length ++ rest) own = some (0, 201)) ∨
    (∃ k w, kd kinds t = some k ∧ w.length + 1 = t.size ∧ ref10_Kind_l3 kinds (t.flat own.length ++ rest) own = ref10_Kind_l3 kinds rest (own ++ w ++ [k])) := by
  induction t with
  | lf n =>
    intro ⟨h1, h2, h3, h4⟩ hc rest own hl
    simp only [Tr.flat, Tr.size, List.cons_append, List.nil_append] at hl ⊢
    refine .inr ?_
    have e1 : (put2 n (-1) (-1)).Tag = n.Tag := rfl
    unfold kd
    rcases pk0 h1 with ht | ht
    · refine ⟨_, [], if_pos ht, rfl, ?_⟩
      rw [ref10_Kind_l3]
      rw [e1, if_pos (by simp [ht]), app_ok (by simp; omega)]
      simp only [Option.bind_some, List.append_nil]
      rfl
    · refine ⟨_, [], if_neg (by simp [ht]), rfl, ?_⟩
      have hb := cnt2 h2 ht
      have hm : n.Col < kinds.length := hc ht
      have e2 : (put2 n (-1) (-1)).Col = n.Col := rfl
      rw [ref10_Kind_l3]
      rw [e1, if_neg (by simp [ht]), if_pos (by simp [ht]), e2, idx_at n.Col.toNat (by omega), List.getElem?_eq_getElem (by omega)]
      simp only [Option.bind_some, List.append_nil, Option.getD_some]
      rw [app_ok (by simp; omega)]
      rfl
  | un n a ih =>
    intro ⟨⟨h1, h2, h3, h4⟩, ha⟩ hc rest own hl
    have hap := a.size_pos
    simp only [Tr.flat, Tr.size, List.append_assoc] at hl ⊢
    rcases ih ha hc ([put2 n (((own.length + a.size : Nat) : Int) - 1) (-1)] ++ rest) own (by omega) with ⟨hx, he⟩ | ⟨x, w, hx, hw, he⟩
    · exact .inl ⟨by rw [kd_un, hx]; rfl, by rw [he]⟩
    · rw [he]
      rw [kd_un, hx]
      simp only [Option.bind_some, List.cons_append, List.nil_append]
      have e1 : (put2 n (((own.length + a.size : Nat) : Int) - 1) (-1)).Tag = n.Tag := rfl
      have n1 : n.Tag ≠ 1 := fun h => by rw [h] at h1; simp [pk] at h1
      have n2 : n.Tag ≠ 2 := fun h => by rw [h] at h1; simp [pk] at h1
      have hstep : ref10_Kind_l3 kinds (put2 n (((own.length + a.size : Nat) : Int) - 1) (-1) :: rest) (own ++ w ++ [x]) = if (kn n.Tag x 0).2 then ref10_Kind_l3 kinds rest (own ++ w ++ [x] ++ [(kn n.Tag x 0).1]) else some (0, 201) := by
        rw [ref10_Kind_l3]
        rw [e1, if_neg (by simpa using n1), if_neg (by simpa using n2)]
        have eL : (put2 n (((own.length + a.size : Nat) : Int) - 1) (-1)).L = ((own.length + a.size : Nat) : Int) - 1 := rfl
        have eR : (put2 n (((own.length + a.size : Nat) : Int) - 1) (-1)).R = -1 := rfl
        rw [eL, eR, idx_at (own ++ w).length (by simp; omega), List.getElem?_append_right (Nat.le_refl _), Nat.sub_self]
        simp only [List.getElem?_cons_zero, Option.bind_some]
        rw [if_neg (by decide)]
        unfold ref10_Kind_k1
        rw [e1, ref10_kind_eq]
        simp only [Option.bind_some]
        cases hb : (kn n.Tag x 0).2 with
        | true =>
          simp only [Bool.not_true, Bool.false_eq_true, if_false, if_true]
          rw [app_ok (by simp; omega)]; rfl
        | false => rfl
      rw [hstep]
      cases hb : (kn n.Tag x 0).2 with
      | true => exact .inr ⟨(kn n.Tag x 0).1, w ++ [x], by simp, by simp; omega, by simp⟩
      | false => exact .inl ⟨by simp, by simp⟩
  | bi n a b iha ihb =>
    intro ⟨⟨h1, h2, h3, h4⟩, ha, hb⟩ ⟨hca, hcb⟩ rest own hl
    have hap := a.size_pos
    have hbp := b.size_pos
    simp only [Tr.flat, Tr.size, List.append_assoc] at hl ⊢
    obtain ⟨m, hm⟩ : ∃ m, m = put2 n (((own.length + a.size : Nat) : Int) - 1) (((own.length + a.size + b.size : Nat) : Int) - 1) := ⟨_, rfl⟩
    rw [← hm]
    rcases iha ha hca (b.flat (own.length + a.size) ++ ([m] ++ rest)) own (by omega) with ⟨hx, he⟩ | ⟨x, w, hx, hw, he⟩
    · exact .inl ⟨by rw [kd_bi, hx]; rfl, by rw [he]⟩
    · rw [he]
      have hl2 : (own ++ w ++ [x]).length = own.length + a.size := by simp; omega
      rw [← hl2]
      rcases ihb hb hcb ([m] ++ rest) (own ++ w ++ [x]) (by rw [hl2]; omega) with ⟨hy, he2⟩ | ⟨y, w2, hy, hw2, he2⟩
      · exact .inl ⟨by rw [kd_bi, hx, hy]; rfl, by rw [he2]⟩
      · rw [he2]
        rw [kd_bi, hx, hy]
        simp only [Option.bind_some, List.cons_append, List.nil_append]
        have e1 : m.Tag = n.Tag := by rw [hm]; rfl
        have eL : m.L = ((own.length + a.size : Nat) : Int) - 1 := by rw [hm]; rfl
        have eR : m.R = ((own.length + a.size + b.size : Nat) : Int) - 1 := by rw [hm]; rfl
        have n1 : n.Tag ≠ 1 := fun h => by rw [h] at h1; simp [pk] at h1
        have n2 : n.Tag ≠ 2 := fun h => by rw [h] at h1; simp [pk] at h1
        have hstep : ref10_Kind_l3 kinds (m :: rest) (own ++ w ++ [x] ++ w2 ++ [y]) = if (kn n.Tag x y).2 then ref10_Kind_l3 kinds rest (own ++ w ++ [x] ++ w2 ++ [y] ++ [(kn n.Tag x y).1]) else some (0, 201) := by
          rw [ref10_Kind_l3]
          rw [e1, if_neg (by simpa using n1), if_neg (by simpa using n2)]
          rw [eL, eR, idx_at (own ++ w).length (by simp; omega)]
          have g1 : (own ++ w ++ [x] ++ w2 ++ [y])[(own ++ w).length]? = some x := by
            rw [List.append_assoc, List.append_assoc, List.getElem?_append_right (Nat.le_refl _), Nat.sub_self]; rfl
          rw [g1]
          simp only [Option.bind_some]
          rw [if_pos (by rw [decide_eq_true_eq]; omega), idx_at (own ++ w ++ [x] ++ w2).length (by simp; omega)]
          have g2 : (own ++ w ++ [x] ++ w2 ++ [y])[(own ++ w ++ [x] ++ w2).length]? = some y := by
            rw [List.getElem?_append_right (Nat.le_refl _), Nat.sub_self]; rfl
          rw [g2]
          simp only [Option.bind_some]
          unfold ref10_Kind_k1
          rw [e1, ref10_kind_eq]
          simp only [Option.bind_some]
          cases hb : (kn n.Tag x y).2 with
          | true =>
            simp only [Bool.not_true, Bool.false_eq_true, if_false, if_true]
            rw [app_ok (by simp; omega)]; rfl
          | false => rfl
        rw [hstep]
        cases hb : (kn n.Tag x y).2 with
        | true => exact .inr ⟨(kn n.Tag x y).1, w ++ [x] ++ w2 ++ [y], by simp, by simp; omega, by simp⟩
        | false => exact .inl ⟨by simp, by simp⟩
def colsIn (m : Nat) (ns : List DENode) : Bool := ns.all fun n => !((n.Tag == 2) && decide ((m : Int) ≤ n.Col))
theorem colsIn_cons (m : Nat) (n : DENode) (ns : List DENode) : colsIn m (n :: ns) = (!((n.Tag == 2) && decide ((m : Int) ≤ n.Col)) && colsIn m ns) := rfl
theorem colsIn_tree (m : Nat) (t : Tr) : t.wf → ∀ s, colsIn m (t.flat s) = true → colsT m t := by
  induction t with
  | lf n =>
    intro _ s h ht
    simp only [colsIn, Tr.flat, List.all_cons, List.all_nil, Bool.and_true] at h
    have e1 : (put2 n (-1) (-1)).Tag = n.Tag := rfl
    have e2 : (put2 n (-1) (-1)).Col = n.Col := rfl
    simp [e1, e2, ht] at h
    exact h
  | un n a ih =>
    intro ⟨_, ha⟩ s h
    simp only [colsIn, Tr.flat, List.all_append, Bool.and_eq_true] at h
    exact ih ha s h.1
  | bi n a b iha ihb =>
    intro ⟨_, ha, hb⟩ s h
    simp only [colsIn, Tr.flat, List.all_append, Bool.and_eq_true] at h
    exact ⟨iha ha s h.1.1, ihb hb _ h.1.2⟩
def kOK (kinds : List Int) : Bool := kinds.all fun k => decide (0 ≤ k) && decide (k ≤ 3)
theorem kOK_cons (k : Int) (ks : List Int) : kOK (k :: ks) = ((decide (0 ≤ k) && decide (k ≤ 3)) && kOK ks) := rfl
theorem kOK_mem {kinds : List Int} (h : kOK kinds = true) {k : Int} (hk : k ∈ kinds) : k4 k := by
  have := List.all_eq_true.1 h k hk
  simp at this
  unfold k4; omega
def kindP (e : DExpr) (kinds : List Int) : Int × Int :=
  if rightE e.Nodes then if kOK kinds then if colsIn kinds.length e.Nodes then match (treeOf e.Nodes).bind (kd kinds) with
    | some k => (k, 0)
    | none => (0, 201) else (0, 2) else (0, 2) else (0, 200)
theorem Kind_l2_eq (e : DExpr) (kinds : List Int) : ∀ cs : List Int, expr_Kind_l2 e kinds cs = if cs.all (fun c => decide (c < (kinds.length : Int))) then expr_over_int e (expr_Kind_1 kinds) else some (0, 2)
  | [] => by
    unfold expr_Kind_l2
    cases expr_over_int e (expr_Kind_1 kinds) <;> rfl
  | c :: cs => by
    unfold expr_Kind_l2
    rw [Kind_l2_eq e kinds cs]
    by_cases h : (kinds.length : Int) ≤ c
    · rw [if_pos (by simpa using h), if_neg (by simp; omega)]
    · rw [if_neg (by simpa using h)]
      have : c < (kinds.length : Int) := by omega
      simp [this]
theorem expr_Kind_eq (e : DExpr) (kinds : List Int) (hl : e.Nodes.length ≤ 50000) : expr_Kind e kinds = some (kindP e kinds) := by
  unfold expr_Kind kindP
  rw [expr_Check_eq e (by omega)]
  cases hr : rightE e.Nodes with
  | false => rfl
  | true =>
    simp only [if_true, Option.bind_some]
    rw [if_neg (by decide)]
    have key : ∀ ks : List Int, expr_Kind_l1 e kinds ks = if kOK ks then (expr_Cols e).bind (expr_Kind_l2 e kinds) else some (0, 2) := by
      intro ks
      induction ks with
      | nil => rfl
      | cons k ks ih =>
        unfold expr_Kind_l1
        rw [ih]
        by_cases h : k < 0 ∨ 3 < k
        · rw [if_pos (by simpa using h), if_neg (by simp [kOK]; omega)]
        · rw [if_neg (by simpa using h)]
          have h1 : (decide (0 ≤ k) && decide (k ≤ 3)) = true := by simp; omega
          rw [kOK_cons, h1, Bool.true_and]
    rw [key]
    cases hk : kOK kinds with
    | false => rfl
    | true =>
      simp only [if_true]
      obtain ⟨cs, h1, h2⟩ := expr_Cols_eq e hr
      rw [h1, Option.bind_some, Kind_l2_eq]
      have hci : cs.all (fun c => decide (c < (kinds.length : Int))) = colsIn kinds.length e.Nodes := by
        rw [Bool.eq_iff_iff]
        simp only [List.all_eq_true, decide_eq_true_eq, colsIn, Bool.not_eq_true', Bool.and_eq_false_iff, beq_eq_false_iff_ne, decide_eq_false_iff_not]
        constructor
        · intro h n hn
          by_cases ht : n.Tag = 2
          · exact .inr (by have := h _ ((h2 n.Col).2 ⟨n, hn, ht, rfl⟩); omega)
          · exact .inl ht
        · intro h c hc
          obtain ⟨n, hn, ht, rfl⟩ := (h2 c).1 hc
          rcases h n hn with h | h
          · exact absurd ht h
          · omega
      rw [hci]
      cases hc : colsIn kinds.length e.Nodes with
      | false => rfl
      | true =>
        simp only [if_true]
        cases ht : treeOf e.Nodes with
        | none => unfold rightE at hr; rw [ht] at hr; cases hr
        | some t =>
          obtain ⟨hw, hN, hs⟩ := treeOf_some ht
          have hct := colsIn_tree kinds.length t hw 0 (by rw [← hN]; exact hc)
          have := over_tree kinds (fun k => kOK_mem hk) t hw hct 0 [] [] (by simp; omega)
          rw [List.append_nil, ← hN] at this
          unfold expr_over_int
          rw [this]
          simp only [Option.bind_some]
          cases kd kinds t with
          | none => rfl
          | some k => rfl
theorem ref10_Kind_eq (e : DExpr) (kinds : List Int) : ref10_Kind e kinds = some (kindP e kinds) := by
  unfold ref10_Kind kindP
  rw [ref10_Right_eq e]
  cases hr : rightE e.Nodes with
  | false => rfl
  | true =>
    simp only [if_true, Option.bind_some, Bool.not_true, Bool.false_eq_true, if_false]
    have key2 : ∀ ns : List DENode, ref10_Kind_l2 e kinds ns = if colsIn kinds.length ns then ref10_Kind_l3 kinds e.Nodes [] else some (0, 2) := by
      intro ns
      induction ns with
      | nil => rfl
      | cons n ns ih =>
        unfold ref10_Kind_l2
        rw [ih, colsIn_cons]
        cases ((n.Tag == 2) && decide ((kinds.length : Int) ≤ n.Col)) <;> simp
    have key : ∀ ks : List Int, ref10_Kind_l1 e kinds ks = if kOK ks then ref10_Kind_l2 e kinds e.Nodes else some (0, 2) := by
      intro ks
      induction ks with
      | nil => rfl
      | cons k ks ih =>
        unfold ref10_Kind_l1
        rw [ih]
        by_cases h : k < 0 ∨ 3 < k
        · rw [if_pos (by simpa using h), if_neg (by simp [kOK]; omega)]
        · rw [if_neg (by simpa using h)]
          have h1 : (decide (0 ≤ k) && decide (k ≤ 3)) = true := by simp; omega
          rw [kOK_cons, h1, Bool.true_and]
    rw [key, key2]
    cases hk : kOK kinds with
    | false => rfl
    | true =>
      cases hc : colsIn kinds.length e.Nodes with
      | false => rfl
      | true =>
        simp only [if_true]
        cases ht : treeOf e.Nodes with
        | none => unfold rightE at hr; rw [ht] at hr; cases hr
        | some t =>
          obtain ⟨hw, hN, hs⟩ := treeOf_some ht
          have hct := colsIn_tree kinds.length t hw 0 (by rw [← hN]; exact hc)
          have := ref_tree kinds (fun k => kOK_mem hk) t hw hct [] [] (by simp; omega)
          rw [List.append_nil, List.length_nil, ← hN] at this
          simp only [Option.bind_some]
          rcases this with ⟨h1, h2⟩ | ⟨k, w, h1, h2, h3⟩
          · rw [h1, h2]
          · rw [h1, h3]
            unfold ref10_Kind_l3
            have hls : t.size ≤ 1000 := hs
            rw [List.nil_append, idx_at w.length (by rw [wrapI (by simp <;> omega) (by simp <;> omega)]; simp), List.getElem?_append_right (Nat.le_refl _), Nat.sub_self]
            rfl
def arB (n : DENode) : Bool := n.Tag == 4 || decide (12 ≤ n.Tag) && decide (n.Tag ≤ 15)
end Go.Proofs.Ytbhkincjkpeaoaa

namespace Go.Proofs.Ytbhkincjkpeaoaa
open Go

theorem at_drop {α : Type} {xs tl : List α} {i : Nat} {y : α} (h : xs.drop i = y :: tl) : idx xs (i : Int) = some y ∧ i < xs.length ∧ xs.drop (i + 1) = tl := by
  have hi : i < xs.length := by
    rcases Nat.lt_or_ge i xs.length with h1 | h1
    · exact h1
    · rw [List.drop_eq_nil_of_le h1] at h; cases h
  rw [List.drop_eq_getElem_cons hi] at h
  injection h with h1 h2
  exact ⟨by rw [idx_nat, List.getElem?_eq_getElem hi, h1], hi, h2⟩
theorem end_drop {α : Type} {xs : List α} {i : Nat} (h : xs.drop i = []) : xs.length ≤ i := List.drop_eq_nil_iff.1 h
theorem IndexFunc_int_eq {f : Int → Option Bool} {g : Int → Bool} (hf : ∀ v, f v = some (g v)) : ∀ (l : List Int) (i : Nat), ∃ j : Int, slices_IndexFunc_int_int_l1 f l i = some j ∧ decide (0 ≤ j) = l.any g
  | [], i => ⟨-1, rfl, rfl⟩
  | e :: l, i => by
    unfold slices_IndexFunc_int_int_l1
    rw [hf, Option.bind_some]
    cases h : g e with
    | true => exact ⟨(i : Int), by simp, by simp [h]⟩
    | false =>
      obtain ⟨j, h1, h2⟩ := IndexFunc_int_eq hf l (i + 1)
      exact ⟨j, by simpa using h1, by rw [h2]; simp [h]⟩
theorem ContainsFunc_int_eq {f : Int → Option Bool} {g : Int → Bool} (hf : ∀ v, f v = some (g v)) (l : List Int) : slices_ContainsFunc_int_int l f = some (l.any g) := by
  unfold slices_ContainsFunc_int_int slices_IndexFunc_int_int
  obtain ⟨j, h1, h2⟩ := IndexFunc_int_eq hf l 0
  rw [h1, Option.bind_some, h2]
theorem IndexFunc_ord_eq {f : DOrd → Option Bool} {g : DOrd → Bool} (hf : ∀ v, f v = some (g v)) : ∀ (l : List DOrd) (i : Nat), ∃ j : Int, slices_IndexFunc_api_Ord_api_Ord_l1 f l i = some j ∧ decide (0 ≤ j) = l.any g
  | [], i => ⟨-1, rfl, rfl⟩
  | e :: l, i => by
    unfold slices_IndexFunc_api_Ord_api_Ord_l1
    rw [hf, Option.bind_some]
    cases h : g e with
    | true => exact ⟨(i : Int), by simp, by simp [h]⟩
    | false =>
      obtain ⟨j, h1, h2⟩ := IndexFunc_ord_eq hf l (i + 1)
      exact ⟨j, by simpa using h1, by rw [h2]; simp [h]⟩
theorem ContainsFunc_ord_eq {f : DOrd → Option Bool} {g : DOrd → Bool} (hf : ∀ v, f v = some (g v)) (l : List DOrd) : slices_ContainsFunc_api_Ord_api_Ord l f = some (l.any g) := by
  unfold slices_ContainsFunc_api_Ord_api_Ord slices_IndexFunc_api_Ord_api_Ord
  obtain ⟨j, h1, h2⟩ := IndexFunc_ord_eq hf l 0
  rw [h1, Option.bind_some, h2]
theorem Clone_int_eq (l : List Int) (h : l.length ≤ 68719476736) : slices_Clone_int_int l = some l := by
  unfold slices_Clone_int_int
  rw [app_ok (by simpa using h)]; rfl
theorem Grow_eq (n : Int) (h0 : 0 ≤ n) (h : n ≤ 68719476736) : slices_Grow_int_int n = some [] := by
  unfold slices_Grow_int_int slices_Grow_int_int_k1
  rw [if_neg (by simp; omega)]
  have e : IntKind.i64.wrap (n - IntKind.i64.wrap ((0 : Int) - 0)) = n := by
    rw [wrapI (n := (0 : Int) - 0) (by omega) (by omega), wrapI (by omega) (by omega)]; omega
  rw [e]
  by_cases hp : 0 < n
  · rw [if_pos (by simpa using hp)]
    unfold gt0 zerosF
    rw [if_pos hp]
    simp only [Option.bind_some]
    rw [if_pos ⟨h0, h⟩]
    simp only [Option.bind_some]
    rw [show sliceF (List.replicate n.toNat (0 : Int)) 0 0 = some [] from by unfold sliceF; rw [if_pos (by simp; omega)]; simp]
    rfl
  · rw [if_neg (by simpa using hp)]; rfl
theorem Concat_two (a b : List Int) (ha : a.length ≤ 8000) (hb : b.length ≤ 8000) : slices_Concat_int_int [a, b] = some (a ++ b) := by
  unfold slices_Concat_int_int
  simp only [slices_Concat_int_int_l1]
  rw [wrapI (n := (0 : Int) + (a.length : Int)) (by omega) (by omega), if_neg (by simp), wrapI (by omega) (by omega), if_neg (by simp; omega), Grow_eq _ (by omega) (by omega)]
  simp only [Option.bind_some, slices_Concat_int_int_l2]
  rw [app_ok (by simp; omega)]
  simp only [Option.bind_some, List.nil_append]
  rw [app_ok (by omega)]
  rfl
structure SmallN (n : DLNode) : Prop where
  cond : n.Cond.Nodes.length ≤ 5000
  kinds : n.Kinds.length ≤ 5000
  keys : n.Keys.length ≤ 5000
  aggs : n.Aggs.length ≤ 5000
  items : n.Items.length ≤ 5000
  order : n.Order.length ≤ 5000
  args : ∀ g ∈ n.Aggs, g.Arg.Nodes.length ≤ 5000
  exprs : ∀ e ∈ n.Items, e.Nodes.length ≤ 5000
def truB (e : DExpr) (kinds : List Int) : Bool := (kindP e kinds).2 == 0 && ((kindP e kinds).1 == 1 || (kindP e kinds).1 == 0)
theorem logic_truth_eq (e : DExpr) (kinds : List Int) (h : e.Nodes.length ≤ 5000) : logic_truth e kinds = some (truB e kinds) := by
  unfold logic_truth
  rw [expr_Kind_eq e kinds (by omega)]
  rfl
theorem ref13_truth_eq (e : DExpr) (kinds : List Int) : ref13_truth e kinds = some (truB e kinds) := by
  unfold ref13_truth truB
  rw [ref10_Kind_eq e kinds]
  simp only [Option.bind_some, Bool.or_comm]
def agP (a : DAgg) (kinds : List Int) : Int × Bool :=
  if a.Tag = 1 then (2, a.Arg.Nodes.length == 0) else if a.Tag = 2 then (2, (kindP a.Arg kinds).2 == 0) else if a.Tag = 3 then (2, (kindP a.Arg kinds).2 == 0 && ((kindP a.Arg kinds).1 == 2 || (kindP a.Arg kinds).1 == 0)) else if a.Tag = 4 ∨ a.Tag = 5 then ((kindP a.Arg kinds).1, (kindP a.Arg kinds).2 == 0) else (0, false)
theorem natlen0 (n : Nat) : ((n : Int) == 0) = (n == 0) := by rw [Bool.eq_iff_iff]; simp
theorem logic_agg_eq (a : DAgg) (kinds : List Int) (h : a.Arg.Nodes.length ≤ 5000) : logic_agg a kinds = some (agP a kinds) := by
  unfold logic_agg agP logic_agg_k1
  by_cases h1 : a.Tag = 1
  · rw [if_pos (by simp [h1]), if_pos h1, natlen0]
  rw [if_neg (by simpa using h1), if_neg h1, expr_Kind_eq _ _ (by omega)]
  simp only [Option.bind_some]
  by_cases h2 : a.Tag = 2
  · rw [if_pos (by simp [h2]), if_pos h2]
  rw [if_neg (by simpa using h2), if_neg h2]
  by_cases h3 : a.Tag = 3
  · rw [if_pos (by simp [h3]), if_pos h3]
  rw [if_neg (by simpa using h3), if_neg h3]
  by_cases h4 : a.Tag = 4
  · rw [if_pos (by simp [h4]), if_pos (by simp [h4]), if_pos (.inl h4)]
  rw [if_neg (by simpa using h4)]
  by_cases h5 : a.Tag = 5
  · rw [if_pos (by simp [h5]), if_pos (.inr h5)]
  rw [if_neg (by simpa using h5), if_neg (by omega)]
def agR (a : DAgg) (kinds : List Int) : Int × Bool := (ref13_aggregate a kinds).getD (0, false)
theorem ref13_aggregate_eq (a : DAgg) (kinds : List Int) : ref13_aggregate a kinds = some (agR a kinds) := by
  unfold agR ref13_aggregate
  rw [ref10_Kind_eq]
  simp only [Option.bind_some]
  repeat' split
  all_goals rfl
theorem ag_same (a : DAgg) (kinds : List Int) : (agP a kinds).2 = (agR a kinds).2 ∧ ((agP a kinds).2 = true → (agP a kinds).1 = (agR a kinds).1) := by
  unfold agR ref13_aggregate agP
  rw [ref10_Kind_eq]
  simp only [Option.bind_some]
  by_cases h1 : a.Tag = 1
  · simp [h1, natlen0]
  by_cases h2 : a.Tag = 2
  · by_cases he : (kindP a.Arg kinds).2 = 0 <;> simp [h2, he]
  by_cases h3 : a.Tag = 3
  · by_cases he : (kindP a.Arg kinds).2 = 0
    · by_cases h0 : (kindP a.Arg kinds).1 = 0
      · simp [h3, he, h0]
      · by_cases h02 : (kindP a.Arg kinds).1 = 2 <;> simp [h3, he, h0, h02]
    · simp [h3, he]
  by_cases h4 : a.Tag = 4
  · by_cases he : (kindP a.Arg kinds).2 = 0 <;> simp [h4, he]
  by_cases h5 : a.Tag = 5
  · by_cases he : (kindP a.Arg kinds).2 = 0 <;> simp [h5, he]
  have : a.Tag < 1 ∨ 5 < a.Tag := by omega
  simp [h1, h2, h3, h4, h5, this]
def Same2 (p : Option (List Int × Bool)) (q : Option (List Int × Bool)) (last : Bool) : Prop :=
  ∃ k o k', p = some (k, o && last) ∧ q = some (k', o) ∧ (o = true → k = k')
theorem scan_same (c : Dchecker) (n : DLNode) (a b : List Int) (hn : SmallN n) (hop : n.Op = 1) : Same2 (logic_checker_scan c n) (ref13_kinds n a b) true := by
  have h := hn.kinds
  have key : ∀ (tl : List Int) (i : Nat) (fu : Nat) (ok : Bool), n.Kinds.drop i = tl → tl.length < fu → ref13_kinds_l1 n fu ok (i : Int) = some (n.Kinds, ((((ok && tl.all fun k => decide (1 ≤ k) && decide (k ≤ 3)) && (decide ((0 : Int) ≤ n.Table))) && (decide (n.Table ≤ (3 : Int)))) && (decide ((1 : Int) ≤ (n.Kinds.length : Int)))) && (decide ((n.Kinds.length : Int) ≤ (4 : Int)))) := by
    intro tl
    induction tl with
    | nil =>
      intro i fu ok hd hf
      obtain ⟨fu, rfl⟩ : ∃ k, fu = k + 1 := ⟨fu - 1, by omega⟩
      have := end_drop hd
      rw [ref13_kinds_l1, if_neg (by simp; omega)]
      simp
    | cons x tl ih =>
      intro i fu ok hd hf
      simp only [List.length_cons] at hf
      obtain ⟨fu, rfl⟩ : ∃ k, fu = k + 1 := ⟨fu - 1, by omega⟩
      obtain ⟨h1, h2, h3⟩ := at_drop hd
      rw [ref13_kinds_l1, if_pos (by simp; omega), h1, wrapI (by omega) (by omega)]
      simp only [Option.bind_some]
      have e : ((i : Int) + 1) = ((i + 1 : Nat) : Int) := by omega
      rw [e]
      have e2 : ((if ok = true then some (decide ((1 : Int) ≤ x)) else some false).bind fun t => (if t = true then some (decide (x ≤ (3 : Int))) else some false).bind fun t1 => ref13_kinds_l1 n fu t1 ((i + 1 : Nat) : Int)) = ref13_kinds_l1 n fu (ok && (decide (1 ≤ x) && decide (x ≤ 3))) ((i + 1 : Nat) : Int) := by
        cases ok <;> by_cases hx : (1 : Int) ≤ x <;> simp [hx]
      rw [e2, ih (i + 1) fu _ h3 (by omega)]
      simp only [List.all_cons, Bool.and_assoc]
  have hr : ref13_kinds n a b = ref13_kinds_l1 n FUEL true (0 : Int) := by unfold ref13_kinds; rw [if_pos (by simp [hop])]
  rw [hr, show ((0 : Int)) = ((0 : Nat) : Int) from rfl, key n.Kinds 0 FUEL true rfl (Nat.lt_of_lt_of_le (Nat.lt_succ_self _) (fuel_ge (by omega)))]
  unfold logic_checker_scan
  have hc : slices_ContainsFunc_int_int n.Kinds logic_checker_scan_1 = some (n.Kinds.any fun k => !(((k == (1 : Int)) || (k == (2 : Int))) || (k == (3 : Int)))) := ContainsFunc_int_eq (fun v => rfl) _
  rw [hc]
  simp only [Option.bind_some]
  have e3 : (!(n.Kinds.any fun k => !(((k == (1 : Int)) || (k == (2 : Int))) || (k == (3 : Int))))) = n.Kinds.all fun k => decide (1 ≤ k) && decide (k ≤ 3) := by
    rw [List.not_any_eq_all_not]
    congr 1
    funext k
    rw [Bool.not_not, Bool.eq_iff_iff]
    simp; omega
  rw [e3]
  refine ⟨n.Kinds, _, n.Kinds, ?_, rfl, fun _ => rfl⟩
  cases h4 : (n.Kinds.all fun k => decide (1 ≤ k) && decide (k ≤ 3)) <;> by_cases t1 : 0 ≤ n.Table <;> by_cases t2 : n.Table < 4 <;> by_cases l1 : (1 : Int) ≤ (n.Kinds.length : Int) <;> by_cases l2 : (n.Kinds.length : Int) ≤ 4 <;> simp [t1, t2, l1, l2] <;> omega
theorem join_same (c : Dchecker) (n : DLNode) (a b : List Int) (hn : SmallN n) (hop : n.Op = 2) (ha : idx c.kinds n.A = some a) (hb : idx c.kinds n.B = some b) (hal : a.length ≤ 16) (hbl : b.length ≤ 16) : Same2 (logic_checker_join c n) (ref13_kinds n a b) true := by
  unfold logic_checker_join ref13_kinds
  rw [ha, hb, if_neg (by simp [hop]), if_pos (by simp [hop])]
  simp only [Option.bind_some]
  rw [Concat_two _ _ (by omega) (by omega), app_ok (by simp; omega)]
  simp only [Option.bind_some, List.nil_append]
  rw [app_ok (by omega)]
  simp only [Option.bind_some]
  rw [logic_truth_eq _ _ hn.cond, ref13_truth_eq]
  exact ⟨_, truB n.Cond (a ++ b), _, by simp, rfl, fun _ => rfl⟩
theorem filter_same (c : Dchecker) (n : DLNode) (a b : List Int) (hn : SmallN n) (hop : n.Op = 3) (ha : idx c.kinds n.A = some a) : Same2 (logic_checker_filter c n) (ref13_kinds n a b) true := by
  unfold logic_checker_filter ref13_kinds
  rw [ha, if_neg (by simp [hop]), if_neg (by simp [hop]), if_pos (by simp [hop])]
  simp only [Option.bind_some]
  rw [logic_truth_eq _ _ hn.cond, ref13_truth_eq]
  exact ⟨_, truB n.Cond a, _, by simp, rfl, fun _ => rfl⟩
theorem distinct_same (c : Dchecker) (n : DLNode) (a b : List Int) (hop : n.Op = 6) (ha : idx c.kinds n.A = some a) : Same2 (logic_checker_distinct c n) (ref13_kinds n a b) true := by
  unfold logic_checker_distinct ref13_kinds
  rw [ha, if_neg (by simp [hop]), if_neg (by simp [hop]), if_neg (by simp [hop]), if_neg (by simp [hop]), if_neg (by simp [hop]), if_pos (by simp [hop])]
  exact ⟨_, true, _, rfl, rfl, fun _ => rfl⟩
theorem project_same (c : Dchecker) (n : DLNode) (a b : List Int) (hn : SmallN n) (hop : n.Op = 5) (ha : idx c.kinds n.A = some a) : Same2 (logic_checker_project c n) (ref13_kinds n a b) true := by
  have h := hn.items
  have hr : ref13_kinds n a b = ref13_kinds_l4 n a FUEL [] true (0 : Int) := by unfold ref13_kinds; rw [if_neg (by simp [hop]), if_neg (by simp [hop]), if_neg (by simp [hop]), if_neg (by simp [hop]), if_pos (by simp [hop])]
  have key : ∀ (tl : List DExpr) (i : Nat) (fu : Nat) (out : List Int) (ok : Bool), n.Items.drop i = tl → i + tl.length = n.Items.length → tl.length < fu → out.length = i → ref13_kinds_l4 n a fu out ok (i : Int) = some (out ++ tl.map (fun e => (kindP e a).1), ((ok && tl.all fun e => (kindP e a).2 == 0) && (decide ((1 : Int) ≤ (n.Items.length : Int)))) && (decide ((n.Items.length : Int) ≤ (16 : Int)))) := by
    intro tl
    induction tl with
    | nil =>
      intro i fu out ok hd hi hf ho
      obtain ⟨fu, rfl⟩ : ∃ k, fu = k + 1 := ⟨fu - 1, by omega⟩
      simp only [List.length_nil, Nat.add_zero] at hi
      rw [ref13_kinds_l4, if_neg (by simp; omega)]
      simp [ho, hi]
    | cons x tl ih =>
      intro i fu out ok hd hi hf ho
      simp only [List.length_cons] at hf hi
      obtain ⟨fu, rfl⟩ : ∃ k, fu = k + 1 := ⟨fu - 1, by omega⟩
      obtain ⟨h1, h2, h3⟩ := at_drop hd
      rw [ref13_kinds_l4, if_pos (by simp; omega), h1]
      simp only [Option.bind_some]
      rw [ref10_Kind_eq]
      simp only [Option.bind_some]
      rw [app_ok (by simp; omega), wrapI (by omega) (by omega)]
      simp only [Option.bind_some]
      have e : ((i : Int) + 1) = ((i + 1 : Nat) : Int) := by omega
      rw [e, ih (i + 1) fu _ _ h3 (by omega) (by omega) (by simp [ho])]
      simp [Bool.and_assoc]
  rw [hr, show ((0 : Int)) = ((0 : Nat) : Int) from rfl, key n.Items 0 FUEL [] true rfl (by simp) (Nat.lt_of_lt_of_le (Nat.lt_succ_self _) (fuel_ge (by omega))) rfl]
  unfold logic_checker_project
  have key2 : ∀ (tl : List DExpr) (out : List Int) (ok : Bool), (∀ e ∈ tl, e.Nodes.length ≤ 5000) → out.length + tl.length ≤ 5000 → logic_checker_project_l1 c n tl out ok = some (out ++ tl.map (fun e => (kindP e a).1), ok && tl.all fun e => (kindP e a).2 == 0) := by
    intro tl
    induction tl with
    | nil => intro out ok _ _; simp [logic_checker_project_l1]
    | cons x tl ih =>
      intro out ok he hl
      simp only [List.length_cons] at hl
      rw [logic_checker_project_l1, ha]
      simp only [Option.bind_some]
      rw [expr_Kind_eq _ _ (by have := he x (List.mem_cons_self ..); omega)]
      simp only [Option.bind_some]
      rw [app_ok (by simp; omega)]
      simp only [Option.bind_some]
      rw [ih _ _ (fun e h => he e (List.mem_cons_of_mem _ h)) (by simp; omega)]
      simp [Bool.and_assoc]
  rw [key2 n.Items [] _ hn.exprs (by simp; omega)]
  refine ⟨_, _, _, ?_, rfl, fun _ => rfl⟩
  simp only [Bool.and_true, Bool.true_and]
  congr 2
  cases (n.Items.all fun e => (kindP e a).2 == 0) <;> simp
def kAt (a : List Int) (e : Int) : Int := (a[e.toNat]?).getD 0
def outB (a : List Int) (e : Int) : Bool := decide (e < 0) || decide ((a.length : Int) ≤ e)
theorem idx_in {a : List Int} {e : Int} (h : outB a e = false) : idx a e = some (kAt a e) := by
  simp [outB] at h
  rw [idx_at e.toNat (by omega), List.getElem?_eq_getElem (by omega)]
  unfold kAt
  rw [List.getElem?_eq_getElem (by omega)]; rfl
theorem group_same (c : Dchecker) (n : DLNode) (a b : List Int) (hn : SmallN n) (hop : n.Op = 4) (ha : idx c.kinds n.A = some a) : Same2 (logic_checker_group c n) (ref13_kinds n a b) true := by
  have hK := hn.keys
  have hA := hn.aggs
  have hr : ref13_kinds n a b = ref13_kinds_l2 n a FUEL [] (0 : Int) := by unfold ref13_kinds; rw [if_neg (by simp [hop]), if_neg (by simp [hop]), if_neg (by simp [hop]), if_pos (by simp [hop])]
  have key3 : ∀ (tl : List DAgg) (i : Nat) (fu : Nat) (out : List Int) (ok : Bool), n.Aggs.drop i = tl → i + tl.length = n.Aggs.length → tl.length < fu → out.length ≤ 5000 + i → ref13_kinds_l3 n a fu out ok (i : Int) = some (out ++ tl.map (fun e => (agR e a).1), (((ok && tl.all fun e => (agR e a).2) && (decide ((n.Keys.length : Int) ≤ (3 : Int)))) && (decide ((n.Aggs.length : Int) ≤ (12 : Int)))) && (decide ((0 : Int) < ((out.length + tl.length : Nat) : Int)))) := by
    intro tl
    induction tl with
    | nil =>
      intro i fu out ok hd hi hf ho
      obtain ⟨fu, rfl⟩ : ∃ k, fu = k + 1 := ⟨fu - 1, by omega⟩
      simp only [List.length_nil, Nat.add_zero] at hi
      rw [ref13_kinds_l3, if_neg (by simp; omega)]
      simp
    | cons x tl ih =>
      intro i fu out ok hd hi hf ho
      simp only [List.length_cons] at hf hi
      obtain ⟨fu, rfl⟩ : ∃ k, fu = k + 1 := ⟨fu - 1, by omega⟩
      obtain ⟨h1, h2, h3⟩ := at_drop hd
      rw [ref13_kinds_l3, if_pos (by simp; omega), h1]
      simp only [Option.bind_some]
      rw [ref13_aggregate_eq]
      simp only [Option.bind_some]
      rw [app_ok (by simp; omega), wrapI (by omega) (by omega)]
      simp only [Option.bind_some]
      have e : ((i : Int) + 1) = ((i + 1 : Nat) : Int) := by omega
      rw [e, ih (i + 1) fu _ _ h3 (by omega) (by omega) (by simp; omega)]
      simp only [List.map_cons, List.all_cons, Bool.and_assoc, List.append_assoc, List.length_append, List.length_cons, List.length_nil, List.cons_append, List.nil_append]
      rw [show out.length + (0 + 1) + tl.length = out.length + (tl.length + 1) from by omega]
  have key2 : ∀ (tl : List Int) (i : Nat) (fu : Nat) (out : List Int), n.Keys.drop i = tl → i + tl.length = n.Keys.length → tl.length < fu → out.length = i → ref13_kinds_l2 n a fu out (i : Int) = if tl.any (outB a) then some ([], false) else ref13_kinds_l3 n a FUEL (out ++ tl.map (kAt a)) true 0 := by
    intro tl
    induction tl with
    | nil =>
      intro i fu out hd hi hf ho
      obtain ⟨fu, rfl⟩ : ∃ k, fu = k + 1 := ⟨fu - 1, by omega⟩
      simp only [List.length_nil, Nat.add_zero] at hi
      rw [ref13_kinds_l2, if_neg (by simp; omega)]
      simp
    | cons x tl ih =>
      intro i fu out hd hi hf ho
      simp only [List.length_cons] at hf hi
      obtain ⟨fu, rfl⟩ : ∃ k, fu = k + 1 := ⟨fu - 1, by omega⟩
      obtain ⟨h1, h2, h3⟩ := at_drop hd
      rw [ref13_kinds_l2, if_pos (by simp; omega), h1]
      simp only [Option.bind_some]
      cases hx : outB a x with
      | true =>
        have hx' : (decide (x < 0) || decide ((a.length : Int) ≤ x)) = true := hx
        rw [if_pos hx', if_pos (by simp [hx])]
      | false =>
        have hx' : ¬ (decide (x < 0) || decide ((a.length : Int) ≤ x)) = true := by rw [show (decide (x < 0) || decide ((a.length : Int) ≤ x)) = outB a x from rfl, hx]; decide
        rw [if_neg hx', idx_in hx]
        simp only [Option.bind_some]
        rw [app_ok (by simp; omega), wrapI (by omega) (by omega)]
        simp only [Option.bind_some]
        have e : ((i : Int) + 1) = ((i + 1 : Nat) : Int) := by omega
        rw [e, ih (i + 1) fu _ h3 (by omega) (by omega) (by simp [ho])]
        simp [hx]
  rw [hr, show ((0 : Int)) = ((0 : Nat) : Int) from rfl, key2 n.Keys 0 FUEL [] rfl (by simp) (Nat.lt_of_lt_of_le (Nat.lt_succ_self _) (fuel_ge (by omega))) rfl]
  rw [show ((0 : Int)) = ((0 : Nat) : Int) from rfl, key3 n.Aggs 0 FUEL _ true rfl (by simp) (Nat.lt_of_lt_of_le (Nat.lt_succ_self _) (fuel_ge (by omega))) (by simp; omega)]
  unfold logic_checker_group
  rw [ha, wrapI (by omega) (by omega)]
  simp only [Option.bind_some]
  have hp : logic_places n.Keys a = some (!(n.Keys.any (outB a))) := by
    unfold logic_places
    rw [ContainsFunc_int_eq (f := logic_places_1 a) (g := outB a) (fun v => rfl)]
    rfl
  rw [hp]
  simp only [Option.bind_some, List.nil_append, List.length_map]
  have kl : ∀ (tl : List DAgg) (out : List Int) (ok : Bool), (∀ e ∈ tl, e.Arg.Nodes.length ≤ 5000) → out.length + tl.length ≤ 10000 → logic_checker_group_l2 a tl out ok = some (out ++ tl.map (fun e => (agP e a).1), ok && tl.all fun e => (agP e a).2) := by
    intro tl
    induction tl with
    | nil => intro out ok _ _; simp [logic_checker_group_l2]
    | cons x tl ih =>
      intro out ok he hl
      simp only [List.length_cons] at hl
      rw [logic_checker_group_l2, logic_agg_eq _ _ (he x (List.mem_cons_self ..))]
      simp only [Option.bind_some]
      rw [app_ok (by simp; omega)]
      simp only [Option.bind_some]
      rw [ih _ _ (fun e h => he e (List.mem_cons_of_mem _ h)) (by simp; omega)]
      simp [Bool.and_assoc]
  have kl1 : ∀ (t : Bool) (tl out : List Int), tl.any (outB a) = false → out.length + tl.length ≤ 5000 → logic_checker_group_l1 n a t tl out = logic_checker_group_l2 a n.Aggs (out ++ tl.map (kAt a)) t := by
    intro t tl
    induction tl with
    | nil => intro out _ _; simp [logic_checker_group_l1]
    | cons x tl ih =>
      intro out ho hl
      simp only [List.length_cons] at hl
      simp only [List.any_cons, Bool.or_eq_false_iff] at ho
      rw [logic_checker_group_l1, idx_in ho.1]
      simp only [Option.bind_some]
      rw [app_ok (by simp; omega)]
      simp only [Option.bind_some]
      rw [ih _ ho.2 (by simp; omega)]
      simp
  have hall : (n.Aggs.all fun e => (agP e a).2) = n.Aggs.all fun e => (agR e a).2 := by
    congr 1; funext e; exact (ag_same e a).1
  have hmap : (n.Aggs.all fun e => (agP e a).2) = true → n.Aggs.map (fun e => (agP e a).1) = n.Aggs.map fun e => (agR e a).1 := by
    intro h
    exact List.map_congr_left fun e he => (ag_same e a).2 (List.all_eq_true.1 h e he)
  cases hany : n.Keys.any (outB a) with
  | true => exact ⟨[], false, [], by simp, by simp, fun _ => rfl⟩
  | false =>
    by_cases hb : ((n.Keys.length ≤ 3 ∧ n.Aggs.length ≤ 12) ∧ 0 < n.Keys.length + n.Aggs.length)
    · have hb' : (((decide ((n.Keys.length : Int) ≤ (3 : Int))) && (decide ((n.Aggs.length : Int) ≤ (12 : Int)))) && (decide ((0 : Int) < (n.Keys.length : Int) + (n.Aggs.length : Int)))) = true := by simp; omega
      simp only [hb', if_true, Bool.not_false, Bool.not_true, Bool.false_eq_true, if_false, Option.bind_some]
      rw [kl1 true n.Keys [] hany (by simp; omega), kl n.Aggs _ true hn.args (by simp; omega)]
      refine ⟨n.Keys.map (kAt a) ++ n.Aggs.map (fun e => (agP e a).1), n.Aggs.all fun e => (agR e a).2, n.Keys.map (kAt a) ++ n.Aggs.map (fun e => (agR e a).1), by simp [hall], ?_, fun h => ?_⟩
      · have h1 : (decide ((n.Keys.length : Int) ≤ (3 : Int))) = true := by simp; omega
        have h2 : (decide ((n.Aggs.length : Int) ≤ (12 : Int))) = true := by simp; omega
        have h3 : (decide ((0 : Int) < ((n.Keys.length + n.Aggs.length : Nat) : Int))) = true := by simp; omega
        simp only [h1, h2, h3, Bool.and_true, Bool.true_and]
      · rw [hmap (by rw [hall]; exact h)]
    · have hb' : (((decide ((n.Keys.length : Int) ≤ (3 : Int))) && (decide ((n.Aggs.length : Int) ≤ (12 : Int)))) && (decide ((0 : Int) < (n.Keys.length : Int) + (n.Aggs.length : Int)))) = false := by rw [Bool.eq_false_iff]; simp; omega
      simp only [hb', if_true, Bool.not_false, Bool.false_eq_true, if_false, Option.bind_some]
      refine ⟨[], false, n.Keys.map (kAt a) ++ n.Aggs.map (fun e => (agR e a).1), by simp, ?_, by simp⟩
      have : ((((true && n.Aggs.all fun e => (agR e a).2) && (decide ((n.Keys.length : Int) ≤ (3 : Int)))) && (decide ((n.Aggs.length : Int) ≤ (12 : Int)))) && (decide ((0 : Int) < ((n.Keys.length + n.Aggs.length : Nat) : Int)))) = false := by rw [Bool.eq_false_iff]; simp; omega
      rw [this]
def unK (x y : Int) : Int := if x = 0 then y else x
def unOK (p : Int × Int) : Bool := (p.2 == unK p.1 p.2) || p.2 == 0
theorem union_same (c : Dchecker) (n : DLNode) (a b : List Int) (hop : n.Op = 7) (ha : idx c.kinds n.A = some a) (hb : idx c.kinds n.B = some b) (hal : a.length ≤ 16) : Same2 (logic_checker_union c n) (ref13_kinds n a b) true := by
  unfold logic_checker_union ref13_kinds
  rw [ha, hb, if_neg (by simp [hop]), if_neg (by simp [hop]), if_neg (by simp [hop]), if_neg (by simp [hop]), if_neg (by simp [hop]), if_neg (by simp [hop]), if_pos (by simp [hop])]
  simp only [Option.bind_some]
  by_cases hl : a.length = b.length
  · rw [if_neg (by simp; omega), if_neg (by simp; omega), Clone_int_eq _ (by omega)]
    simp only [Option.bind_some]
    have kc : ∀ (tl pre suf : List Int) (ok : Bool), suf.length = tl.length → logic_checker_union_l1 tl pre.length (pre ++ suf) ok = some (pre ++ List.zipWith unK suf tl, ok && (suf.zip tl).all unOK) := by
      intro tl
      induction tl with
      | nil =>
        intro pre suf ok h
        have : suf = [] := List.eq_nil_of_length_eq_zero h
        subst this
        simp [logic_checker_union_l1]
      | cons y tl ih =>
        intro pre suf ok h
        cases suf with
        | nil => simp at h
        | cons x suf =>
          simp only [List.length_cons, Nat.add_right_cancel_iff] at h
          rw [logic_checker_union_l1, idx_nat, List.getElem?_append_right (Nat.le_refl _), Nat.sub_self]
          simp only [List.getElem?_cons_zero, Option.bind_some]
          have step : ∀ (z : Int), logic_checker_union_k1 (logic_checker_union_l1 tl) pre.length y ok (pre ++ z :: suf) = some (pre ++ z :: List.zipWith unK suf tl, ok && ((z == y || y == 0) && (suf.zip tl).all unOK)) := by
            intro z
            unfold logic_checker_union_k1
            rw [idx_nat, List.getElem?_append_right (Nat.le_refl _), Nat.sub_self]
            simp only [List.getElem?_cons_zero, Option.bind_some]
            have e1 : pre ++ z :: suf = (pre ++ [z]) ++ suf := by simp
            have e2 : pre.length + 1 = (pre ++ [z]).length := by simp
            cases ok with
            | true =>
              simp only [if_true, Option.bind_some, Bool.true_and]
              rw [e1, e2, ih (pre ++ [z]) suf _ h]
              simp
            | false =>
              simp only [Bool.false_eq_true, if_false, Option.bind_some, Bool.false_and]
              rw [e1, e2, ih (pre ++ [z]) suf _ h]
              simp
          by_cases hx : x = 0
          · subst hx
            rw [if_pos (by simp)]
            have e3 : (pre ++ (0 : Int) :: suf).set ((pre.length : Int)).toNat y = pre ++ y :: suf := by
              rw [Int.toNat_natCast, List.set_append_right _ _ (Nat.le_refl _), Nat.sub_self]; rfl
            rw [e3]
            refine (step y).trans ?_
            simp [unOK, unK]
          · rw [if_neg (by simpa using hx), step x]
            have : unK x y = x := by unfold unK; rw [if_neg hx]
            simp only [List.zipWith_cons_cons, List.zip_cons_cons, List.all_cons, unOK, this]
            have e4 : (y == x) = (x == y) := by rw [Bool.eq_iff_iff, beq_iff_eq, beq_iff_eq]; exact eq_comm
            rw [e4]
    have kr : ∀ (tl tb : List Int) (i : Nat) (out : List Int) (ok : Bool), b.drop i = tb → tl.length = tb.length → out.length + tl.length ≤ 1000 → ref13_kinds_l5 b tl i out ok = some (out ++ List.zipWith unK tl tb, ok && (tl.zip tb).all unOK) := by
      intro tl
      induction tl with
      | nil =>
        intro tb i out ok hd h _
        have : tb = [] := List.eq_nil_of_length_eq_zero h.symm
        subst this
        simp [ref13_kinds_l5]
      | cons x tl ih =>
        intro tb i out ok hd h hm
        cases tb with
        | nil => simp at h
        | cons y tb =>
          simp only [List.length_cons, Nat.add_right_cancel_iff] at h hm
          obtain ⟨h1, h2, h3⟩ := at_drop hd
          rw [ref13_kinds_l5, h1]
          simp only [Option.bind_some]
          have step : ∀ z : Int, ref13_kinds_k1 b (ref13_kinds_l5 b tl) i out ok z = some (out ++ z :: List.zipWith unK tl tb, ok && ((y == z || y == 0) && (tl.zip tb).all unOK)) := by
            intro z
            unfold ref13_kinds_k1
            rw [app_ok (by simp; omega), h1]
            simp only [Option.bind_some]
            cases ok with
            | true =>
              simp only [if_true, Option.bind_some, Bool.true_and]
              cases hyz : y == z with
              | true =>
                simp only [Bool.not_true, Bool.false_eq_true, if_false, Option.bind_some]
                rw [ih tb (i + 1) _ _ h3 h (by simp; omega)]
                simp
              | false =>
                simp only [Bool.not_false, if_true, Option.bind_some]
                rw [ih tb (i + 1) _ _ h3 h (by simp; omega)]
                simp
            | false =>
              simp only [Bool.false_eq_true, if_false, Option.bind_some, Bool.false_and]
              rw [ih tb (i + 1) _ _ h3 h (by simp; omega)]
              simp
          by_cases hx : x = 0
          · subst hx
            rw [if_pos (by simp), step y]
            simp [unOK, unK]
          · rw [if_neg (by simpa using hx), step x]
            have : unK x y = x := by unfold unK; rw [if_neg hx]
            simp only [List.zipWith_cons_cons, List.zip_cons_cons, List.all_cons, unOK, this]
    have h1 := kc b [] a true hl
    rw [List.length_nil, List.nil_append] at h1
    rw [h1, kr a b 0 [] true rfl hl (by simp; omega)]
    exact ⟨_, _, _, by rw [Bool.and_true], rfl, fun _ => rfl⟩
  · rw [if_pos (by simp; omega), if_pos (by simp; omega)]
    exact ⟨[], false, [], rfl, rfl, fun _ => rfl⟩
theorem order_same (c : Dchecker) (n : DLNode) (a b : List Int) (hn : SmallN n) (hop : n.Op = 8) (ha : idx c.kinds n.A = some a) : Same2 (logic_checker_order c n) (ref13_kinds n a b) ((c.kinds.length : Int) == IntKind.i64.wrap ((c.Logic.Nodes.length : Int) - (1 : Int))) := by
  have h := hn.order
  have hr : ref13_kinds n a b = ref13_kinds_l6 n a FUEL true (0 : Int) := by unfold ref13_kinds; rw [if_neg (by simp [hop]), if_neg (by simp [hop]), if_neg (by simp [hop]), if_neg (by simp [hop]), if_neg (by simp [hop]), if_neg (by simp [hop]), if_neg (by simp [hop])]
  have key : ∀ (tl : List DOrd) (i : Nat) (fu : Nat) (ok : Bool), n.Order.drop i = tl → i + tl.length = n.Order.length → tl.length < fu → ref13_kinds_l6 n a fu ok (i : Int) = some (a, ((((ok && tl.all fun e => decide (0 ≤ e.Col) && decide (e.Col < (a.length : Int))) && (decide ((n.Order.length : Int) ≤ (3 : Int)))) && (decide ((-1 : Int) ≤ n.Limit))) && (decide (n.Limit ≤ (2147483647 : Int))))) := by
    intro tl
    induction tl with
    | nil =>
      intro i fu ok hd hi hf
      obtain ⟨fu, rfl⟩ : ∃ k, fu = k + 1 := ⟨fu - 1, by omega⟩
      simp only [List.length_nil, Nat.add_zero] at hi
      rw [ref13_kinds_l6, if_neg (by simp; omega)]
      simp
    | cons x tl ih =>
      intro i fu ok hd hi hf
      simp only [List.length_cons] at hf hi
      obtain ⟨fu, rfl⟩ : ∃ k, fu = k + 1 := ⟨fu - 1, by omega⟩
      obtain ⟨h1, h2, h3⟩ := at_drop hd
      rw [ref13_kinds_l6, if_pos (by simp; omega), h1, wrapI (by omega) (by omega)]
      simp only [Option.bind_some]
      have e : ((i : Int) + 1) = ((i + 1 : Nat) : Int) := by omega
      rw [e]
      have e2 : ((if ok = true then some (decide ((0 : Int) ≤ x.Col)) else some false).bind fun t => (if t = true then some (decide (x.Col < (a.length : Int))) else some false).bind fun t1 => ref13_kinds_l6 n a fu t1 ((i + 1 : Nat) : Int)) = ref13_kinds_l6 n a fu (ok && (decide (0 ≤ x.Col) && decide (x.Col < (a.length : Int)))) ((i + 1 : Nat) : Int) := by
        cases ok <;> by_cases hx : (0 : Int) ≤ x.Col <;> simp [hx]
      rw [e2, ih (i + 1) fu _ h3 (by omega) (by omega)]
      simp only [List.all_cons, Bool.and_assoc]
  rw [hr, show ((0 : Int)) = ((0 : Nat) : Int) from rfl, key n.Order 0 FUEL true rfl (by simp) (Nat.lt_of_lt_of_le (Nat.lt_succ_self _) (fuel_ge (by omega)))]
  unfold logic_checker_order
  rw [ha]
  simp only [Option.bind_some]
  rw [ContainsFunc_ord_eq (f := logic_checker_order_1 a) (g := fun o => (decide (o.Col < (0 : Int))) || (decide ((a.length : Int) ≤ o.Col))) (fun v => rfl)]
  simp only [Option.bind_some]
  have e3 : (!(n.Order.any fun o => (decide (o.Col < (0 : Int))) || (decide ((a.length : Int) ≤ o.Col)))) = n.Order.all fun e => decide (0 ≤ e.Col) && decide (e.Col < (a.length : Int)) := by
    rw [List.not_any_eq_all_not]
    congr 1
    funext k
    rw [Bool.eq_iff_iff]
    simp
  rw [e3]
  refine ⟨a, _, a, ?_, rfl, fun _ => rfl⟩
  cases h4 : (n.Order.all fun e => decide (0 ≤ e.Col) && decide (e.Col < (a.length : Int))) <;> by_cases l1 : (n.Order.length : Int) ≤ 3 <;> simp [l1]
end Go.Proofs.Ytbhkincjkpeaoaa

namespace Go.Proofs.Ytbhkincjkpeaoaa
open Go

def op8 (op : Int) : Bool := decide (1 ≤ op) && decide (op ≤ 8)
theorem op8_cases {op : Int} (h : op8 op = true) : op = 1 ∨ op = 2 ∨ op = 3 ∨ op = 4 ∨ op = 5 ∨ op = 6 ∨ op = 7 ∨ op = 8 := by
  simp [op8] at h; omega
def ownB (n : DLNode) : Bool := (ref13_Own n).getD false
theorem ref13_Own_eq (n : DLNode) : ref13_Own n = some (ownB n) := by
  unfold ownB ref13_Own
  repeat' split
  all_goals rfl
theorem len0 {α : Type} (l : List α) : ((l.length : Int) == 0) = l.isEmpty := by cases l <;> simp <;> omega
theorem lenpos {α : Type} (l : List α) : decide ((0 : Int) < (l.length : Int)) = !l.isEmpty := by cases l <;> simp <;> omega
theorem own_same (n : DLNode) (h : op8 n.Op = true) : ((logic_bare n).bind fun r => (logic_zero r).bind fun r1 => some r1) = some (ownB n) := by
  obtain ⟨op, A, B, table, kinds, left, cond, keys, aggs, items, order, limit⟩ := n
  unfold ownB ref13_Own logic_bare logic_zero
  simp only [len0, lenpos]
  rcases op8_cases h with h | h | h | h | h | h | h | h <;> simp only at h <;> subst h <;> simp <;> (try (by_cases t : table = 0 <;> simp [t])) <;> (try (by_cases lm : limit = 0 <;> simp [lm])) <;> (try (cases left <;> simp)) <;> (try (by_cases e1 : kinds = [] <;> simp [e1])) <;> (try (by_cases e2 : cond.Nodes = [] <;> simp [e2])) <;> (try (by_cases e3 : keys = [] <;> simp [e3])) <;> (try (by_cases e4 : aggs = [] <;> simp [e4])) <;> (try (by_cases e5 : items = [] <;> simp [e5])) <;> (try (by_cases e6 : order = [] <;> simp [e6]))
theorem mget8 {β : Type} (f1 f2 f3 f4 f5 f6 f7 f8 : β) (k : Int) : mget (mset (mset (mset (mset (mset (mset (mset (mset ([] : List (Int × β)) 1 f1) 2 f2) 3 f3) 4 f4) 5 f5) 6 f6) 7 f7) 8 f8) k =
    if k = 1 then some f1 else if k = 2 then some f2 else if k = 3 then some f3 else if k = 4 then some f4 else if k = 5 then some f5 else if k = 6 then some f6 else if k = 7 then some f7 else if k = 8 then some f8 else none := by
  have e : mset (mset (mset (mset (mset (mset (mset (mset ([] : List (Int × β)) 1 f1) 2 f2) 3 f3) 4 f4) 5 f5) 6 f6) 7 f7) 8 f8 = [(1, f1), (2, f2), (3, f3), (4, f4), (5, f5), (6, f6), (7, f7), (8, f8)] := rfl
  rw [e]
  simp only [mget, eq_comm (b := k)]
theorem logic_parts_eq (op : Int) : logic_parts op = some (if op = 1 then 0 else if op = 2 ∨ op = 7 then 2 else 1) := by
  unfold logic_parts logic_parts_k1
  by_cases h1 : op = 1
  · simp [h1]
  by_cases h2 : op = 2
  · simp [h2]
  by_cases h7 : op = 7
  · simp [h7]
  simp [h1, h2, h7]
theorem ref13_Parts_eq (op : Int) : ref13_Parts op = some (if op = 1 then 0 else if op = 2 ∨ op = 7 then 2 else if op8 op then 1 else -1) := by
  unfold ref13_Parts ref13_Parts_k1 ref13_Parts_k2
  by_cases h : op8 op = true
  · rcases op8_cases h with rfl | rfl | rfl | rfl | rfl | rfl | rfl | rfl <;> rfl
  · have h' : ¬ (1 ≤ op ∧ op ≤ 8) := fun hh => h (by simp [op8]; omega)
    have h1 : ¬ op = 1 := by omega
    have h2 : ¬ op = 2 := by omega
    have h3 : ¬ op = 3 := by omega
    have h4 : ¬ op = 4 := by omega
    have h5 : ¬ op = 5 := by omega
    have h6 : ¬ op = 6 := by omega
    have h7 : ¬ op = 7 := by omega
    have h8 : ¬ op = 8 := by omega
    simp [h1, h2, h3, h4, h5, h6, h7, h8, h]
structure NodeIs (l : DLogic) (j : Nat) (f : Int) (ks : List Int) (s : Nat) : Prop where
  pos : 1 ≤ s
  le : s ≤ j + 1
  fst : f = (j : Int) + 1 - (s : Int)
  size : ∀ fu, j + 1 < fu → ref13_Size_f fu l (j : Int) = some (s : Int)
  len : ks.length ≤ 16
  kinds : ∀ fu, j + 1 < fu → ref13_Kinds_f fu l (j : Int) = some (ks, true)
structure Inv (l : DLogic) (i : Nat) (first : List Int) (kinds : List (List Int)) : Prop where
  fl : first.length = i
  kl : kinds.length = i
  node : ∀ j, j < i → ∃ f ks s, first[j]? = some f ∧ kinds[j]? = some ks ∧ NodeIs l j f ks s
theorem Inv.push {l : DLogic} {i : Nat} {first : List Int} {kinds : List (List Int)} (h : Inv l i first kinds) {f : Int} {ks : List Int} {s : Nat} (hn : NodeIs l i f ks s) : Inv l (i + 1) (first ++ [f]) (kinds ++ [ks]) := by
  refine ⟨by simp [h.fl], by simp [h.kl], fun j hj => ?_⟩
  by_cases hji : j = i
  · subst hji
    refine ⟨f, ks, s, ?_, ?_, hn⟩
    · rw [List.getElem?_append_right (by rw [h.fl]; exact Nat.le_refl _), h.fl, Nat.sub_self]; rfl
    · rw [List.getElem?_append_right (by rw [h.kl]; exact Nat.le_refl _), h.kl, Nat.sub_self]; rfl
  · obtain ⟨f', ks', s', h1, h2, h3⟩ := h.node j (by omega)
    exact ⟨f', ks', s', by rw [List.getElem?_append_left (by rw [h.fl]; omega)]; exact h1, by rw [List.getElem?_append_left (by rw [h.kl]; omega)]; exact h2, h3⟩
def PartsAt (n : DLNode) (i : Nat) : Prop :=
  (n.Op = 1 → n.A = -1 ∧ n.B = -1) ∧ (n.Op ≠ 1 → 0 < i ∧ 0 ≤ n.A ∧ n.A < i) ∧ (n.Op = 2 ∨ n.Op = 7 → n.B = (i : Int) - 1) ∧ (n.Op ≠ 1 → n.Op ≠ 2 → n.Op ≠ 7 → n.B = -1)
theorem size_neg (l : DLogic) {fu : Nat} (hf : 0 < fu) {p : Int} (h : p < 0) : ref13_Size_f fu l p = some 0 := by
  obtain ⟨fu, rfl⟩ : ∃ k, fu = k + 1 := ⟨fu - 1, by omega⟩
  unfold ref13_Size_f
  rw [if_pos (by simp [h])]
theorem below_same {l : DLogic} {i : Nat} {first : List Int} {kinds : List (List Int)} (hI : Inv l i first kinds) {n : DLNode} (hn : idx l.Nodes (i : Int) = some n) (hi : i < l.Nodes.length) (hl : l.Nodes.length ≤ 1000) (hop : op8 n.Op = true) :
    ∃ f ok, logic_checker_below ⟨l, kinds, first⟩ (i : Int) = some (f, ok) ∧ ((ok = true ∧ ∃ s : Nat, 1 ≤ s ∧ s ≤ i + 1 ∧ f = (i : Int) + 1 - (s : Int) ∧ (∀ fu, i + 1 < fu → ref13_Size_f fu l (i : Int) = some (s : Int)) ∧ PartsAt n i) ∨ (ok = false ∧ ∀ fu, i + 1 < fu → ref13_Size_f fu l (i : Int) = some 0)) := by
  have hstep : ∀ fu, i + 1 < fu → ∃ fu', fu = fu' + 1 ∧ i < fu' := fun fu h => ⟨fu - 1, by omega, by omega⟩
  unfold logic_checker_below
  simp only [hn, Option.bind_some, logic_parts_eq]
  by_cases h1 : n.Op = 1
  · -- nothing below
    simp only [h1, if_true]
    rw [if_pos (by decide)]
    refine ⟨_, _, rfl, ?_⟩
    by_cases hAB : n.A = -1 ∧ n.B = -1
    · refine .inl ⟨by simp [hAB], 1, Nat.le_refl _, by omega, by omega, fun fu hf => ?_, ⟨fun _ => hAB, fun h => absurd h1 h, fun h => by omega, fun h => absurd h1 h⟩⟩
      obtain ⟨fu', rfl, _⟩ := hstep fu hf
      unfold ref13_Size_f
      rw [if_neg (by simp; omega), hn]
      simp only [Option.bind_some, ref13_Parts_eq, h1, if_true]
      rw [if_pos (by decide), if_pos (by simp [hAB])]; rfl
    · have hb : (n.A == -1 && n.B == -1) = false := by rw [Bool.eq_false_iff]; intro h; apply hAB; simpa using h
      refine .inr ⟨hb, fun fu hf => ?_⟩
      obtain ⟨fu', rfl, _⟩ := hstep fu hf
      unfold ref13_Size_f
      rw [if_neg (by simp; omega), hn]
      simp only [Option.bind_some, ref13_Parts_eq, h1, if_true]
      rw [if_pos (by decide), if_neg (by rw [hb]; decide)]
  · by_cases h27 : n.Op = 2 ∨ n.Op = 7
    · -- two below
      simp only [h1, h27, if_true, if_false]
      rw [if_neg (by decide), if_neg (by decide)]
      have hsz : ∀ fu, i < fu → ref13_Size_f (fu + 1) l (i : Int) = if n.B = (i : Int) - 1 then ((ref13_Size_f fu) l n.B).bind (fun r2 => if ((decide ((0 : Int) < r2)) && (n.A == (IntKind.i64.wrap (n.B - r2)))) then (((ref13_Size_f fu) l n.A).bind fun r3 => if (decide ((0 : Int) < r3)) then (some (IntKind.i64.wrap ((IntKind.i64.wrap (r3 + r2)) + (1 : Int)))) else (some (0 : Int))) else (some (0 : Int))) else some 0 := by
        intro fu hfu
        conv => lhs; unfold ref13_Size_f
        rw [if_neg (by simp; omega), hn]
        simp only [Option.bind_some, ref13_Parts_eq, h1, h27, if_true, if_false]
        rw [if_neg (by decide), if_neg (by decide), if_pos (by decide), wrapI (n := (i : Int) - 1) (by omega) (by omega)]
        by_cases hB : n.B = (i : Int) - 1
        · rw [if_pos (by simp [hB]), if_pos hB]
        · rw [if_neg (by simpa using hB), if_neg hB]
      by_cases hB : n.B = (i : Int) - 1 ∧ 0 < i
      · have hcond : (!((n.B != IntKind.i64.wrap ((i : Int) - 1)) || ((i : Int) == 0))) = true := by
          rw [wrapI (by omega) (by omega)]
          have : ¬ ((i : Int) = 0) := by omega
          simp [hB.1, this]; omega
        rw [if_pos hcond]
        obtain ⟨fB, kB, sB, g1, g2, g3⟩ := hI.node (i - 1) (by omega)
        have hBi : n.B = ((i - 1 : Nat) : Int) := by omega
        have hidx : idx first n.B = some fB := by rw [hBi, idx_nat]; exact g1
        rw [hidx]
        have hfB := g3.fst
        have hsB := g3.pos
        have hsB2 := g3.le
        simp only [Option.bind_some]
        rw [wrapI (n := fB - 1) (by omega) (by omega)]
        by_cases hA : n.A = fB - 1 ∧ 0 ≤ n.A
        · rw [if_neg (by simp [hA.1]; omega)]
          obtain ⟨fA, kA, sA, q1, q2, q3⟩ := hI.node n.A.toNat (by omega)
          have hidA : idx first n.A = some fA := by
            rw [show n.A = ((n.A.toNat : Nat) : Int) from by omega, idx_nat]; exact q1
          rw [hidA]
          have hfA := q3.fst
          have hsA := q3.pos
          have hsA2 := q3.le
          refine ⟨fA, true, rfl, .inl ⟨rfl, sA + sB + 1, by omega, by omega, by omega, fun fu hf => ?_, ⟨fun h => absurd h h1, fun _ => ⟨hB.2, hA.2, by omega⟩, fun _ => hB.1, fun _ h2 h7 => by rcases h27 with h | h; exact absurd h h2; exact absurd h h7⟩⟩⟩
          obtain ⟨fu', rfl, hf'⟩ := hstep fu hf
          rw [hsz fu' hf', if_pos hB.1]
          have e1 := g3.size fu' (by omega)
          rw [← hBi] at e1
          rw [e1]
          simp only [Option.bind_some]
          rw [wrapI (n := n.B - (sB : Int)) (by omega) (by omega), if_pos (by simp; omega)]
          have e2 := q3.size fu' (by omega)
          rw [show ((n.A.toNat : Nat) : Int) = n.A from by omega] at e2
          rw [e2]
          simp only [Option.bind_some]
          rw [if_pos (by simp; omega), wrapI (n := (sA : Int) + (sB : Int)) (by omega) (by omega), wrapI (by omega) (by omega)]
          congr 1
        · have hb : (n.A != fB - 1 || decide (n.A < 0)) = true := by
            simp only [Bool.or_eq_true, bne_iff_ne, decide_eq_true_eq]
            by_cases h : n.A = fB - 1
            · exact .inr (by omega)
            · exact .inl h
          rw [if_pos hb]
          refine ⟨0, false, rfl, .inr ⟨rfl, fun fu hf => ?_⟩⟩
          obtain ⟨fu', rfl, hf'⟩ := hstep fu hf
          rw [hsz fu' hf', if_pos hB.1]
          have e1 := g3.size fu' (by omega)
          rw [← hBi] at e1
          rw [e1]
          simp only [Option.bind_some]
          rw [wrapI (n := n.B - (sB : Int)) (by omega) (by omega)]
          by_cases h : n.A = fB - 1
          · rw [if_pos (by simp; omega), size_neg l (by omega) (by omega)]
            rfl
          · rw [if_neg (by simp; omega)]
      · have hcond : (!((n.B != IntKind.i64.wrap ((i : Int) - 1)) || ((i : Int) == 0))) = false := by
          rw [wrapI (by omega) (by omega)]
          by_cases h : n.B = (i : Int) - 1
          · have : i = 0 := by omega
            simp [this]
          · simp [h]
        rw [hcond]
        simp only [Bool.false_eq_true, if_false, Option.bind_some, Bool.true_or, if_true]
        refine ⟨0, false, rfl, .inr ⟨rfl, fun fu hf => ?_⟩⟩
        obtain ⟨fu', rfl, hf'⟩ := hstep fu hf
        rw [hsz fu' hf']
        by_cases h : n.B = (i : Int) - 1
        · rw [if_pos h]
          rw [size_neg l (by omega) (by omega)]
          rfl
        · rw [if_neg h]
    · -- one below
      simp only [h1, h27, if_false]
      rw [if_neg (by decide), if_pos (by decide)]
      have hsz : ∀ fu, i < fu → ref13_Size_f (fu + 1) l (i : Int) = if n.A = (i : Int) - 1 ∧ n.B = -1 then ((ref13_Size_f fu) l n.A).bind (fun r1 => if (decide ((0 : Int) < r1)) then (some (IntKind.i64.wrap (r1 + (1 : Int)))) else (some (0 : Int))) else some 0 := by
        intro fu hfu
        conv => lhs; unfold ref13_Size_f
        rw [if_neg (by simp; omega), hn]
        simp only [Option.bind_some, ref13_Parts_eq, h1, h27, hop, if_true, if_false]
        rw [if_neg (by decide), if_pos (by decide), wrapI (n := (i : Int) - 1) (by omega) (by omega)]
        by_cases hB : n.A = (i : Int) - 1 ∧ n.B = -1
        · rw [if_pos (by simp [hB]), if_pos hB]
        · rw [if_neg (by simpa using hB), if_neg hB]
      rw [wrapI (by omega) (by omega)]
      by_cases hA : (n.A = (i : Int) - 1 ∧ n.B = -1) ∧ 0 < i
      · rw [if_neg (by simp [hA.1]; omega)]
        obtain ⟨fA, kA, sA, g1, g2, g3⟩ := hI.node (i - 1) (by omega)
        have hAi : n.A = ((i - 1 : Nat) : Int) := by omega
        have hidx : idx first n.A = some fA := by rw [hAi, idx_nat]; exact g1
        rw [hidx]
        have hfA := g3.fst
        have hsA := g3.pos
        have hsA2 := g3.le
        refine ⟨fA, true, rfl, .inl ⟨rfl, sA + 1, by omega, by omega, by omega, fun fu hf => ?_, ⟨fun h => absurd h h1, fun _ => ⟨hA.2, by omega, by omega⟩, fun h => absurd h h27, fun _ _ _ => hA.1.2⟩⟩⟩
        obtain ⟨fu', rfl, hf'⟩ := hstep fu hf
        rw [hsz fu' hf', if_pos hA.1]
        have e1 := g3.size fu' (by omega)
        rw [← hAi] at e1
        rw [e1]
        simp only [Option.bind_some]
        rw [if_pos (by simp; omega), wrapI (by omega) (by omega)]
        rfl
      · have hb : (n.A != (i : Int) - 1 || n.B != -1 || (i : Int) == 0) = true := by
          simp only [Bool.or_eq_true, bne_iff_ne, beq_iff_eq]
          by_cases h : n.A = (i : Int) - 1
          · by_cases h' : n.B = -1
            · exact .inr (by omega)
            · exact .inl (.inr h')
          · exact .inl (.inl h)
        rw [if_pos hb]
        refine ⟨0, false, rfl, .inr ⟨rfl, fun fu hf => ?_⟩⟩
        obtain ⟨fu', rfl, hf'⟩ := hstep fu hf
        rw [hsz fu' hf']
        by_cases h : n.A = (i : Int) - 1 ∧ n.B = -1
        · rw [if_pos h, size_neg l (by omega) (by omega)]
          rfl
        · rw [if_neg h]
theorem kinds_step {l : DLogic} {i : Nat} {first : List Int} {kinds : List (List Int)} (hI : Inv l i first kinds) {n : DLNode} (hn : idx l.Nodes (i : Int) = some n) (hl : l.Nodes.length ≤ 1000) (hi : i < l.Nodes.length) {s : Nat} (hs : 1 ≤ s) (hsz : ∀ fu, i + 1 < fu → ref13_Size_f fu l (i : Int) = some (s : Int)) (hp : PartsAt n i) (ho : ownB n = true) (hop : op8 n.Op = true) :
    ∃ a b, (n.Op ≠ 1 → idx kinds n.A = some a) ∧ (n.Op = 2 ∨ n.Op = 7 → idx kinds n.B = some b) ∧ a.length ≤ 16 ∧ b.length ≤ 16 ∧ ∀ fu, i + 1 < fu → ref13_Kinds_f fu l (i : Int) = ref13_Kinds_k2 l (i : Int) n a b := by
  obtain ⟨p1, p2, p3, p4⟩ := hp
  have hsz0 : ref13_Size l (i : Int) = some (s : Int) := hsz FUEL (Nat.lt_of_lt_of_le (Nat.lt_succ_self _) (fuel_ge (by omega)))
  have hu : ∀ fu, ref13_Kinds_f (fu + 1) l (i : Int) = if (decide ((0 : Int) ≤ n.A)) then (((ref13_Kinds_f fu) l n.A).bind fun r4 => if (!r4.2) then (some ([], false)) else (ref13_Kinds_k1 (ref13_Kinds_f fu) l (i : Int) n r4.1)) else (ref13_Kinds_k1 (ref13_Kinds_f fu) l (i : Int) n ([])) := by
    intro fu
    conv => lhs; unfold ref13_Kinds_f
    rw [hsz0, hn]
    simp only [Option.bind_some, ref13_Own_eq, ho]
    have : ¬ (s = 0) := by omega
    simp [this]
  by_cases h1 : n.Op = 1
  · obtain ⟨hA, hB⟩ := p1 h1
    refine ⟨[], [], fun h => absurd h1 h, fun h => by omega, by simp, by simp, fun fu hf => ?_⟩
    obtain ⟨fu, rfl⟩ : ∃ k, fu = k + 1 := ⟨fu - 1, by omega⟩
    rw [hu, if_neg (by simp [hA])]
    unfold ref13_Kinds_k1
    rw [if_neg (by simp [hB])]
  · obtain ⟨hi0, hA0, hAi⟩ := p2 h1
    obtain ⟨fA, kA, sA, g1, g2, g3⟩ := hI.node n.A.toNat (by omega)
    have eA : ((n.A.toNat : Nat) : Int) = n.A := by omega
    have hkA : idx kinds n.A = some kA := by rw [← eA, idx_nat]; exact g2
    by_cases h27 : n.Op = 2 ∨ n.Op = 7
    · have hB := p3 h27
      obtain ⟨fB, kB, sB, q1, q2, q3⟩ := hI.node (i - 1) (by omega)
      have eB : ((i - 1 : Nat) : Int) = n.B := by omega
      have hkB : idx kinds n.B = some kB := by rw [← eB, idx_nat]; exact q2
      refine ⟨kA, kB, fun _ => hkA, fun _ => hkB, g3.len, q3.len, fun fu hf => ?_⟩
      obtain ⟨fu, rfl⟩ : ∃ k, fu = k + 1 := ⟨fu - 1, by omega⟩
      rw [hu, if_pos (by simpa using hA0)]
      have e1 := g3.kinds fu (by omega)
      rw [eA] at e1
      rw [e1]
      simp only [Option.bind_some, Bool.not_true, Bool.false_eq_true, if_false]
      unfold ref13_Kinds_k1
      rw [if_pos (by simp; omega)]
      have e2 := q3.kinds fu (by omega)
      rw [eB] at e2
      rw [e2]
      simp only [Option.bind_some, Bool.not_true, Bool.false_eq_true, if_false]
    · have hB := p4 h1 (fun h => h27 (.inl h)) (fun h => h27 (.inr h))
      refine ⟨kA, [], fun _ => hkA, fun h => absurd h h27, g3.len, by simp, fun fu hf => ?_⟩
      obtain ⟨fu, rfl⟩ : ∃ k, fu = k + 1 := ⟨fu - 1, by omega⟩
      rw [hu, if_pos (by simpa using hA0)]
      have e1 := g3.kinds fu (by omega)
      rw [eA] at e1
      rw [e1]
      simp only [Option.bind_some, Bool.not_true, Bool.false_eq_true, if_false]
      unfold ref13_Kinds_k1
      rw [if_neg (by simp [hB])]
theorem kinds_no {l : DLogic} {i : Nat} {n : DLNode} (hn : idx l.Nodes (i : Int) = some n) (hl : i < 1000) (h : (∀ fu, i + 1 < fu → ref13_Size_f fu l (i : Int) = some 0) ∨ ((∃ s : Int, ∀ fu, i + 1 < fu → ref13_Size_f fu l (i : Int) = some s) ∧ ownB n = false)) : ref13_Kinds l (i : Int) = some ([], false) := by
  have hF : i + 1 < FUEL := Nat.lt_of_lt_of_le (Nat.lt_succ_self _) (fuel_ge (by omega))
  have e : FUEL = (FUEL - 1) + 1 := by omega
  unfold ref13_Kinds
  rw [e]
  unfold ref13_Kinds_f ref13_Size
  rcases h with h | ⟨⟨s, h⟩, ho⟩
  · rw [h _ hF]; simp
  · rw [h _ hF, hn]
    simp only [Option.bind_some, ref13_Own_eq, ho]
    by_cases hs : s = 0 <;> simp [hs]
end Go.Proofs.Ytbhkincjkpeaoaa

namespace Go.Proofs.Ytbhkincjkpeaoaa
open Go

def SmallL (l : DLogic) : Prop := ∀ n ∈ l.Nodes, SmallN n
abbrev MethF := Dchecker → DLNode → Option (((List Int) × Bool) × Dchecker)
def methT : List (Int × MethF) := (mset (mset (mset (mset (mset (mset (mset (mset ([] : List (Int × (Dchecker → DLNode → Option (((List Int) × Bool) × Dchecker)))) (1 : Int) (fun (mc : Dchecker) (mx : DLNode) => (logic_checker_scan mc mx).map fun mr => (mr, mc))) (2 : Int) (fun (mc : Dchecker) (mx : DLNode) => (logic_checker_join mc mx).map fun mr => (mr, mc))) (3 : Int) (fun (mc : Dchecker) (mx : DLNode) => (logic_checker_filter mc mx).map fun mr => (mr, mc))) (4 : Int) (fun (mc : Dchecker) (mx : DLNode) => (logic_checker_group mc mx).map fun mr => (mr, mc))) (5 : Int) (fun (mc : Dchecker) (mx : DLNode) => (logic_checker_project mc mx).map fun mr => (mr, mc))) (6 : Int) (fun (mc : Dchecker) (mx : DLNode) => (logic_checker_distinct mc mx).map fun mr => (mr, mc))) (7 : Int) (fun (mc : Dchecker) (mx : DLNode) => (logic_checker_union mc mx).map fun mr => (mr, mc))) (8 : Int) (fun (mc : Dchecker) (mx : DLNode) => (logic_checker_order mc mx).map fun mr => (mr, mc)))
theorem methT_is (op : Int) : (mget methT op).isSome = op8 op := by
  unfold methT
  rw [mget8]
  by_cases h : op8 op = true
  · rw [h]
    rcases op8_cases h with rfl | rfl | rfl | rfl | rfl | rfl | rfl | rfl <;> rfl
  · rw [Bool.eq_false_iff.2 h]
    have h' : ¬ (1 ≤ op ∧ op ≤ 8) := fun hh => h (by simp [op8]; omega)
    have h1 : ¬ op = 1 := by omega
    have h2 : ¬ op = 2 := by omega
    have h3 : ¬ op = 3 := by omega
    have h4 : ¬ op = 4 := by omega
    have h5 : ¬ op = 5 := by omega
    have h6 : ¬ op = 6 := by omega
    have h7 : ¬ op = 7 := by omega
    have h8 : ¬ op = 8 := by omega
    simp [h1, h2, h3, h4, h5, h6, h7, h8]
theorem meth_same (c : Dchecker) (n : DLNode) (a b : List Int) (hn : SmallN n) (hop : op8 n.Op = true) (ha : n.Op ≠ 1 → idx c.kinds n.A = some a) (hb : n.Op = 2 ∨ n.Op = 7 → idx c.kinds n.B = some b) (hal : a.length ≤ 16) (hbl : b.length ≤ 16) :
    ∃ k o k', ((mget methT n.Op).getD (fun _ _ => none)) c n = some ((k, o && (if n.Op = 8 then (c.kinds.length : Int) == IntKind.i64.wrap ((c.Logic.Nodes.length : Int) - (1 : Int)) else true)), c) ∧ ref13_kinds n a b = some (k', o) ∧ (o = true → k = k') := by
  have go : ∀ (m : Option (List Int × Bool)) (last : Bool), Same2 m (ref13_kinds n a b) last → ((mget methT n.Op).getD (fun _ _ => none)) c n = m.map (fun mr => (mr, c)) → (if n.Op = 8 then (c.kinds.length : Int) == IntKind.i64.wrap ((c.Logic.Nodes.length : Int) - (1 : Int)) else true) = last → ∃ k o k', ((mget methT n.Op).getD (fun _ _ => none)) c n = some ((k, o && (if n.Op = 8 then (c.kinds.length : Int) == IntKind.i64.wrap ((c.Logic.Nodes.length : Int) - (1 : Int)) else true)), c) ∧ ref13_kinds n a b = some (k', o) ∧ (o = true → k = k') := by
    intro m last ⟨k, o, k', h1, h2, h3⟩ he hl
    exact ⟨k, o, k', by rw [he, h1, hl]; rfl, h2, h3⟩
  unfold methT at go ⊢
  rw [mget8] at go ⊢
  rcases op8_cases hop with h | h | h | h | h | h | h | h
  · exact go _ _ (scan_same c n a b hn h) (by simp [h]) (by simp [h])
  · exact go _ _ (join_same c n a b hn h (ha (by omega)) (hb (.inl h)) hal hbl) (by simp [h]) (by simp [h])
  · exact go _ _ (filter_same c n a b hn h (ha (by omega))) (by simp [h]) (by simp [h])
  · exact go _ _ (group_same c n a b hn h (ha (by omega))) (by simp [h]) (by simp [h])
  · exact go _ _ (project_same c n a b hn h (ha (by omega))) (by simp [h]) (by simp [h])
  · exact go _ _ (distinct_same c n a b h (ha (by omega))) (by simp [h]) (by simp [h])
  · exact go _ _ (union_same c n a b h (ha (by omega)) (hb (.inr h)) hal) (by simp [h]) (by simp [h])
  · exact go _ _ (order_same c n a b hn h (ha (by omega))) (by simp [h]) (by simp [h])
theorem node_step {Sg : Type} (yld : (Int × Bool) → Sg → Option (Bool × Sg)) {l : DLogic} {i : Nat} {first : List Int} {kinds : List (List Int)} (hI : Inv l i first kinds) {n : DLNode} {tl : List DLNode} (hd : l.Nodes.drop i = n :: tl) (hS : SmallL l) (hl : l.Nodes.length ≤ 60) (st : Sg) :
    ∃ first' kinds' ok, logic_checker_all_1_l1 yld (n :: tl) i st ⟨l, kinds, first⟩ = ((yld ((i : Int), ok) st).bind fun r2 => if ((!r2.1) || (!ok)) then some (r2.2, ⟨l, kinds', first'⟩) else logic_checker_all_1_l1 yld tl (i + 1) r2.2 ⟨l, kinds', first'⟩) ∧ (∃ x, ref13_Kinds l (i : Int) = some (x, ok)) ∧ (ok = true → Inv l (i + 1) first' kinds') := by
  obtain ⟨hn, hi, _⟩ := at_drop hd
  have hfl := hI.fl
  have hkl := hI.kl
  have hSn : SmallN n := hS n (by
    rw [idx_nat] at hn
    exact List.mem_of_getElem? hn)
  have hF : i + 1 < FUEL := Nat.lt_of_lt_of_le (Nat.lt_succ_self _) (fuel_ge (by omega))
  have hu : logic_checker_all_1_l1 yld (n :: tl) i st ⟨l, kinds, first⟩ = (if (mget methT n.Op).isSome then ((logic_bare n).bind fun r => (logic_zero r).bind fun r1 => some r1) else some false).bind fun t => if t then ((logic_checker_below ⟨l, kinds, first⟩ (i : Int)).bind fun r4 => (app first ([r4.1])).bind fun l7 => logic_checker_all_1_k1 yld (logic_checker_all_1_l1 yld tl) i n st r4.2 ⟨l, kinds, l7⟩) else (logic_checker_all_1_k1 yld (logic_checker_all_1_l1 yld tl) i n st t ⟨l, kinds, first⟩) := rfl
  rw [hu, methT_is]
  have hk2 : ∀ (ok1 : Bool) (k : List Int) (f' : List Int), logic_checker_all_1_k2 yld (logic_checker_all_1_l1 yld tl) i st ok1 k ⟨l, kinds, f'⟩ = ((yld ((i : Int), ok1 && decide (k.length ≤ 16)) st).bind fun r2 => if ((!r2.1) || (!(ok1 && decide (k.length ≤ 16)))) then some (r2.2, ⟨l, kinds ++ [k], f'⟩) else logic_checker_all_1_l1 yld tl (i + 1) r2.2 ⟨l, kinds ++ [k], f'⟩) := by
    intro ok1 k f'
    unfold logic_checker_all_1_k2
    rw [app_ok (by simp; omega)]
    have : decide ((k.length : Int) ≤ 16) = decide (k.length ≤ 16) := by rw [Bool.eq_iff_iff]; simp; omega
    simp only [Option.bind_some, this]
  have hk1 : ∀ (f' : List Int), logic_checker_all_1_k1 yld (logic_checker_all_1_l1 yld tl) i n st false ⟨l, kinds, f'⟩ = ((yld ((i : Int), false) st).bind fun r2 => if ((!r2.1) || (!false)) then some (r2.2, ⟨l, kinds ++ [[]], f'⟩) else logic_checker_all_1_l1 yld tl (i + 1) r2.2 ⟨l, kinds ++ [[]], f'⟩) := by
    intro f'
    unfold logic_checker_all_1_k1
    rw [if_neg (by decide), hk2]
    rfl
  by_cases hop : op8 n.Op = true
  · rw [if_pos hop, own_same n hop]
    simp only [Option.bind_some]
    obtain ⟨f, ok, hb1, hb2⟩ := below_same hI hn hi (by omega) hop
    cases ho : ownB n with
    | false =>
      simp only [Bool.false_eq_true, if_false]
      rw [hk1]
      refine ⟨first, kinds ++ [[]], false, rfl, ⟨[], kinds_no hn (by omega) (.inr ⟨?_, ho⟩)⟩, by simp⟩
      rcases hb2 with ⟨_, s, _, _, _, h, _⟩ | ⟨_, h⟩
      · exact ⟨s, h⟩
      · exact ⟨0, h⟩
    | true =>
      simp only [if_true]
      rw [hb1]
      simp only [Option.bind_some]
      rw [app_ok (by simp; omega)]
      simp only [Option.bind_some]
      rcases hb2 with ⟨hok, s, hs, hs2, hf, hsz, hp⟩ | ⟨hok, h⟩
      · subst hok
        obtain ⟨a, b, ha, hb, hal, hbl, hK⟩ := kinds_step hI hn (by omega) hi hs hsz hp ho hop
        obtain ⟨k, o, k', m1, m2, m3⟩ := meth_same ⟨l, kinds, first ++ [f]⟩ n a b hSn hop ha hb hal hbl
        have hk1' : logic_checker_all_1_k1 yld (logic_checker_all_1_l1 yld tl) i n st true ⟨l, kinds, first ++ [f]⟩ = ((((mget methT n.Op).getD (fun _ _ => none)) ⟨l, kinds, first ++ [f]⟩ n).bind fun r3 => logic_checker_all_1_k2 yld (logic_checker_all_1_l1 yld tl) i st r3.1.2 r3.1.1 r3.2) := rfl
        rw [hk1', m1]
        simp only [Option.bind_some]
        rw [hk2]
        have hlast : ((kinds.length : Int) == IntKind.i64.wrap ((l.Nodes.length : Int) - 1)) = ((i : Int) == IntKind.i64.wrap ((l.Nodes.length : Int) - 1)) := by rw [hkl]
        have hKk : ∀ fu, i + 1 < fu → ∃ x, ref13_Kinds_f fu l (i : Int) = some (x, (o && (if n.Op = 8 then (kinds.length : Int) == IntKind.i64.wrap ((l.Nodes.length : Int) - (1 : Int)) else true)) && decide (k.length ≤ 16)) ∧ (((o && (if n.Op = 8 then (kinds.length : Int) == IntKind.i64.wrap ((l.Nodes.length : Int) - (1 : Int)) else true)) && decide (k.length ≤ 16)) = true → x = k) := by
          intro fu hf
          rw [hK fu hf]
          unfold ref13_Kinds_k2
          rw [m2]
          simp only [Option.bind_some]
          rw [hlast]
          cases o with
          | false =>
            simp only [Bool.false_and]
            split
            · exact ⟨_, rfl, by simp⟩
            · exact ⟨_, rfl, by simp⟩
          | true =>
            have := m3 rfl
            subst this
            simp only [Bool.true_and]
            by_cases h8 : n.Op = 8
            · by_cases hL : (i : Int) = IntKind.i64.wrap ((l.Nodes.length : Int) - 1)
              · by_cases h16 : k.length ≤ 16
                · rw [if_neg (by simp [← hL]; omega)]
                  exact ⟨k, by simp [h8, hL, h16], fun _ => rfl⟩
                · rw [if_pos (by simp; omega)]
                  exact ⟨[], by simp [h16], by simp [h16]⟩
              · rw [if_pos (by simp [h8, hL])]
                exact ⟨[], by simp [h8, hL], by simp [h8, hL]⟩
            · by_cases h16 : k.length ≤ 16
              · rw [if_neg (by simp [h8]; omega)]
                exact ⟨k, by simp [h8, h16], fun _ => rfl⟩
              · rw [if_pos (by simp; omega)]
                exact ⟨[], by simp [h16], by simp [h16]⟩
        refine ⟨first ++ [f], kinds ++ [k], _, rfl, ?_, fun hok => ?_⟩
        · obtain ⟨x, h1, _⟩ := hKk FUEL hF
          exact ⟨x, h1⟩
        · refine hI.push (s := s) ⟨hs, hs2, hf, hsz, ?_, fun fu hfu => ?_⟩
          · simp at hok; exact hok.2
          · obtain ⟨x, h1, h2⟩ := hKk fu hfu
            rw [h1, h2 hok, hok]
      · subst hok
        rw [hk1]
        exact ⟨first ++ [f], kinds ++ [[]], false, rfl, ⟨[], kinds_no hn (by omega) (.inl h)⟩, by simp⟩
  · rw [if_neg hop]
    simp only [Option.bind_some, Bool.false_eq_true, if_false]
    rw [hk1]
    refine ⟨first, kinds ++ [[]], false, rfl, ⟨[], kinds_no hn (by omega) (.inl fun fu hf => ?_)⟩, by simp⟩
    obtain ⟨fu, rfl⟩ : ∃ k, fu = k + 1 := ⟨fu - 1, by omega⟩
    unfold ref13_Size_f
    rw [if_neg (by simp; omega), hn]
    simp only [Option.bind_some, ref13_Parts_eq]
    have h1 : ¬ n.Op = 1 := fun h => hop (by rw [h]; rfl)
    have h2 : ¬ n.Op = 2 := fun h => hop (by rw [h]; rfl)
    have h7 : ¬ n.Op = 7 := fun h => hop (by rw [h]; rfl)
    simp [h1, h2, h7, hop]
theorem look_l1 {l : DLogic} (hS : SmallL l) (hl : l.Nodes.length ≤ 60) : ∀ (tl : List DLNode) (i : Nat) (first : List Int) (kinds : List (List Int)), Inv l i first kinds → l.Nodes.drop i = tl → i + tl.length = l.Nodes.length →
    ∃ st ob, logic_checker_all_1_l1 (bodyJ (fun x s => logic_look_b1 x s.1 s.2.1 s.2.2)) tl i (none, (false, (0 : Int), false)) ⟨l, kinds, first⟩ = some (st, ob) ∧ ob.Logic = l ∧
      ((st = (none, (false, (0 : Int), false)) ∧ Inv l l.Nodes.length ob.first ob.kinds ∧ ref13_Wrong_l1 l tl i = ref13_Wrong_l1 l [] l.Nodes.length) ∨ (∃ j : Nat, st = (some 0, (false, (j : Int), true)) ∧ ref13_Wrong_l1 l tl i = some (j : Int))) := by
  intro tl
  induction tl with
  | nil =>
    intro i first kinds hI hd hi
    simp only [List.length_nil, Nat.add_zero] at hi
    subst hi
    exact ⟨_, _, rfl, rfl, .inl ⟨rfl, hI, rfl⟩⟩
  | cons n tl ih =>
    intro i first kinds hI hd hi
    simp only [List.length_cons] at hi
    obtain ⟨f', k', ok, h1, ⟨x, h2⟩, h3⟩ := node_step (bodyJ (fun x s => logic_look_b1 x s.1 s.2.1 s.2.2)) hI hd hS hl (none, (false, (0 : Int), false))
    rw [h1]
    have hW : ref13_Wrong_l1 l (n :: tl) i = if (!ok) then some (i : Int) else ref13_Wrong_l1 l tl (i + 1) := by
      conv => lhs; unfold ref13_Wrong_l1
      rw [h2]; rfl
    rw [hW]
    cases ok with
    | false => exact ⟨_, _, rfl, rfl, .inr ⟨i, rfl, rfl⟩⟩
    | true =>
      obtain ⟨st, ob, g1, g2, g3⟩ := ih (i + 1) f' k' (h3 rfl) (at_drop hd).2.2 (by omega)
      refine ⟨st, ob, ?_, g2, ?_⟩
      · exact g1
      · simpa using g3
theorem Inv.nil (l : DLogic) : Inv l 0 [] [] := ⟨rfl, rfl, fun j h => absurd h (Nat.not_lt_zero _)⟩
structure LookOK (l : DLogic) (ob : Dchecker) : Prop where
  logic : ob.Logic = l
  pos : 1 ≤ l.Nodes.length
  le : l.Nodes.length ≤ 60
  inv : Inv l l.Nodes.length ob.first ob.kinds
  whole : ref13_Size l ((l.Nodes.length : Int) - 1) = some (l.Nodes.length : Int)
theorem look_eq {l : DLogic} (hS : SmallL l) : ∃ ob j ok, logic_look l = some (ob, j, ok) ∧ ref13_Wrong l = some (if ok then -1 else j) ∧ (0 ≤ j) ∧ (ok = true → LookOK l ob ∧ j = (l.Nodes.length : Int) - 1) := by
  unfold logic_look ref13_Wrong
  by_cases h : l.Nodes.length < 1 ∨ 60 < l.Nodes.length
  · rw [if_pos (by simp; omega), if_pos (by simp; omega)]
    exact ⟨_, _, _, rfl, rfl, Int.le_refl _, by simp⟩
  · rw [if_neg (by simp; omega), if_neg (by simp; omega)]
    unfold logic_checker_all
    simp only [Option.bind_some]
    unfold logic_checker_all_1
    obtain ⟨st, ob, h1, h2, h3⟩ := look_l1 hS (by omega) l.Nodes 0 [] [] (Inv.nil l) rfl (by simp)
    have h1' : logic_checker_all_1_l1 (bodyJ (fun x s => logic_look_b1 x s.1 s.2.1 s.2.2)) (⟨l, [], []⟩ : Dchecker).Logic.Nodes 0 (none, (false, (0 : Int), false)) ⟨l, [], []⟩ = some (st, ob) := h1
    rw [h1']
    simp only [Option.bind_some]
    rcases h3 with ⟨rfl, hI, hW⟩ | ⟨j, rfl, hW⟩
    · simp only [Option.isNone_none, if_true]
      rw [wrapI (by omega) (by omega)]
      obtain ⟨f, ks, s, g1, g2, g3⟩ := hI.node (l.Nodes.length - 1) (by omega)
      have e : ((l.Nodes.length - 1 : Nat) : Int) = (l.Nodes.length : Int) - 1 := by omega
      have hid : idx ob.first ((l.Nodes.length : Int) - 1) = some f := by rw [← e, idx_nat]; exact g1
      rw [hid]
      simp only [Option.bind_some]
      have hsz : ref13_Size l ((l.Nodes.length : Int) - 1) = some (s : Int) := by
        have := g3.size FUEL (Nat.lt_of_lt_of_le (Nat.lt_succ_self _) (fuel_ge (by omega)))
        rw [e] at this; exact this
      have hf := g3.fst
      refine ⟨_, _, _, rfl, ?_, by omega, fun hok => ?_⟩
      · rw [hW]
        unfold ref13_Wrong_l1
        rw [wrapI (by omega) (by omega), hsz]
        simp only [Option.bind_some]
        by_cases hs : s = l.Nodes.length
        · rw [if_neg (by simp [hs]), if_pos (by simp; omega)]
        · rw [if_pos (by simp; omega), if_neg (by simp; omega)]
      · have hs : s = l.Nodes.length := by simp at hok; omega
        exact ⟨⟨h2, by omega, by omega, hI, by rw [hsz, hs]⟩, rfl⟩
    · simp only [Option.isNone_some, Bool.false_eq_true, if_false]
      refine ⟨ob, (j : Int), false, rfl, by rw [hW]; rfl, by omega, by simp⟩
end Go.Proofs.Ytbhkincjkpeaoaa

namespace Go.Proofs.Ytbhkincjkpeaoaa
open Go

theorem wakes_true : law13_wakes = some true := by kernel_rfl
theorem fuel_len {n : Nat} (h : n ≤ 900000) : n < FUEL := Nat.lt_of_lt_of_le (Nat.lt_succ_self _) (fuel_ge (by omega))
theorem overExpr_le (e : DExpr) : ∃ b, law13_overExpr e = some b ∧ (b = false → e.Nodes.length ≤ 200) := by
  unfold law13_overExpr
  by_cases h : 200 < e.Nodes.length
  · rw [if_pos (by simp; omega)]
    exact ⟨true, rfl, by simp⟩
  · rw [if_neg (by simp; omega)]
    have key : ∀ ns : List DENode, ∃ b, law13_overExpr_l1 ns = some b := by
      intro ns
      induction ns with
      | nil => exact ⟨_, rfl⟩
      | cons n ns ih =>
        unfold law13_overExpr_l1
        split
        · exact ⟨_, rfl⟩
        · exact ih
    obtain ⟨b, hb⟩ := key e.Nodes
    exact ⟨b, hb, fun _ => by omega⟩
theorem overNode_le (n : DLNode) : ∃ b, law13_overNode n = some b ∧ (b = false → SmallN n) := by
  unfold law13_overNode
  by_cases h : ((((40 < n.Kinds.length ∨ 40 < n.Keys.length) ∨ 40 < n.Aggs.length) ∨ 40 < n.Items.length) ∨ 40 < n.Order.length) ∨ 200 < n.Cond.Nodes.length
  · rw [if_pos (by simp; omega)]
    exact ⟨true, rfl, by simp⟩
  · rw [if_neg (by simp; omega)]
    have key2 : ∀ gs : List DAgg, ∃ b, law13_overNode_l2 n gs = some b ∧ (b = false → ∀ g ∈ gs, g.Arg.Nodes.length ≤ 200) := by
      intro gs
      induction gs with
      | nil =>
        obtain ⟨b, h1, _⟩ := overExpr_le n.Cond
        exact ⟨b, by unfold law13_overNode_l2; rw [h1]; rfl, by simp⟩
      | cons g gs ih =>
        unfold law13_overNode_l2
        obtain ⟨b, h1, h2⟩ := overExpr_le g.Arg
        rw [h1]
        simp only [Option.bind_some]
        cases b with
        | true => exact ⟨true, rfl, by simp⟩
        | false =>
          obtain ⟨b', h3, h4⟩ := ih
          exact ⟨b', h3, fun hb x hx => by
            rcases List.mem_cons.1 hx with rfl | hx
            · exact h2 rfl
            · exact h4 hb x hx⟩
    have key : ∀ es : List DExpr, ∃ b, law13_overNode_l1 n es = some b ∧ (b = false → (∀ e ∈ es, e.Nodes.length ≤ 200) ∧ ∀ g ∈ n.Aggs, g.Arg.Nodes.length ≤ 200) := by
      intro es
      induction es with
      | nil =>
        obtain ⟨b, h1, h2⟩ := key2 n.Aggs
        exact ⟨b, h1, fun hb => ⟨by simp, h2 hb⟩⟩
      | cons e es ih =>
        unfold law13_overNode_l1
        obtain ⟨b, h1, h2⟩ := overExpr_le e
        rw [h1]
        simp only [Option.bind_some]
        cases b with
        | true => exact ⟨true, rfl, by simp⟩
        | false =>
          obtain ⟨b', h3, h4⟩ := ih
          exact ⟨b', h3, fun hb => ⟨fun x hx => by
            rcases List.mem_cons.1 hx with rfl | hx
            · exact h2 rfl
            · exact (h4 hb).1 x hx, (h4 hb).2⟩⟩
    obtain ⟨b, h1, h2⟩ := key n.Items
    exact ⟨b, h1, fun hb => ⟨by omega, by omega, by omega, by omega, by omega, by omega, fun g hg => by have := (h2 hb).2 g hg; omega, fun e he => by have := (h2 hb).1 e he; omega⟩⟩
theorem over_le (l : DLogic) : ∃ b, law13_over l = some b ∧ (b = false → l.Nodes.length ≤ 70 ∧ SmallL l) := by
  unfold law13_over
  by_cases h : 70 < l.Nodes.length
  · rw [if_pos (by simp; omega)]
    exact ⟨true, rfl, by simp⟩
  · rw [if_neg (by simp; omega)]
    have key : ∀ ns : List DLNode, ∃ b, law13_over_l1 ns = some b ∧ (b = false → ∀ n ∈ ns, SmallN n) := by
      intro ns
      induction ns with
      | nil => exact ⟨false, rfl, by simp⟩
      | cons n ns ih =>
        unfold law13_over_l1
        obtain ⟨b, h1, h2⟩ := overNode_le n
        rw [h1]
        simp only [Option.bind_some]
        cases b with
        | true => exact ⟨true, rfl, by simp⟩
        | false =>
          obtain ⟨b', h3, h4⟩ := ih
          exact ⟨b', h3, fun hb x hx => by
            rcases List.mem_cons.1 hx with rfl | hx
            · exact h2 rfl
            · exact h4 hb x hx⟩
    obtain ⟨b, h1, h2⟩ := key l.Nodes
    exact ⟨b, h1, fun hb => ⟨by omega, h2 hb⟩⟩
def shI (d x : Int) : Int := if 0 ≤ x then IntKind.i64.wrap (x + d) else x
def shN (d : Int) (n : DLNode) : DLNode := { n with A := shI d n.A, B := shI d n.B }
theorem SmallN.sh {n : DLNode} (h : SmallN n) (d : Int) : SmallN (shN d n) := ⟨h.cond, h.kinds, h.keys, h.aggs, h.items, h.order, h.args, h.exprs⟩
theorem SmallN.at {n : DLNode} (h : SmallN n) (a b : Int) : SmallN { n with A := a, B := b } := ⟨h.cond, h.kinds, h.keys, h.aggs, h.items, h.order, h.args, h.exprs⟩
theorem set_same {α : Type} {xs : List α} {i : Nat} {e : α} (h : xs[i]? = some e) : xs.set i e = xs := by
  apply List.ext_getElem?
  intro j
  rw [List.getElem?_set]
  split
  · rename_i hj; subst hj
    split
    · exact h.symm
    · rename_i h2; rw [List.getElem?_eq_none (by omega)]
  · rfl
theorem copied_k2_eq {n : DLNode} (h : SmallN n) : logic_copied_k2 n = some n := by
  have hK := h.kinds
  have hk := h.keys
  have hA := h.aggs
  have hI := h.items
  have hO := h.order
  have hc := h.cond
  have hcl : ∀ {l : List DENode}, l.length ≤ 5000 → slices_Clone_api_ENode_api_ENode l = some l := fun {l} hl => by
    unfold slices_Clone_api_ENode_api_ENode; rw [app_ok (by simp; omega)]; rfl
  unfold logic_copied_k2
  rw [Clone_int_eq _ (by omega), Clone_int_eq _ (by omega)]
  simp only [Option.bind_some]
  have e1 : slices_Clone_api_Ord_api_Ord n.Order = some n.Order := by unfold slices_Clone_api_Ord_api_Ord; rw [app_ok (by simp; omega)]; rfl
  rw [e1]
  simp only [Option.bind_some]
  rw [hcl hc]
  simp only [Option.bind_some]
  have e2 : slices_Clone_api_Agg_api_Agg n.Aggs = some n.Aggs := by unfold slices_Clone_api_Agg_api_Agg; rw [app_ok (by simp; omega)]; rfl
  rw [e2]
  simp only [Option.bind_some]
  have e3 : slices_Clone_api_Expr_api_Expr n.Items = some n.Items := by unfold slices_Clone_api_Expr_api_Expr; rw [app_ok (by simp; omega)]; rfl
  rw [e3]
  simp only [Option.bind_some]
  have key2 : ∀ (tl : List DExpr) (i : Nat), n.Items.drop i = tl → (∀ e ∈ tl, e.Nodes.length ≤ 5000) → logic_copied_l2 tl i n = some n := by
    intro tl
    induction tl with
    | nil => intro i _ _; rfl
    | cons x tl ih =>
      intro i hd hs
      obtain ⟨h1, h2, h3⟩ := at_drop hd
      unfold logic_copied_l2
      rw [h1]
      simp only [Option.bind_some]
      rw [hcl (hs x (List.mem_cons_self ..))]
      simp only [Option.bind_some, Int.toNat_natCast]
      rw [idx_nat] at h1
      have e4 : n.Items.set i ({ x with Nodes := x.Nodes } : DExpr) = n.Items := set_same h1
      rw [e4]
      exact ih (i + 1) h3 (fun e he => hs e (List.mem_cons_of_mem _ he))
  have key1 : ∀ (tl : List DAgg) (i : Nat), n.Aggs.drop i = tl → (∀ e ∈ tl, e.Arg.Nodes.length ≤ 5000) → logic_copied_l1 tl i n = some n := by
    intro tl
    induction tl with
    | nil => intro i _ _; exact key2 n.Items 0 rfl h.exprs
    | cons x tl ih =>
      intro i hd hs
      obtain ⟨h1, h2, h3⟩ := at_drop hd
      unfold logic_copied_l1
      rw [h1]
      simp only [Option.bind_some]
      rw [hcl (hs x (List.mem_cons_self ..))]
      simp only [Option.bind_some, Int.toNat_natCast]
      rw [idx_nat] at h1
      have e4 : n.Aggs.set i ({ x with Arg := ({ x.Arg with Nodes := x.Arg.Nodes } : DExpr) } : DAgg) = n.Aggs := set_same h1
      rw [e4]
      exact ih (i + 1) h3 (fun e he => hs e (List.mem_cons_of_mem _ he))
  exact key1 n.Aggs 0 rfl h.args
theorem logic_copied_eq {n : DLNode} (h : SmallN n) (d : Int) : logic_copied n d = some (shN d n) := by
  unfold logic_copied logic_copied_k1 shN shI
  by_cases hA : 0 ≤ n.A <;> by_cases hB : 0 ≤ n.B
  · rw [if_pos (by simpa using hA), if_pos (by simpa using hB), if_pos hA, if_pos hB]
    exact copied_k2_eq (h.at _ _)
  · rw [if_pos (by simpa using hA), if_neg (by simpa using hB), if_pos hA, if_neg hB]
    exact copied_k2_eq (h.at _ _)
  · rw [if_neg (by simpa using hA), if_pos (by simpa using hB), if_neg hA, if_pos hB]
    exact copied_k2_eq (h.at _ _)
  · rw [if_neg (by simpa using hA), if_neg (by simpa using hB), if_neg hA, if_neg hB]
    exact copied_k2_eq (h.at _ _)
def rightL (l : DLogic) : Bool := decide ((ref13_Wrong l).getD 0 < 0)
theorem right_eq {l : DLogic} (h : SmallL l) : ref13_Right l = some (rightL l) ∧ (∃ j, logic_Check l = some (if rightL l then (0, 0) else (j, 230))) ∧ (∃ ob j, logic_look l = some (ob, j, rightL l) ∧ (rightL l = true → LookOK l ob ∧ j = (l.Nodes.length : Int) - 1)) := by
  obtain ⟨ob, j, ok, h1, h2, h3, h4⟩ := look_eq h
  have e : rightL l = ok := by
    unfold rightL
    rw [h2]
    cases ok <;> simp <;> omega
  refine ⟨?_, ⟨j, ?_⟩, ob, j, ?_⟩
  · unfold ref13_Right rightL
    rw [h2]; rfl
  · unfold logic_Check
    rw [h1, e]
    cases ok <;> rfl
  · rw [e]
    exact ⟨h1, h4⟩
theorem shN_zero {n : DLNode} (hA : n.A ≤ 100000) (hB : n.B ≤ 100000) : shN 0 n = n := by
  have h : ∀ x : Int, x ≤ 100000 → shI 0 x = x := by
    intro x hx
    unfold shI
    by_cases h : 0 ≤ x
    · rw [if_pos h, Int.add_zero, wrapI (by omega) (by omega)]
    · rw [if_neg h]
  unfold shN
  rw [h _ hA, h _ hB]
theorem mem_shN {d : Int} {ns : List DLNode} (h : ∀ n ∈ ns, SmallN n) : ∀ n ∈ ns.map (shN d), SmallN n := by
  intro n hn
  obtain ⟨m, hm, rfl⟩ := List.mem_map.1 hn
  exact (h m hm).sh d
end Go.Proofs.Ytbhkincjkpeaoaa

namespace Go.Proofs.Ytbhkincjkpeaoaa
open Go

structure NFacts (l : DLogic) (sz : Nat → Nat) (ks : Nat → List Int) (j : Nat) (n : DLNode) : Prop where
  node : idx l.Nodes (j : Int) = some n
  op : op8 n.Op = true
  own : ownB n = true
  lf : n.Op = 1 → n.A = -1 ∧ n.B = -1 ∧ sz j = 1
  un : n.Op ≠ 1 → n.Op ≠ 2 → n.Op ≠ 7 → 0 < j ∧ n.A = (j : Int) - 1 ∧ n.B = -1 ∧ sz j = sz (j - 1) + 1
  bi : n.Op = 2 ∨ n.Op = 7 → 0 < j ∧ n.B = (j : Int) - 1 ∧ sz (j - 1) < j ∧ n.A = (j : Int) - 1 - (sz (j - 1) : Int) ∧ sz j = sz (j - 1 - sz (j - 1)) + sz (j - 1) + 1
  kinds : ref13_kinds n (if n.A < 0 then [] else ks n.A.toNat) (if n.B < 0 then [] else ks n.B.toNat) = some (ks j, true)
  last : n.Op = 8 → j + 1 = l.Nodes.length
  len : (ks j).length ≤ 16
  pos : 1 ≤ sz j
  le : sz j ≤ j + 1
theorem size_step {l : DLogic} {j : Nat} {n : DLNode} (hn : idx l.Nodes (j : Int) = some n) (hj : j < l.Nodes.length) (hl : l.Nodes.length ≤ 1000) (fu : Nat) : ref13_Size_f (fu + 1) l (j : Int) =
    if n.Op = 1 then (if n.A = -1 ∧ n.B = -1 then some 1 else some 0)
    else if n.Op = 2 ∨ n.Op = 7 then (if n.B = (j : Int) - 1 then ((ref13_Size_f fu) l n.B).bind (fun r2 => if ((decide ((0 : Int) < r2)) && (n.A == (IntKind.i64.wrap (n.B - r2)))) then (((ref13_Size_f fu) l n.A).bind fun r3 => if (decide ((0 : Int) < r3)) then (some (IntKind.i64.wrap ((IntKind.i64.wrap (r3 + r2)) + (1 : Int)))) else (some (0 : Int))) else (some (0 : Int))) else some 0)
    else if op8 n.Op = true then (if n.A = (j : Int) - 1 ∧ n.B = -1 then ((ref13_Size_f fu) l n.A).bind (fun r1 => if (decide ((0 : Int) < r1)) then (some (IntKind.i64.wrap (r1 + (1 : Int)))) else (some (0 : Int))) else some 0)
    else some 0 := by
  conv => lhs; unfold ref13_Size_f
  rw [if_neg (by simp; omega), hn]
  simp only [Option.bind_some, ref13_Parts_eq]
  by_cases h1 : n.Op = 1
  · simp only [h1, if_true]
    rw [if_pos (by decide)]
    by_cases hAB : n.A = -1 ∧ n.B = -1
    · rw [if_pos hAB, if_pos (by simp [hAB])]
    · rw [if_neg hAB, if_neg (by simpa using hAB)]
  by_cases h27 : n.Op = 2 ∨ n.Op = 7
  · simp only [h1, h27, if_true, if_false]
    rw [if_neg (by decide), if_neg (by decide), if_pos (by decide), wrapI (n := (j : Int) - 1) (by omega) (by omega)]
    by_cases hB : n.B = (j : Int) - 1
    · rw [if_pos (by simp [hB]), if_pos hB]
    · rw [if_neg (by simpa using hB), if_neg hB]
  by_cases hop : op8 n.Op = true
  · simp only [h1, h27, hop, if_true, if_false]
    rw [if_neg (by decide), if_pos (by decide), wrapI (n := (j : Int) - 1) (by omega) (by omega)]
    by_cases hB : n.A = (j : Int) - 1 ∧ n.B = -1
    · rw [if_pos (by simp [hB]), if_pos hB]
    · rw [if_neg (by simpa using hB), if_neg hB]
  · simp only [h1, h27, hop, if_false]
    rw [if_neg (by decide), if_neg (by decide), if_neg (by decide)]
    rfl
theorem kinds_unfold {l : DLogic} {j : Nat} {n : DLNode} {s : Int} (hn : idx l.Nodes (j : Int) = some n) (hs : ref13_Size l (j : Int) = some s) (hs0 : s ≠ 0) (ho : ownB n = true) (fu : Nat) : ref13_Kinds_f (fu + 1) l (j : Int) = if (decide ((0 : Int) ≤ n.A)) then (((ref13_Kinds_f fu) l n.A).bind fun r4 => if (!r4.2) then (some ([], false)) else (ref13_Kinds_k1 (ref13_Kinds_f fu) l (j : Int) n r4.1)) else (ref13_Kinds_k1 (ref13_Kinds_f fu) l (j : Int) n ([])) := by
  conv => lhs; unfold ref13_Kinds_f
  rw [hs, hn]
  simp only [Option.bind_some, ref13_Own_eq, ho]
  have : (s == 0) = false := by simpa using hs0
  simp [this]
def szF (first : List Int) (j : Nat) : Nat := ((j : Int) + 1 - (first[j]?).getD 0).toNat
def ksF (kinds : List (List Int)) (j : Nat) : List Int := (kinds[j]?).getD []
theorem Inv.at {l : DLogic} {i : Nat} {first : List Int} {kinds : List (List Int)} (h : Inv l i first kinds) {j : Nat} (hj : j < i) : NodeIs l j ((j : Int) + 1 - (szF first j : Int)) (ksF kinds j) (szF first j) ∧ first[j]? = some ((j : Int) + 1 - (szF first j : Int)) := by
  obtain ⟨f, k, s, h1, h2, h3⟩ := h.node j hj
  have e1 : ksF kinds j = k := by unfold ksF; rw [h2]; rfl
  have hf := h3.fst
  have hp := h3.pos
  have e2 : szF first j = s := by unfold szF; rw [h1]; simp only [Option.getD_some]; omega
  rw [e1, e2, ← hf]
  exact ⟨h3, h1⟩
theorem facts_of {l : DLogic} {first : List Int} {kinds : List (List Int)} (hI : Inv l l.Nodes.length first kinds) (hl : l.Nodes.length ≤ 60) {j : Nat} (hj : j < l.Nodes.length) : ∃ n, NFacts l (szF first) (ksF kinds) j n := by
  obtain ⟨N0, _⟩ := hI.at hj
  have hn : idx l.Nodes (j : Int) = some l.Nodes[j] := by rw [idx_nat, List.getElem?_eq_getElem hj]
  obtain ⟨n, hnn⟩ : ∃ n, n = l.Nodes[j] := ⟨_, rfl⟩
  rw [← hnn] at hn
  have hpos := N0.pos
  have hsz := N0.size (j + 3) (by omega)
  rw [size_step hn hj (by omega)] at hsz
  have hnone : ∀ {x : Int}, x = 0 → ¬ (some x = some (szF first j : Int)) := by
    intro x hx h
    injection h with h
    omega
  -- the places
  have P : op8 n.Op = true ∧ (n.Op = 1 → n.A = -1 ∧ n.B = -1 ∧ szF first j = 1) ∧ (n.Op ≠ 1 → n.Op ≠ 2 → n.Op ≠ 7 → 0 < j ∧ n.A = (j : Int) - 1 ∧ n.B = -1 ∧ szF first j = szF first (j - 1) + 1) ∧ (n.Op = 2 ∨ n.Op = 7 → 0 < j ∧ n.B = (j : Int) - 1 ∧ szF first (j - 1) < j ∧ n.A = (j : Int) - 1 - (szF first (j - 1) : Int) ∧ szF first j = szF first (j - 1 - szF first (j - 1)) + szF first (j - 1) + 1) := by
    by_cases h1 : n.Op = 1
    · rw [if_pos h1] at hsz
      by_cases hAB : n.A = -1 ∧ n.B = -1
      · rw [if_pos hAB] at hsz
        injection hsz with hsz
        exact ⟨by rw [h1]; rfl, fun _ => ⟨hAB.1, hAB.2, by omega⟩, fun h => absurd h1 h, fun h => by omega⟩
      · rw [if_neg hAB] at hsz; exact absurd hsz (hnone rfl)
    rw [if_neg h1] at hsz
    by_cases h27 : n.Op = 2 ∨ n.Op = 7
    · rw [if_pos h27] at hsz
      by_cases hB : n.B = (j : Int) - 1
      · rw [if_pos hB] at hsz
        by_cases hj0 : j = 0
        · rw [size_neg l (by omega) (by omega)] at hsz
          exact absurd hsz (hnone rfl)
        · obtain ⟨NB, _⟩ := hI.at (j := j - 1) (by omega)
          have eB : ((j - 1 : Nat) : Int) = n.B := by omega
          have hszB := NB.size (j + 2) (by omega)
          have hpB := NB.pos
          have hlB := NB.le
          rw [eB] at hszB
          rw [hszB] at hsz
          simp only [Option.bind_some] at hsz
          rw [wrapI (n := n.B - _) (by omega) (by omega)] at hsz
          by_cases hA : n.A = n.B - (szF first (j - 1) : Int)
          · rw [if_pos (by simp [hA]; omega)] at hsz
            by_cases hA0 : n.A < 0
            · rw [size_neg l (by omega) hA0] at hsz
              exact absurd hsz (hnone rfl)
            · obtain ⟨NA, _⟩ := hI.at (j := j - 1 - szF first (j - 1)) (by omega)
              have eA : ((j - 1 - szF first (j - 1) : Nat) : Int) = n.A := by omega
              have hszA := NA.size (j + 2) (by omega)
              have hpA := NA.pos
              have hlA := NA.le
              rw [eA] at hszA
              rw [hszA] at hsz
              simp only [Option.bind_some] at hsz
              rw [if_pos (by simp; omega), wrapI (n := (szF first (j - 1 - szF first (j - 1)) : Int) + (szF first (j - 1) : Int)) (by omega) (by omega), wrapI (by omega) (by omega)] at hsz
              injection hsz with hsz
              refine ⟨?_, fun h => absurd h h1, fun _ h2 h7 => by rcases h27 with h | h; exact absurd h h2; exact absurd h h7, fun _ => ⟨by omega, hB, by omega, by omega, by omega⟩⟩
              rcases h27 with h | h <;> rw [h] <;> rfl
          · rw [if_neg (by simp; intro _; exact hA)] at hsz
            exact absurd hsz (hnone rfl)
      · rw [if_neg hB] at hsz; exact absurd hsz (hnone rfl)
    rw [if_neg h27] at hsz
    by_cases hop : op8 n.Op = true
    · rw [if_pos hop] at hsz
      by_cases hA : n.A = (j : Int) - 1 ∧ n.B = -1
      · rw [if_pos hA] at hsz
        by_cases hj0 : j = 0
        · rw [size_neg l (by omega) (by omega)] at hsz
          exact absurd hsz (hnone rfl)
        · obtain ⟨NA, _⟩ := hI.at (j := j - 1) (by omega)
          have eA : ((j - 1 : Nat) : Int) = n.A := by omega
          have hszA := NA.size (j + 2) (by omega)
          have hpA := NA.pos
          have hlA := NA.le
          rw [eA] at hszA
          rw [hszA] at hsz
          simp only [Option.bind_some] at hsz
          rw [if_pos (by simp; omega), wrapI (by omega) (by omega)] at hsz
          injection hsz with hsz
          exact ⟨hop, fun h => absurd h h1, fun _ _ _ => ⟨by omega, hA.1, hA.2, by omega⟩, fun h => absurd h h27⟩
      · rw [if_neg hA] at hsz; exact absurd hsz (hnone rfl)
    · rw [if_neg hop] at hsz; exact absurd hsz (hnone rfl)
  obtain ⟨p0, p1, p2, p3⟩ := P
  -- what it has of its own, and its kinds
  have hk := N0.kinds (j + 3) (by omega)
  have hszR : ref13_Size l (j : Int) = some (szF first j : Int) := N0.size FUEL (fuel_len (by omega))
  have ho : ownB n = true := by
    cases ho : ownB n with
    | true => rfl
    | false =>
      exfalso
      unfold ref13_Kinds_f at hk
      rw [hszR, hn] at hk
      simp only [Option.bind_some, ref13_Own_eq, ho] at hk
      have : ¬ (szF first j = 0) := by omega
      simp [this] at hk
  have hpl : n.A < (j : Int) ∧ n.B < (j : Int) := by
    by_cases h1 : n.Op = 1
    · obtain ⟨a, b, _⟩ := p1 h1; omega
    by_cases h27 : n.Op = 2 ∨ n.Op = 7
    · obtain ⟨a, b, c, d, _⟩ := p3 h27; omega
    · obtain ⟨a, b, c, _⟩ := p2 h1 (fun h => h27 (.inl h)) (fun h => h27 (.inr h)); omega
  rw [kinds_unfold hn hszR (by omega) ho] at hk
  have hkA : ∀ (p : Int), 0 ≤ p → p < (j : Int) → ref13_Kinds_f (j + 2) l p = some (ksF kinds p.toNat, true) := by
    intro p hp0 hpj
    obtain ⟨NA, _⟩ := hI.at (j := p.toNat) (by omega)
    have := NA.kinds (j + 2) (by omega)
    rw [show ((p.toNat : Nat) : Int) = p from by omega] at this
    exact this
  have hk1 : ∀ a, ref13_Kinds_k1 (ref13_Kinds_f (j + 2)) l (j : Int) n a = ref13_Kinds_k2 l (j : Int) n a (if n.B < 0 then [] else ksF kinds n.B.toNat) := by
    intro a
    unfold ref13_Kinds_k1
    by_cases hB : 0 ≤ n.B
    · rw [if_pos (by simpa using hB), hkA n.B hB hpl.2, if_neg (by omega)]
      rfl
    · rw [if_neg (by simpa using hB), if_pos (by omega)]
  have hk2 : ref13_Kinds_k2 l (j : Int) n (if n.A < 0 then [] else ksF kinds n.A.toNat) (if n.B < 0 then [] else ksF kinds n.B.toNat) = some (ksF kinds j, true) := by
    by_cases hA : 0 ≤ n.A
    · rw [if_pos (by simpa using hA), hkA n.A hA hpl.1] at hk
      simp only [Option.bind_some, Bool.not_true, Bool.false_eq_true, if_false] at hk
      rw [hk1] at hk
      rw [if_neg (show ¬ n.A < 0 by omega)]
      exact hk
    · rw [if_neg (by simpa using hA), hk1] at hk
      rw [if_pos (show n.A < 0 by omega)]
      exact hk
  unfold ref13_Kinds_k2 at hk2
  cases hr : ref13_kinds n (if n.A < 0 then [] else ksF kinds n.A.toNat) (if n.B < 0 then [] else ksF kinds n.B.toNat) with
  | none => rw [hr] at hk2; cases hk2
  | some r =>
    rw [hr] at hk2
    simp only [Option.bind_some] at hk2
    split at hk2
    · simp at hk2
    · rename_i hc
      injection hk2 with hk2
      injection hk2 with e1 e2
      refine ⟨n, hn, p0, ho, p1, p2, p3, ?_, fun h8 => ?_, N0.len, N0.pos, N0.le⟩
      · rw [hr, ← e1, ← e2]
      · simp only [Bool.or_eq_true, Bool.and_eq_true, beq_iff_eq, bne_iff_ne, decide_eq_true_eq, not_or, not_and, Decidable.not_not] at hc
        have := hc.1 h8
        rw [wrapI (by omega) (by omega)] at this
        omega
theorem facts_inv {l : DLogic} {sz : Nat → Nat} {ks : Nat → List Int} {m : Nat} (hl : l.Nodes.length ≤ 60) (hm : m ≤ l.Nodes.length) (h : ∀ j, j < m → ∃ n, NFacts l sz ks j n) : ∀ (j : Nat), j < m → (∀ fu, j + 1 < fu → ref13_Size_f fu l (j : Int) = some (sz j : Int)) ∧ ∀ fu, j + 1 < fu → ref13_Kinds_f fu l (j : Int) = some (ks j, true) := by
  intro j
  induction j using Nat.strongRecOn with
  | ind j ih =>
    intro hj
    obtain ⟨n, F⟩ := h j hj
    have hpl : n.A < (j : Int) ∧ n.B < (j : Int) := by
      by_cases h1 : n.Op = 1
      · obtain ⟨a, b, _⟩ := F.lf h1; omega
      by_cases h27 : n.Op = 2 ∨ n.Op = 7
      · obtain ⟨a, b, c, d, _⟩ := F.bi h27; omega
      · obtain ⟨a, b, c, _⟩ := F.un h1 (fun h => h27 (.inl h)) (fun h => h27 (.inr h)); omega
    have hS : ∀ fu, j + 1 < fu → ref13_Size_f fu l (j : Int) = some (sz j : Int) := by
      intro fu hf
      obtain ⟨fu, rfl⟩ : ∃ k, fu = k + 1 := ⟨fu - 1, by omega⟩
      rw [size_step F.node (by omega) (by omega)]
      by_cases h1 : n.Op = 1
      · obtain ⟨a, b, c⟩ := F.lf h1
        rw [if_pos h1, if_pos ⟨a, b⟩, c]; rfl
      rw [if_neg h1]
      by_cases h27 : n.Op = 2 ∨ n.Op = 7
      · obtain ⟨a, b, c, d, e⟩ := F.bi h27
        obtain ⟨nB, FB⟩ := h (j - 1) (by omega)
        obtain ⟨nA, FA⟩ := h (j - 1 - sz (j - 1)) (by omega)
        have hB := (ih (j - 1) (by omega) (by omega)).1 fu (by omega)
        have hA := (ih (j - 1 - sz (j - 1)) (by omega) (by omega)).1 fu (by omega)
        rw [show ((j - 1 : Nat) : Int) = n.B from by omega] at hB
        rw [show ((j - 1 - sz (j - 1) : Nat) : Int) = n.A from by omega] at hA
        have q1 := FB.pos
        have q2 := FB.le
        have q3 := FA.pos
        have q4 := FA.le
        rw [if_pos h27, if_pos b, hB]
        simp only [Option.bind_some]
        rw [wrapI (n := n.B - _) (by omega) (by omega), if_pos (by simp; omega), hA]
        simp only [Option.bind_some]
        rw [if_pos (by simp; omega), wrapI (n := (sz (j - 1 - sz (j - 1)) : Int) + (sz (j - 1) : Int)) (by omega) (by omega), wrapI (by omega) (by omega), e]
        rfl
      · obtain ⟨a, b, c, d⟩ := F.un h1 (fun h => h27 (.inl h)) (fun h => h27 (.inr h))
        obtain ⟨nA, FA⟩ := h (j - 1) (by omega)
        have hA := (ih (j - 1) (by omega) (by omega)).1 fu (by omega)
        rw [show ((j - 1 : Nat) : Int) = n.A from by omega] at hA
        have q1 := FA.pos
        have q2 := FA.le
        rw [if_neg h27, if_pos F.op, if_pos ⟨b, c⟩, hA]
        simp only [Option.bind_some]
        rw [if_pos (by simp; omega), wrapI (by omega) (by omega), d]
        rfl
    refine ⟨hS, fun fu hf => ?_⟩
    obtain ⟨fu, rfl⟩ : ∃ k, fu = k + 1 := ⟨fu - 1, by omega⟩
    have hszR : ref13_Size l (j : Int) = some (sz j : Int) := hS FUEL (fuel_len (by omega))
    have hp := F.pos
    rw [kinds_unfold F.node hszR (by omega) F.own]
    have hkA : ∀ (p : Int), 0 ≤ p → p < (j : Int) → ref13_Kinds_f fu l p = some (ks p.toNat, true) := by
      intro p hp0 hpj
      have := (ih p.toNat (by omega) (by omega)).2 fu (by omega)
      rw [show ((p.toNat : Nat) : Int) = p from by omega] at this
      exact this
    have hk1 : ∀ a, ref13_Kinds_k1 (ref13_Kinds_f fu) l (j : Int) n a = ref13_Kinds_k2 l (j : Int) n a (if n.B < 0 then [] else ks n.B.toNat) := by
      intro a
      unfold ref13_Kinds_k1
      by_cases hB : 0 ≤ n.B
      · rw [if_pos (by simpa using hB), hkA n.B hB hpl.2, if_neg (by omega)]
        rfl
      · rw [if_neg (by simpa using hB), if_pos (by omega)]
    have hk2 : ref13_Kinds_k2 l (j : Int) n (if n.A < 0 then [] else ks n.A.toNat) (if n.B < 0 then [] else ks n.B.toNat) = some (ks j, true) := by
      unfold ref13_Kinds_k2
      rw [F.kinds]
      simp only [Option.bind_some]
      rw [if_neg]
      have hlen := F.len
      simp only [Bool.or_eq_true, Bool.and_eq_true, beq_iff_eq, bne_iff_ne, decide_eq_true_eq, not_or, not_and, Decidable.not_not]
      refine ⟨fun h8 => ?_, by omega⟩
      have := F.last h8
      rw [wrapI (by omega) (by omega)]
      omega
    by_cases hA : 0 ≤ n.A
    · rw [if_pos (by simpa using hA), hkA n.A hA hpl.1]
      simp only [Option.bind_some, Bool.not_true, Bool.false_eq_true, if_false]
      rw [hk1]
      rw [if_neg (show ¬ n.A < 0 by omega)] at hk2
      exact hk2
    · rw [if_neg (by simpa using hA), hk1]
      rw [if_pos (show n.A < 0 by omega)] at hk2
      exact hk2
theorem facts_right {l : DLogic} {sz : Nat → Nat} {ks : Nat → List Int} (hl : l.Nodes.length ≤ 60) (hp : 1 ≤ l.Nodes.length) (h : ∀ j, j < l.Nodes.length → ∃ n, NFacts l sz ks j n) (hw : sz (l.Nodes.length - 1) = l.Nodes.length) : rightL l = true := by
  have H := facts_inv hl (Nat.le_refl _) h
  unfold rightL ref13_Wrong
  rw [if_neg (by simp; omega)]
  have key : ∀ (tl : List DLNode) (i : Nat), l.Nodes.drop i = tl → i + tl.length = l.Nodes.length → ref13_Wrong_l1 l tl i = some (-1) := by
    intro tl
    induction tl with
    | nil =>
      intro i _ _
      unfold ref13_Wrong_l1
      have := (H (l.Nodes.length - 1) (by omega)).1 FUEL (fuel_len (by omega))
      rw [wrapI (by omega) (by omega), show (l.Nodes.length : Int) - 1 = ((l.Nodes.length - 1 : Nat) : Int) from by omega]
      unfold ref13_Size
      rw [this, hw]
      simp
    | cons n tl ih =>
      intro i hd hi
      simp only [List.length_cons] at hi
      obtain ⟨_, h2, h3⟩ := at_drop hd
      unfold ref13_Wrong_l1 ref13_Kinds
      rw [(H i h2).2 FUEL (fuel_len (by omega))]
      simp only [Option.bind_some, Bool.not_true, Bool.false_eq_true, if_false]
      exact ih (i + 1) h3 (by omega)
  rw [key l.Nodes 0 rfl (by simp)]
  rfl
end Go.Proofs.Ytbhkincjkpeaoaa

