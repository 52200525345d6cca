/- Facts of this claim: L1, L2, L3. -/
import Derived.Test.YtdhledkpgaeoaaaDoorKgR10
import Derived.KernelRfl
namespace Go.Proofs.YtdhledkpgaeoaaaDoor
open Go

theorem wrapI {n : Int} (h : -9223372036854775808 ≤ n) (h2 : n ≤ 9223372036854775807) : IntKind.i64.wrap n = n := by rw [IntKind.wrap_i64]; omega
theorem app_ok {α : Type} {xs ys : List α} (h : xs.length + ys.length ≤ 68719476736) : app xs ys = some (xs ++ ys) := if_pos h
theorem sliceF_ok {α : Type} {xs : List α} {l m : Nat} (h : l ≤ m) (h2 : m ≤ xs.length) : sliceF xs (l : Int) (m : Int) = some ((xs.take m).drop l) := by
  unfold sliceF
  rw [if_pos (by omega)]
  simp
theorem sliceF_at {α : Type} {xs : List α} {i j : Int} (l m : Nat) (hi : i = (l : Int)) (hj : j = (m : Int)) (h : l ≤ m) (h2 : m ≤ xs.length) : sliceF xs i j = some ((xs.take m).drop l) := by
  subst hi hj; exact sliceF_ok h h2
theorem idx_at {α : Type} {xs : List α} {i : Int} (k : Nat) (hi : i = (k : Int)) : idx xs i = xs[k]? := by subst hi; exact idx_nat _ _
def rightV (v : DValue) : Bool := (ref02_Right v).getD false
theorem ref02_Right_eq (v : DValue) : ref02_Right v = some (rightV v) := by
  unfold rightV ref02_Right
  repeat' split
  all_goals rfl
theorem value_Check_eq (v : DValue) : value_Check v = some (if rightV v then 0 else 120) := by
  obtain ⟨k, n, u, s⟩ := v
  unfold rightV ref02_Right value_Check value_blank
  simp only [value_blank_k1, value_blank_k2, value_blank_k3, value_blank_k4]
  by_cases h0 : k = 0
  · subst h0; simp
    repeat' split
    all_goals simp_all
  by_cases h1 : k = 1
  · subst h1
    by_cases n0 : n = 0
    · subst n0; simp
      repeat' split
      all_goals simp_all
    by_cases n1 : n = 1
    · subst n1; simp
      repeat' split
      all_goals simp_all
    simp [n0, n1]
  by_cases h2 : k = 2
  · subst h2; simp
    repeat' split
    all_goals simp_all
  by_cases h3 : k = 3
  · subst h3; simp
    repeat' split
    all_goals simp_all
  by_cases h4 : k = 4
  · subst h4; simp
    repeat' split
    all_goals simp_all
  simp [h0, h1, h2, h3, h4]
def plainV (v : DValue) : Bool := rightV v && (v.Kind != 4)
theorem value_Plain_eq (v : DValue) : value_Plain v = some (plainV v) := by
  unfold value_Plain plainV
  rw [value_Check_eq]
  cases rightV v <;> simp
theorem ref02_Plain_eq (v : DValue) : ref02_Plain v = some (plainV v) := by
  unfold ref02_Plain plainV
  rw [ref02_Right_eq]
  rfl
def pk (tag : Int) : Option Nat := if tag = 1 ∨ tag = 2 then some 0 else if 4 ≤ tag ∧ tag ≤ 7 then some 1 else if 12 ≤ tag ∧ tag ≤ 23 then some 2 else none
def pkI (tag : Int) : Int := match pk tag with
  | some k => (k : Int)
  | none => -1
theorem expr_parts_eq (tag : Int) : expr_parts tag = some (pkI tag) := by
  unfold expr_parts pkI pk
  by_cases h1 : tag = 1 ∨ tag = 2
  · rw [if_pos h1, if_pos (by simpa using h1)]; rfl
  rw [if_neg h1, if_neg (by simpa using h1)]
  by_cases h2 : 4 ≤ tag ∧ tag ≤ 7
  · rw [if_pos h2, if_pos (by simpa using h2)]; rfl
  rw [if_neg h2, if_neg (by simpa using h2)]
  by_cases h3 : 12 ≤ tag ∧ tag ≤ 23
  · rw [if_pos h3, if_pos (by simpa using h3)]; rfl
  rw [if_neg h3, if_neg (by simpa using h3)]
def cnt (n : DENode) : Bool := (ref10_counts n).getD false
theorem ref10_counts_eq (n : DENode) : ref10_counts n = some (cnt n) := by
  unfold cnt ref10_counts
  rw [ref02_Plain_eq]
  split
  · rfl
  · split <;> rfl
theorem expr_counts_eq (n : DENode) : expr_counts n = some (cnt n) := by
  rw [← ref10_counts_eq]
  unfold expr_counts ref10_counts
  rw [ref02_Plain_eq, value_Plain_eq]
inductive Tr where
  | lf (n : DENode)
  | un (n : DENode) (a : Tr)
  | bi (n : DENode) (a b : Tr)
  deriving Inhabited
def Tr.size : Tr → Nat
  | .lf _ => 1
  | .un _ a => a.size + 1
  | .bi _ a b => a.size + b.size + 1
def put2 (n : DENode) (l r : Int) : DENode := { n with L := l, R := r }
def Tr.flat : Tr → Nat → List DENode
  | .lf n, _ => [put2 n (-1) (-1)]
  | .un n a, s => a.flat s ++ [put2 n ((s + a.size : Nat) - 1) (-1)]
  | .bi n a b, s => a.flat s ++ b.flat (s + a.size) ++ [put2 n ((s + a.size : Nat) - 1) ((s + a.size + b.size : Nat) - 1)]
def okN (k : Nat) (n : DENode) : Prop := pk n.Tag = some k ∧ cnt n = true ∧ n.L = -1 ∧ n.R = -1
def Tr.wf : Tr → Prop
  | .lf n => okN 0 n
  | .un n a => okN 1 n ∧ a.wf
  | .bi n a b => okN 2 n ∧ a.wf ∧ b.wf
theorem Tr.size_pos (t : Tr) : 0 < t.size := by cases t <;> simp [Tr.size]
theorem Tr.flat_len (t : Tr) : ∀ s, (t.flat s).length = t.size := by
  induction t with
  | lf n => intro s; rfl
  | un n a ih => intro s; simp [Tr.flat, Tr.size, ih]
  | bi n a b iha ihb => intro s; simp [Tr.flat, Tr.size, iha, ihb]; omega
def sizes : List Tr → Nat
  | [] => 0
  | t :: st => sizes st + t.size
def flats : List Tr → List DENode
  | [] => []
  | t :: st => flats st ++ t.flat (sizes st)
theorem flats_len : ∀ st : List Tr, (flats st).length = sizes st
  | [] => rfl
  | t :: st => by simp [flats, sizes, flats_len st, t.flat_len]
theorem sizes_len : ∀ st : List Tr, st.length ≤ sizes st
  | [] => Nat.le_refl _
  | t :: st => by have := sizes_len st; have := t.size_pos; simp [sizes]; omega
def push (st : List Tr) (n : DENode) : Option (List Tr) :=
  match pk n.Tag, st with
  | some 0, st => if cnt n && n.L == -1 && n.R == -1 then some (.lf (put2 n (-1) (-1)) :: st) else none
  | some 1, a :: st => if cnt n && n.L == ((sizes st + a.size : Nat) : Int) - 1 && n.R == -1 then some (.un (put2 n (-1) (-1)) a :: st) else none
  | some 2, b :: a :: st => if cnt n && n.L == ((sizes st + a.size : Nat) : Int) - 1 && n.R == ((sizes st + a.size + b.size : Nat) : Int) - 1 then some (.bi (put2 n (-1) (-1)) a b :: st) else none
  | _, _ => none
def parse : List DENode → List Tr → Option (List Tr)
  | [], st => some st
  | n :: ns, st => (push st n).bind (parse ns)
def wfs (st : List Tr) : Prop := ∀ t ∈ st, t.wf
theorem put2_at {n : DENode} {l r : Int} (h : n.L = l) (h2 : n.R = r) : put2 (put2 n (-1) (-1)) l r = n := by subst h h2; rfl
theorem push_some {st st' : List Tr} {n : DENode} (h : push st n = some st') (hw : wfs st) : flats st' = flats st ++ [n] ∧ sizes st' = sizes st + 1 ∧ wfs st' := by
  unfold push at h
  split at h
  · rename_i k st0 hk
    split at h
    · rename_i hc
      simp only [Bool.and_eq_true, beq_iff_eq] at hc
      obtain ⟨⟨h1, h2⟩, h3⟩ := hc
      cases h
      refine ⟨?_, rfl, fun t ht => ?_⟩
      · simp only [flats, Tr.flat]
        rw [put2_at h2 h3]
      · rcases List.mem_cons.1 ht with rfl | ht
        · exact ⟨hk, h1, rfl, rfl⟩
        · exact hw t ht
    · cases h
  · rename_i k a st0 hk
    split at h
    · rename_i hc
      simp only [Bool.and_eq_true, beq_iff_eq] at hc
      obtain ⟨⟨h1, h2⟩, h3⟩ := hc
      cases h
      refine ⟨?_, by simp [sizes, Tr.size]; omega, fun t ht => ?_⟩
      · simp only [flats, Tr.flat]
        rw [put2_at h2 h3, List.append_assoc]
      · rcases List.mem_cons.1 ht with rfl | ht
        · exact ⟨⟨hk, h1, rfl, rfl⟩, hw a (List.mem_cons_self ..)⟩
        · exact hw t (List.mem_cons_of_mem _ ht)
    · cases h
  · rename_i k b a st0 hk
    split at h
    · rename_i hc
      simp only [Bool.and_eq_true, beq_iff_eq] at hc
      obtain ⟨⟨h1, h2⟩, h3⟩ := hc
      cases h
      refine ⟨?_, by simp [sizes, Tr.size]; omega, fun t ht => ?_⟩
      · simp only [flats, Tr.flat, sizes]
        rw [put2_at h2 h3]
        simp only [List.append_assoc]
      · rcases List.mem_cons.1 ht with rfl | ht
        · exact ⟨⟨hk, h1, rfl, rfl⟩, hw a (List.mem_cons_of_mem _ (List.mem_cons_self ..)), hw b (List.mem_cons_self ..)⟩
        · exact hw t (List.mem_cons_of_mem _ (List.mem_cons_of_mem _ ht))
    · cases h
  · cases h
theorem parse_some : ∀ {ns : List DENode} {st st' : List Tr}, parse ns st = some st' → wfs st → flats st' = flats st ++ ns ∧ wfs st'
  | [], st, st', h, hw => by cases h; simp [hw]
  | n :: ns, st, st', h, hw => by
    unfold parse at h
    cases hp : push st n with
    | none => rw [hp] at h; cases h
    | some st1 =>
      rw [hp] at h
      obtain ⟨h1, _, h3⟩ := push_some hp hw
      obtain ⟨h4, h5⟩ := parse_some (ns := ns) h h3
      exact ⟨by rw [h4, h1]; simp, h5⟩
def treeOf (ns : List DENode) : Option Tr := match parse ns [] with
  | some [t] => if ns.length ≤ 1000 then some t else none
  | _ => none
theorem treeOf_some {ns : List DENode} {t : Tr} (h : treeOf ns = some t) : t.wf ∧ ns = t.flat 0 ∧ t.size ≤ 1000 := by
  unfold treeOf at h
  split at h
  · rename_i t0 hp
    split at h
    · rename_i hl
      cases h
      obtain ⟨h1, h2⟩ := parse_some hp (fun t ht => by cases ht)
      simp only [flats, sizes, List.nil_append] at h1
      exact ⟨h2 t (List.mem_cons_self ..), h1.symm, by rw [← t.flat_len 0, h1]; exact hl⟩
    · cases h
  · cases h
def fl : Tr → Nat → List Int
  | .lf _, s => [(s : Int)]
  | .un _ a, s => fl a s ++ [(s : Int)]
  | .bi _ a b, s => fl a s ++ fl b (s + a.size) ++ [(s : Int)]
def fls : List Tr → List Int
  | [] => []
  | t :: st => fls st ++ fl t (sizes st)
def rootsL : List Tr → List Int
  | [] => []
  | t :: st => rootsL st ++ [((sizes st + t.size : Nat) : Int) - 1]
theorem fl_len (t : Tr) : ∀ s, (fl t s).length = t.size := by
  induction t with
  | lf n => intro s; rfl
  | un n a ih => intro s; simp [fl, Tr.size, ih]
  | bi n a b iha ihb => intro s; simp [fl, Tr.size, iha, ihb]; omega
theorem fls_len : ∀ st : List Tr, (fls st).length = sizes st
  | [] => rfl
  | t :: st => by simp [fls, sizes, fls_len st, fl_len]
theorem rootsL_len : ∀ st : List Tr, (rootsL st).length = st.length
  | [] => rfl
  | t :: st => by simp [rootsL, rootsL_len st]
theorem fl_last (t : Tr) (s : Nat) : (fl t s)[t.size - 1]? = some (s : Int) := by
  cases t with
  | lf n => rfl
  | un n a => simp only [fl, Tr.size]; rw [List.getElem?_append_right (by rw [fl_len]; omega), fl_len]; simp
  | bi n a b => simp only [fl, Tr.size]; rw [List.getElem?_append_right (by simp [fl_len]), List.length_append, fl_len, fl_len]; simp
theorem fls_root (t : Tr) (st : List Tr) (rest : List Int) : (fls st ++ fl t (sizes st) ++ rest)[sizes st + t.size - 1]? = some (sizes st : Int) := by
  have := t.size_pos
  rw [List.getElem?_append_left (by rw [List.length_append, fls_len, fl_len]; omega), List.getElem?_append_right (by rw [fls_len]; omega), fls_len, show sizes st + t.size - 1 - sizes st = t.size - 1 from by omega]
  exact fl_last t _
theorem firsts_eq : ∀ (ns : List DENode) (st : List Tr), sizes st + ns.length ≤ 100000 → expr_firsts_l1 ns (sizes st) (fls st) (rootsL st) = some (match parse ns st with
      | some st' => (fls st', decide (st'.length = 1) && decide (sizes st' ≤ 1000))
      | none => ([], false)) := by
  intro ns
  induction ns with
  | nil =>
    intro st _
    simp only [expr_firsts_l1, parse, rootsL_len, fls_len]
    congr 2
    congr 1
    · rw [Bool.eq_iff_iff]; simp; omega
    · rw [Bool.eq_iff_iff]; simp; omega
  | cons n ns ih =>
    intro st hs
    simp only [List.length_cons] at hs
    have hll := sizes_len st
    unfold expr_firsts_l1
    rw [expr_parts_eq]
    simp only [Option.bind_some, rootsL_len, expr_counts_eq]
    unfold parse
    unfold push
    -- the parts
    cases hk : pk n.Tag with
    | none =>
      have e : pkI n.Tag = -1 := by unfold pkI; rw [hk]
      simp [e]
    | some k =>
      have e : pkI n.Tag = (k : Int) := by unfold pkI; rw [hk]
      have hk3 : k = 0 ∨ k = 1 ∨ k = 2 := by
        unfold pk at hk
        repeat' split at hk
        all_goals simp at hk
        all_goals omega
      rw [e]
      rcases hk3 with rfl | rfl | rfl
      · -- none
        simp only []
        have c1 : (decide (((0 : Nat) : Int) < 0) || decide ((st.length : Int) < ((0 : Nat) : Int))) = false := by simp
        simp only [c1, Bool.not_false, if_true, Option.bind_some]
        cases hc : cnt n with
        | false => simp
        | true =>
          simp only [Bool.not_true, Bool.false_eq_true, if_false, Bool.true_and]
          rw [sliceF_at st.length st.length (by rw [wrapI (by omega) (by omega)]; omega) rfl (Nat.le_refl _) (by rw [rootsL_len]; exact Nat.le_refl _)]
          have hd : (List.take st.length (rootsL st)).drop st.length = [] := List.drop_of_length_le (by simp; omega)
          simp only [hd, Option.bind_some, expr_firsts_l2]
          by_cases hL : n.L = -1 ∧ n.R = -1
          · have hb : (n.L == -1 && n.R == -1) = true := by simp [hL]
            rw [if_pos hb, if_neg (by simp [hL.1, hL.2])]
            rw [app_ok (by simp only [List.length_cons, List.length_nil, fls_len]; omega)]
            simp only [Option.bind_some]
            rw [sliceF_at (i := 0) 0 st.length rfl (by rw [rootsL_len, wrapI (by omega) (by omega)]; omega) (Nat.zero_le _) (by rw [rootsL_len]; exact Nat.le_refl _)]
            rw [List.take_of_length_le (by rw [rootsL_len]; exact Nat.le_refl _), List.drop_zero]
            simp only [Option.bind_some]
            rw [app_ok (by simp only [List.length_cons, List.length_nil, rootsL_len]; omega)]
            simp only [Option.bind_some]
            have h2 := ih (.lf (put2 n (-1) (-1)) :: st) (by simp [sizes, Tr.size]; omega)
            simp only [sizes, Tr.size, fls, fl, rootsL] at h2
            rw [show (((sizes st + 1 : Nat) : Int) - 1) = (sizes st : Int) from by omega] at h2
            exact h2
          · have hb : (n.L == -1 && n.R == -1) = false := by
              rw [Bool.eq_false_iff]; intro h; apply hL; simpa using h
            rw [hb]
            rw [if_pos (by
              simp only [Bool.not_eq_true', decide_eq_false_iff_not]
              intro h
              have h1 : (-1 : Int) = n.L := by injection h
              have h2 : (-1 : Int) = n.R := by injection h with _ h; injection h
              exact hL ⟨h1.symm, h2.symm⟩)]
            simp
      · -- one
        cases st with
        | nil => simp
        | cons a st =>
          simp only []
          have c1 : (decide (((1 : Nat) : Int) < 0) || decide (((a :: st).length : Int) < ((1 : Nat) : Int))) = false := by simp; omega
          simp only [c1, Bool.not_false, if_true, Option.bind_some]
          cases hc : cnt n with
          | false => simp
          | true =>
            simp only [Bool.not_true, Bool.false_eq_true, if_false, Bool.true_and]
            simp only [List.length_cons] at hll ⊢
            simp only [sizes] at hs hll
            have hap := a.size_pos
            rw [sliceF_at st.length (st.length + 1) (by rw [wrapI (by omega) (by omega)]; omega) (by omega) (by omega) (by rw [rootsL_len]; exact Nat.le_refl _)]
            have hd : (List.take (st.length + 1) (rootsL (a :: st))).drop st.length = [((sizes st + a.size : Nat) : Int) - 1] := by
              rw [List.take_of_length_le (by rw [rootsL_len]; exact Nat.le_refl _)]
              simp only [rootsL]
              rw [List.drop_append_of_le_length (by rw [rootsL_len]; exact Nat.le_refl _), List.drop_of_length_le (by rw [rootsL_len]; exact Nat.le_refl _), List.nil_append]
            rw [hd]
            simp only [Option.bind_some, expr_firsts_l2]
            rw [idx_at (sizes st + a.size - 1) (by omega)]
            have hf := fls_root a st []
            rw [List.append_nil] at hf
            simp only [fls]
            rw [hf]
            simp only [Option.bind_some]
            rw [idx_at 0 rfl]
            simp only [List.getElem?_cons_zero, Option.bind_some]
            have hset : ([(-1 : Int), -1].set ((0 : Nat) : Int).toNat (((sizes st + a.size : Nat) : Int) - 1)) = [((sizes st + a.size : Nat) : Int) - 1, -1] := rfl
            rw [hset]
            by_cases hL : n.L = ((sizes st + a.size : Nat) : Int) - 1 ∧ n.R = -1
            · have hb : (n.L == ((sizes st + a.size : Nat) : Int) - 1 && n.R == -1) = true := by simp [hL]
              rw [if_pos hb, if_neg (by rw [hL.1, hL.2]; simp)]
              rw [app_ok (by simp only [List.length_cons, List.length_nil, List.length_append, fls_len, fl_len]; omega)]
              simp only [Option.bind_some]
              rw [sliceF_at (i := 0) 0 st.length rfl (by rw [rootsL_len, wrapI (by simp <;> omega) (by simp <;> omega)]; simp) (Nat.zero_le _) (by rw [rootsL_len]; simp)]
              have ht : (List.take st.length (rootsL (a :: st))).drop 0 = rootsL st := by
                simp only [rootsL, List.drop_zero]
                rw [List.take_append_of_le_length (by rw [rootsL_len]; exact Nat.le_refl _), List.take_of_length_le (by rw [rootsL_len]; exact Nat.le_refl _)]
              rw [ht]
              simp only [Option.bind_some]
              rw [app_ok (by simp only [List.length_cons, List.length_nil, rootsL_len]; omega)]
              simp only [Option.bind_some]
              have h2 := ih (.un (put2 n (-1) (-1)) a :: st) (by simp [sizes, Tr.size]; omega)
              simp only [sizes, Tr.size, fls, fl, rootsL] at h2
              rw [show (((sizes st + (a.size + 1) : Nat) : Int) - 1) = ((sizes st + a.size : Nat) : Int) from by omega] at h2
              have hm : min ((sizes (a :: st) : Nat) : Int) (sizes st : Int) = (sizes st : Int) := by simp only [sizes]; omega
              rw [hm]
              simp only [List.append_assoc] at h2 ⊢
              exact h2
            · have hb : (n.L == ((sizes st + a.size : Nat) : Int) - 1 && n.R == -1) = false := by
                rw [Bool.eq_false_iff]; intro h; apply hL; simpa using h
              rw [hb]
              rw [if_pos (by
                simp only [Bool.not_eq_true', decide_eq_false_iff_not]
                intro h
                have h1 : ((sizes st + a.size : Nat) : Int) - 1 = n.L := by injection h
                have h2 : (-1 : Int) = n.R := by injection h with _ h; injection h
                exact hL ⟨h1.symm, h2.symm⟩)]
              simp
      · -- two
        cases st with
        | nil => simp
        | cons b st =>
          cases st with
          | nil => simp
          | cons a st =>
            simp only []
            have c1 : (decide (((2 : Nat) : Int) < 0) || decide (((b :: a :: st).length : Int) < ((2 : Nat) : Int))) = false := by simp; omega
            simp only [c1, Bool.not_false, if_true, Option.bind_some]
            cases hc : cnt n with
            | false => simp
            | true =>
              simp only [Bool.not_true, Bool.false_eq_true, if_false, Bool.true_and]
              simp only [List.length_cons] at hll ⊢
              simp only [sizes] at hs hll
              have hap := a.size_pos
              have hbp := b.size_pos
              rw [sliceF_at st.length (st.length + 1 + 1) (by rw [wrapI (by omega) (by omega)]; omega) (by omega) (by omega) (by rw [rootsL_len]; exact Nat.le_refl _)]
              have hd : (List.take (st.length + 1 + 1) (rootsL (b :: a :: st))).drop st.length = [((sizes st + a.size : Nat) : Int) - 1, ((sizes st + a.size + b.size : Nat) : Int) - 1] := by
                rw [List.take_of_length_le (by rw [rootsL_len]; exact Nat.le_refl _)]
                simp only [rootsL, sizes, List.append_assoc]
                rw [List.drop_append_of_le_length (by rw [rootsL_len]; exact Nat.le_refl _), List.drop_of_length_le (by rw [rootsL_len]; exact Nat.le_refl _), List.nil_append]
                rfl
              rw [hd]
              simp only [Option.bind_some, expr_firsts_l2]
              simp only [fls, sizes]
              rw [idx_at (sizes st + a.size - 1) (by omega)]
              rw [fls_root a st (fl b (sizes st + a.size))]
              simp only [Option.bind_some]
              rw [idx_at 0 rfl]
              simp only [List.getElem?_cons_zero, Option.bind_some]
              have hset : ([(-1 : Int), -1].set ((0 : Nat) : Int).toNat (((sizes st + a.size : Nat) : Int) - 1)) = [((sizes st + a.size : Nat) : Int) - 1, -1] := rfl
              rw [hset]
              rw [idx_at (sizes st + a.size + b.size - 1) (by omega)]
              have hf := fls_root b (a :: st) []
              rw [List.append_nil] at hf
              simp only [fls, sizes] at hf
              rw [hf]
              simp only [Option.bind_some]
              rw [idx_at (0 + 1) rfl]
              simp only [List.getElem?_cons_succ, List.getElem?_cons_zero, Option.bind_some]
              have hset2 : ([((sizes st + a.size : Nat) : Int) - 1, -1].set ((0 + 1 : Nat) : Int).toNat (((sizes st + a.size + b.size : Nat) : Int) - 1)) = [((sizes st + a.size : Nat) : Int) - 1, ((sizes st + a.size + b.size : Nat) : Int) - 1] := rfl
              rw [hset2]
              by_cases hL : n.L = ((sizes st + a.size : Nat) : Int) - 1 ∧ n.R = ((sizes st + a.size + b.size : Nat) : Int) - 1
              · have hb : (n.L == ((sizes st + a.size : Nat) : Int) - 1 && n.R == ((sizes st + a.size + b.size : Nat) : Int) - 1) = true := by rw [hL.1, hL.2]; simp
                rw [if_pos hb, if_neg (by rw [hL.1, hL.2]; simp)]
                rw [app_ok (by simp only [List.length_cons, List.length_nil, List.length_append, fls_len, fl_len]; omega)]
                simp only [Option.bind_some]
                rw [sliceF_at (i := 0) 0 st.length rfl (by rw [rootsL_len, wrapI (by simp; omega) (by simp; omega)]; simp; omega) (Nat.zero_le _) (by rw [rootsL_len]; simp; omega)]
                have ht : (List.take st.length (rootsL (b :: a :: st))).drop 0 = rootsL st := by
                  simp only [rootsL, List.drop_zero, List.append_assoc]
                  rw [List.take_append_of_le_length (by rw [rootsL_len]; exact Nat.le_refl _), List.take_of_length_le (by rw [rootsL_len]; exact Nat.le_refl _)]
                rw [ht]
                simp only [Option.bind_some]
                rw [app_ok (by simp only [List.length_cons, List.length_nil, rootsL_len]; omega)]
                simp only [Option.bind_some]
                have h2 := ih (.bi (put2 n (-1) (-1)) a b :: st) (by simp [sizes, Tr.size]; omega)
                simp only [sizes, Tr.size, fls, fl, rootsL] at h2
                rw [show (((sizes st + (a.size + b.size + 1) : Nat) : Int) - 1) = ((sizes st + a.size + b.size : Nat) : Int) from by omega, show sizes st + (a.size + b.size + 1) = sizes st + a.size + b.size + 1 from by omega] at h2
                have hm : min (min (((sizes st + a.size + b.size : Nat)) : Int) (sizes st : Int)) ((sizes st + a.size : Nat) : Int) = (sizes st : Int) := by omega
                rw [hm]
                simp only [List.append_assoc] at h2 ⊢
                exact h2
              · have hb : (n.L == ((sizes st + a.size : Nat) : Int) - 1 && n.R == ((sizes st + a.size + b.size : Nat) : Int) - 1) = false := by
                  rw [Bool.eq_false_iff]; intro h; apply hL; simpa using h
                rw [hb]
                rw [if_pos (by
                  simp only [Bool.not_eq_true', decide_eq_false_iff_not]
                  intro h
                  have h1 : ((sizes st + a.size : Nat) : Int) - 1 = n.L := by injection h
                  have h2 : ((sizes st + a.size + b.size : Nat) : Int) - 1 = n.R := by injection h with _ h; injection h
                  exact hL ⟨h1.symm, h2.symm⟩)]
                simp
end Go.Proofs.YtdhledkpgaeoaaaDoor

namespace Go.Proofs.YtdhledkpgaeoaaaDoor
open Go

def rightE (ns : List DENode) : Bool := (treeOf ns).isSome
theorem parse_sizes {ns : List DENode} {st : List Tr} (h : parse ns [] = some st) : sizes st = ns.length := by
  have := (parse_some h (fun t ht => by cases ht)).1
  rw [← flats_len, this]; simp [flats]
theorem expr_Check_eq (e : DExpr) (h : e.Nodes.length ≤ 100000) : expr_Check e = some (if rightE e.Nodes then 0 else 200) := by
  unfold expr_Check expr_firsts rightE treeOf
  have := firsts_eq e.Nodes [] (by simpa [sizes] using h)
  simp only [sizes, fls, rootsL] at this
  rw [this]
  cases hp : parse e.Nodes [] with
  | none => rfl
  | some st =>
    have hsz := parse_sizes hp
    match st, hsz with
    | [], _ => rfl
    | [t], hsz =>
      simp only [Option.bind_some, hsz]
      by_cases hl : e.Nodes.length ≤ 1000 <;> simp [hl]
    | t :: t2 :: st, _ => simp
theorem rightE_len {ns : List DENode} (h : rightE ns = true) : 1 ≤ ns.length ∧ ns.length ≤ 1000 := by
  unfold rightE at h
  cases ht : treeOf ns with
  | none => rw [ht] at h; cases h
  | some t =>
    obtain ⟨hw, hN, hs⟩ := treeOf_some ht
    have hlen : ns.length = t.size := by rw [hN, t.flat_len]
    have := t.size_pos
    omega
end Go.Proofs.YtdhledkpgaeoaaaDoor

namespace Go.Proofs.YtdhledkpgaeoaaaDoor
open Go

def ddup {α : Type} [DecidableEq α] : α → List α → List α
  | _, [] => []
  | p, x :: t => if x = p then ddup x t else x :: ddup x t
theorem ddup_nil {α : Type} [DecidableEq α] (p : α) : ddup p [] = [] := by unfold ddup; rfl
theorem ddup_same {α : Type} [DecidableEq α] {p x : α} (h : x = p) (t : List α) : ddup p (x :: t) = ddup x t := by conv => lhs; unfold ddup
                                                                                                                   rw [if_pos h]
theorem ddup_ne {α : Type} [DecidableEq α] {p x : α} (h : ¬ x = p) (t : List α) : ddup p (x :: t) = x :: ddup x t := by conv => lhs; unfold ddup
                                                                                                                        rw [if_neg h]
def dedup {α : Type} [DecidableEq α] : List α → List α
  | [] => []
  | x :: t => x :: ddup x t
theorem ddup_mem {α : Type} [DecidableEq α] : ∀ (p : α) (l : List α) (z : α), z ∈ ddup p l → z ∈ l
  | p, x :: t, z, h => by
    unfold ddup at h
    split at h
    · exact List.mem_cons_of_mem _ (ddup_mem x t z h)
    · rcases List.mem_cons.1 h with rfl | h
      · exact List.mem_cons_self ..
      · exact List.mem_cons_of_mem _ (ddup_mem x t z h)
theorem mem_ddup {α : Type} [DecidableEq α] : ∀ (p : α) (l : List α) (z : α), z ∈ l → z = p ∨ z ∈ ddup p l
  | p, x :: t, z, h => by
    unfold ddup
    by_cases hx : x = p
    · rw [if_pos hx]
      rcases List.mem_cons.1 h with rfl | h
      · exact .inl hx
      · rcases mem_ddup x t z h with h | h
        · exact .inl (h.trans hx)
        · exact .inr h
    · rw [if_neg hx]
      rcases List.mem_cons.1 h with rfl | h
      · exact .inr (List.mem_cons_self ..)
      · rcases mem_ddup x t z h with h | h
        · exact .inr (by rw [h]; exact List.mem_cons_self ..)
        · exact .inr (List.mem_cons_of_mem _ h)
theorem mem_dedup {α : Type} [DecidableEq α] (l : List α) (z : α) : z ∈ dedup l ↔ z ∈ l := by
  cases l with
  | nil => exact Iff.rfl
  | cons x t =>
    constructor
    · intro h
      rcases List.mem_cons.1 h with rfl | h
      · exact List.mem_cons_self ..
      · exact List.mem_cons_of_mem _ (ddup_mem x t z h)
    · intro h
      rcases List.mem_cons.1 h with rfl | h
      · exact List.mem_cons_self ..
      · rcases mem_ddup x t z h with rfl | h
        · exact List.mem_cons_self ..
        · exact List.mem_cons_of_mem _ h
theorem compact_l2 (p : List Int) (hp : p.length ≤ 8000) (i : Nat) (y : List Int) (hy : i + y.length = p.length) : ∀ (k i1 : Nat) (x : List Int) (x1 : Nat), i1 + k = y.length → 0 < i1 → x.length = p.length → x1 + 1 ≤ i + i1 → x.drop (i + i1 - 1) = p.drop (i + i1 - 1) →
    slices_Compact_int_int_l2 i y k i1 x (x1 : Int) = some (x.take x1 ++ ddup ((p[i + i1 - 1]?).getD 0) (p.drop (i + i1))) := by
  intro k
  induction k with
  | zero =>
    intro i1 x x1 h1 h0 hx h2 h3
    simp only [slices_Compact_int_int_l2]
    have hx1 : x1 ≤ x.length := by omega
    rw [sliceF_ok hx1 (Nat.le_refl _)]
    simp only [Option.bind_some, List.take_length, Int.toNat_natCast]
    rw [show ((0 : Int)) = ((0 : Nat) : Int) from rfl, sliceF_ok (Nat.zero_le _) (by simp; omega)]
    simp only [Option.bind_some, List.drop_zero]
    have hn : p.drop (i + i1) = [] := List.drop_eq_nil_of_le (by omega)
    rw [hn, ddup_nil, List.append_nil, List.take_append_of_le_length (by simp; omega), List.take_take, Nat.min_self]
  | succ k ih =>
    intro i1 x x1 h1 h0 hx h2 h3
    have e1 : x[i + i1]? = p[i + i1]? := by
      have := congrArg (fun l : List Int => l[1]?) h3
      simp only [List.getElem?_drop] at this
      rwa [show i + i1 - 1 + 1 = i + i1 from by omega] at this
    have e0 : x[i + i1 - 1]? = p[i + i1 - 1]? := by
      have := congrArg (fun l : List Int => l[0]?) h3
      simpa only [List.getElem?_drop, Nat.add_zero] using this
    have hlt : i + i1 < p.length := by omega
    have g1 : idxV x (i : Int) y.length (i1 : Int) = some p[i + i1] := by
      unfold idxV
      rw [if_pos (by omega), show (i : Int) + (i1 : Int) = ((i + i1 : Nat) : Int) from by omega, idx_nat, e1, List.getElem?_eq_getElem hlt]
    have g0 : idxV x (i : Int) y.length (IntKind.i64.wrap ((i1 : Int) - 1)) = some p[i + i1 - 1] := by
      rw [wrapI (by omega) (by omega)]
      unfold idxV
      rw [if_pos (by omega), show (i : Int) + ((i1 : Int) - 1) = ((i + i1 - 1 : Nat) : Int) from by omega, idx_nat, e0, List.getElem?_eq_getElem (by omega)]
    have hd : p.drop (i + i1) = p[i + i1] :: p.drop (i + i1 + 1) := List.drop_eq_getElem_cons hlt
    have hp1 : (p[i + i1 - 1]?).getD 0 = p[i + i1 - 1] := by rw [List.getElem?_eq_getElem (by omega)]; rfl
    simp only [slices_Compact_int_int_l2, g1, g0, Option.bind_some]
    rw [hd, hp1]
    by_cases hx2 : p[i + i1] = p[i + i1 - 1]
    · rw [if_neg (by simp [hx2])]
      have h3' : x.drop (i + (i1 + 1) - 1) = p.drop (i + (i1 + 1) - 1) := by
        have := congrArg (List.drop 1) h3
        rwa [List.drop_drop, List.drop_drop, show i + i1 - 1 + 1 = i + (i1 + 1) - 1 from by omega] at this
      rw [ih (i1 + 1) x x1 (by omega) (by omega) hx (by omega) h3']
      rw [ddup_same hx2, show i + (i1 + 1) - 1 = i + i1 from by omega, List.getElem?_eq_getElem hlt, show i + (i1 + 1) = i + i1 + 1 from by omega]
      rfl
    · rw [if_pos (by simp [hx2]), idx_nat, List.getElem?_eq_getElem (by omega)]
      simp only [Option.bind_some, Int.toNat_natCast]
      rw [wrapI (by omega) (by omega), show ((x1 : Int) + 1) = ((x1 + 1 : Nat) : Int) from by omega]
      have h3' : (x.set x1 p[i + i1]).drop (i + (i1 + 1) - 1) = p.drop (i + (i1 + 1) - 1) := by
        rw [List.drop_set_of_lt (by omega)]
        have := congrArg (List.drop 1) h3
        rwa [List.drop_drop, List.drop_drop, show i + i1 - 1 + 1 = i + (i1 + 1) - 1 from by omega] at this
      rw [ih (i1 + 1) _ (x1 + 1) (by omega) (by omega) (by simpa using hx) (by omega) h3']
      rw [ddup_ne hx2, show i + (i1 + 1) - 1 = i + i1 from by omega, List.getElem?_eq_getElem hlt, show i + (i1 + 1) = i + i1 + 1 from by omega]
      have ht : (x.set x1 p[i + i1]).take (x1 + 1) = x.take x1 ++ [p[i + i1]] := by
        rw [List.take_succ_eq_append_getElem (by simp; omega), List.take_set_of_le (by omega)]
        simp
      rw [ht]
      simp
theorem compact_eq (p : List Int) (hp : p.length ≤ 8000) : slices_Compact_int_int p = some (dedup p) := by
  unfold slices_Compact_int_int
  by_cases h2 : p.length < 2
  · rw [if_pos (by simp; omega)]
    match p, h2 with
    | [], _ => rfl
    | [x], _ => rfl
  · rw [if_neg (by simp; omega)]
    have key : ∀ (l : List Int) (i : Nat), p.drop i = l → 0 < i → i ≤ p.length → dedup p = p.take i ++ ddup ((p[i - 1]?).getD 0) (p.drop i) → slices_Compact_int_int_l1 p l i = some (dedup p) := by
      intro l
      induction l with
      | nil =>
        intro i h1 h0 hle h3
        have := List.drop_eq_nil_iff.1 h1
        simp only [slices_Compact_int_int_l1]
        rw [h3, h1, List.take_of_length_le (by omega), ddup_nil, List.append_nil]
      | cons x t ih =>
        intro i h1 h0 hle h3
        have hi : i < p.length := by
          rcases Nat.lt_or_ge i p.length with h | h
          · exact h
          · rw [List.drop_eq_nil_of_le h] at h1; cases h1
        have hx : x = p[i] := by rw [List.drop_eq_getElem_cons hi] at h1; exact (List.cons.inj h1).1.symm
        have ht : p.drop (i + 1) = t := by rw [← List.drop_drop, h1]; rfl
        have hp1 : (p[i - 1]?).getD 0 = p[i - 1] := by rw [List.getElem?_eq_getElem (by omega)]; rfl
        simp only [slices_Compact_int_int_l1]
        rw [wrapI (by omega) (by omega), show (i : Int) - 1 = ((i - 1 : Nat) : Int) from by omega, idx_nat, List.getElem?_eq_getElem (by omega)]
        simp only [Option.bind_some]
        by_cases he : x = p[i - 1]
        · rw [if_pos (by simp [he])]
          rw [sliceF_ok hle (Nat.le_refl _)]
          simp only [Option.bind_some, List.take_length]
          rw [compact_l2 p hp i (p.drop i) (by simp; omega) _ 1 p i (by simp; omega) (by omega) rfl (by omega) (by simp)]
          rw [h3, h1, hp1, ddup_same he, ← ht, hx]
          rw [show i + 1 - 1 = i from by omega, List.getElem?_eq_getElem hi]; rfl
        · rw [if_neg (by simp [he])]
          refine ih (i + 1) ht (by omega) (by omega) ?_
          rw [h3, h1, hp1, ddup_ne he, List.take_succ_eq_append_getElem hi, ← ht, hx, show i + 1 - 1 = i from by omega, List.getElem?_eq_getElem hi]
          rw [List.append_assoc]; rfl
    have hpc : p = p[0] :: p.drop 1 := by
      have := List.drop_eq_getElem_cons (l := p) (i := 0) (by omega)
      simpa using this
    refine key (p.drop 1) 1 rfl (by omega) (by omega) ?_
    have e : (p[1 - 1]?).getD 0 = p[0] := by simp [List.getElem?_eq_getElem (show 0 < p.length by omega)]
    rw [e]
    conv => lhs; rw [hpc]
    have e2 : p.take 1 = [p[0]] := by
      conv => lhs; rw [hpc]
      rfl
    rw [e2]; rfl

theorem mem_sortI (l : List Int) (z : Int) : z ∈ sortI l ↔ z ∈ l := by unfold sortI; simp
theorem Cols_l1_eq : ∀ (ns : List DENode) (out : List Int), out.length + ns.length ≤ 8000 → ∃ cs, expr_Cols_l1 ns out = some cs ∧ ∀ c, c ∈ cs ↔ c ∈ out ∨ ∃ n ∈ ns, n.Tag = 2 ∧ n.Col = c
  | [], out, h => by
    unfold expr_Cols_l1 sortIF
    rw [if_pos (by simp at h; omega)]
    simp only [Option.bind_some]
    rw [compact_eq _ (by rw [sortI_len]; simpa using h)]
    exact ⟨_, rfl, fun c => by rw [mem_dedup, mem_sortI]; simp⟩
  | n :: ns, out, h => by
    simp only [List.length_cons] at h
    unfold expr_Cols_l1
    by_cases ht : n.Tag = 2
    · rw [if_pos (by simp [ht]), app_ok (by simp; omega)]
      simp only [Option.bind_some]
      obtain ⟨cs, h1, h2⟩ := Cols_l1_eq ns (out ++ [n.Col]) (by simp; omega)
      exact ⟨cs, h1, fun c => by rw [h2]; simp [ht, or_assoc, eq_comm]⟩
    · rw [if_neg (by simp [ht])]
      obtain ⟨cs, h1, h2⟩ := Cols_l1_eq ns out (by omega)
      exact ⟨cs, h1, fun c => by rw [h2]; simp [ht]⟩
theorem expr_Cols_eq (e : DExpr) (h : rightE e.Nodes = true) : ∃ cs, expr_Cols e = some cs ∧ ∀ c, c ∈ cs ↔ ∃ n ∈ e.Nodes, n.Tag = 2 ∧ n.Col = c := by
  have hl := rightE_len h
  unfold expr_Cols
  rw [expr_Check_eq e (by omega), h]
  obtain ⟨cs, h1, h2⟩ := Cols_l1_eq e.Nodes [] (by simp; omega)
  exact ⟨cs, by simpa using h1, fun c => by rw [h2]; simp⟩
theorem pk0 {tag : Int} (h : pk tag = some 0) : tag = 1 ∨ tag = 2 := by
  unfold pk at h
  repeat' split at h
  all_goals simp at h
  assumption
theorem pk2 {tag : Int} {k : Nat} (h : pk tag = some k) (ht : tag = 2) : k = 0 := by subst ht; simp [pk] at h; exact h.symm
theorem cnt1 {n : DENode} (h : cnt n = true) (ht : n.Tag = 1) : plainV n.Value = true := by
  have h2 := ref10_counts_eq n
  rw [h] at h2
  unfold ref10_counts at h2
  rw [if_pos (by simp [ht]), ref02_Plain_eq] at h2
  simp at h2
  exact h2.1
theorem cnt2 {n : DENode} (h : cnt n = true) (ht : n.Tag = 2) : 0 ≤ n.Col ∧ n.Col < 16 := by
  have h2 := ref10_counts_eq n
  rw [h] at h2
  unfold ref10_counts at h2
  rw [if_neg (by simp [ht]), if_pos (by simp [ht])] at h2
  simp at h2
  exact ⟨h2.1.2, h2.2⟩
theorem expr_parts_of {tag : Int} {k : Nat} (h : pk tag = some k) : expr_parts tag = some (k : Int) := by
  rw [expr_parts_eq]; unfold pkI; rw [h]
end Go.Proofs.YtdhledkpgaeoaaaDoor

