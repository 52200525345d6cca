/- Facts of this claim: M4. -/
import Derived.Test.YtdhledkpgaeoaaaDoorKgM3
namespace Go.Proofs.YtdhledkpgaeoaaaDoor
open Go

theorem cut_eq {α : Type} (l : List α) (m : Nat) (hm : m ≤ 100000) : ((sliceF l 0 (min (l.length : Int) (m : Int))).bind fun y => (app ([] : List α) y).bind fun x => some x) = some (l.take m) := by
  rw [sliceF_at (i := 0) 0 (min l.length m) rfl (by omega) (Nat.zero_le _) (Nat.min_le_left _ _)]
  simp only [Option.bind_some, List.drop_zero]
  rw [app_ok (by simp; omega)]
  simp only [Option.bind_some, List.nil_append]
  congr 1
  rcases Nat.le_total l.length m with h | h
  · rw [Nat.min_eq_left h, List.take_length, List.take_of_length_le h]
  · rw [Nat.min_eq_right h]
def cutS (s : Str) : Str := s.take 41
def cutN (n : DENode) : DENode := { n with Value := { n.Value with S := cutS n.Value.S } }
theorem sliceS_eq (s : Str) : sliceF s 0 (min (s.length : Int) (41 : Int)) = some (cutS s) := by
  rw [sliceF_at (i := 0) 0 (min s.length 41) rfl (by omega) (Nat.zero_le _) (Nat.min_le_left _ _), List.drop_zero]
  congr 1
  unfold cutS
  rcases Nat.le_total s.length 41 with h | h
  · rw [Nat.min_eq_left h, List.take_length, List.take_of_length_le h]
  · rw [Nat.min_eq_right h]
theorem set_map {α : Type} (f : α → α) (xs : List α) (i : Nat) (h : i < xs.length) : ((xs.take i).map f ++ xs.drop i).set i (f xs[i]) = (xs.take (i + 1)).map f ++ xs.drop (i + 1) := by
  rw [List.set_append_right _ _ (by simp; omega)]
  have e : i - ((xs.take i).map f).length = 0 := by simp; omega
  rw [e, List.drop_eq_getElem_cons h, List.set_cons_zero, List.take_succ_eq_append_getElem h, List.map_append]
  simp
theorem idx_map {α : Type} (f : α → α) (xs : List α) (i : Nat) (h : i < xs.length) : idx ((xs.take i).map f ++ xs.drop i) (i : Int) = some xs[i] := by
  rw [idx_nat, List.getElem?_append_right (by simp; omega)]
  have e : i - ((xs.take i).map f).length = 0 := by simp; omega
  rw [e, List.getElem?_drop]
  simp [h]
theorem short_l1 (xs : List DENode) : ∀ (tl : List DENode) (i : Nat), xs.drop i = tl → law10_short_l1 tl i ⟨(xs.take i).map cutN ++ xs.drop i⟩ = some ⟨xs.map cutN⟩
  | [], i, h => by
    have := List.drop_eq_nil_iff.1 h
    simp only [law10_short_l1]
    rw [h, List.append_nil, List.take_of_length_le this]
  | e :: tl, i, h => by
    have hi : i < xs.length := by
      rcases Nat.lt_or_ge i xs.length with k | k
      · exact k
      · rw [List.drop_eq_nil_of_le k] at h; cases h
    simp only [law10_short_l1]
    rw [idx_map cutN xs i hi]
    simp only [Option.bind_some, sliceS_eq, Int.toNat_natCast]
    have hs := set_map cutN xs i hi
    have hd : xs.drop (i + 1) = tl := by rw [← List.drop_drop, h]; rfl
    rw [show ({ xs[i] with Value := { xs[i].Value with S := cutS xs[i].Value.S } } : DENode) = cutN xs[i] from rfl, hs]
    exact short_l1 xs tl (i + 1) hd
def shortN (ns : List DENode) (m : Nat) : List DENode := (ns.take m).map cutN
theorem short_eq (e : DExpr) (m : Nat) (hm : m ≤ 100000) : law10_short e (m : Int) = some ⟨shortN e.Nodes m⟩ := by
  unfold law10_short law10_cut_api_ENode
  rw [cut_eq _ m hm]
  simp only [Option.bind_some]
  exact short_l1 (e.Nodes.take m) _ 0 rfl
theorem shortN_len (ns : List DENode) (m : Nat) : (shortN ns m).length ≤ m := by simp [shortN]; omega
theorem shortN_rg {ns : List DENode} (h : rgE ns) (m : Nat) : rgE (shortN ns m) := by
  intro n hn
  obtain ⟨k, hk, rfl⟩ := List.mem_map.1 hn
  exact h k (List.mem_of_mem_take hk)
def cutVl (v : DValue) : DValue := { v with S := cutS v.S }
theorem row_l1 (xs : List DValue) : ∀ (k i : Nat), i + k = xs.length → law10_row_l1 k i ((xs.take i).map cutVl ++ xs.drop i) = some (xs.map cutVl)
  | 0, i, h => by
    simp only [law10_row_l1]
    rw [List.drop_of_length_le (by omega), List.append_nil, List.take_of_length_le (by omega)]
  | k + 1, i, h => by
    have hi : i < xs.length := by omega
    simp only [law10_row_l1]
    rw [idx_map cutVl xs i hi]
    simp only [Option.bind_some, sliceS_eq, Int.toNat_natCast]
    have hs := set_map cutVl xs i hi
    rw [show ({ xs[i] with S := cutS xs[i].S } : DValue) = cutVl xs[i] from rfl, hs]
    exact row_l1 xs k (i + 1) (by omega)
def rowR (r : List DValue) : List DValue := (r.take 17).map cutVl
theorem row_eq (r : List DValue) : law10_row r = some (rowR r) := by
  unfold law10_row law10_cut_api_Value
  have := cut_eq r 17 (by omega)
  rw [show ((17 : Int)) = ((17 : Nat) : Int) from rfl, this]
  simp only [Option.bind_some]
  exact row_l1 (r.take 17) _ 0 (by omega)
theorem rowR_rg {r : List DValue} (h : rgR r) : rgR (rowR r) := by
  intro v hv
  obtain ⟨k, hk, rfl⟩ := List.mem_map.1 hv
  exact h k (List.mem_of_mem_take hk)
def wkE : DExpr := ⟨[⟨2, -1, -1, 0, zV⟩, ⟨2, -1, -1, 1, zV⟩, ⟨13, 0, 1, 0, zV⟩]⟩
set_option maxRecDepth 100000 in
theorem wk1 : expr_Two 13 ⟨[⟨2, -1, -1, 0, ⟨0, 0, 0, []⟩⟩]⟩ ⟨[⟨2, -1, -1, 1, ⟨0, 0, 0, []⟩⟩]⟩ = some (wkE, 0) := by kernel_rfl
set_option maxRecDepth 100000 in
theorem wk2 : evP [iV 5, iV 3] wkE.Nodes = (iV 2, 0) := by kernel_rfl
theorem wk3 : expr_Eval wkE [⟨2, 5, 0, []⟩, ⟨2, 3, 0, []⟩] = some (iV 2, 0) := by
  have h := expr_Eval_eq wkE [iV 5, iV 3] (by decide) (fun n hn => by
    simp only [wkE, List.mem_cons, List.not_mem_nil, or_false] at hn
    rcases hn with rfl | rfl | rfl <;> exact ⟨by decide, by decide⟩) (fun v hv => by
    simp only [List.mem_cons, List.not_mem_nil, or_false] at hv
    rcases hv with rfl | rfl <;> exact ⟨by decide, by decide⟩)
  rw [wk2] at h
  exact h
set_option maxRecDepth 100000 in
theorem wakes_eq : law10_wakes = some true := by
  unfold law10_wakes law10_col
  simp only [Option.bind_some]
  rw [wk1]
  simp only [Option.bind_some]
  rw [wk3]
  kernel_rfl
end Go.Proofs.YtdhledkpgaeoaaaDoor

