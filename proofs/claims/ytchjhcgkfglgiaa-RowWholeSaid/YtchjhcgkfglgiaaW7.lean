/- A small logic over the walk's rules: literals, variables in memory. It states nothing of any program. -/
import Derived.Test.YtchjhcgkfglgiaaW6
namespace Go.Proofs.Ytchjhcgkfglgiaa
open Go

theorem foldl_splice (off : Nat) : ∀ (cs : List Value) (k : Nat) (pre mid post : List Value), mid.length = cs.length → pre.length = off + k →
    (cs.zipIdx k).foldl (fun (a : Array Value) x => a.setIfInBounds (off + x.2) x.1) (pre ++ mid ++ post).toArray = (pre ++ cs ++ post).toArray
  | [], k, pre, mid, post, hm, _ => by
    have : mid = [] := List.eq_nil_of_length_eq_zero hm
    subst this; simp
  | c :: cs, k, pre, mid, post, hm, hp => by
    cases mid with
    | nil => simp at hm
    | cons m mid =>
      simp only [List.zipIdx_cons, List.foldl_cons]
      have h1 : (pre ++ (m :: mid) ++ post).toArray.setIfInBounds (off + k) c = ((pre ++ [c]) ++ mid ++ post).toArray := by
        rw [← hp]
        simp
      rw [h1, foldl_splice off cs (k + 1) (pre ++ [c]) mid post (by simpa using hm) (by simp; omega)]
      simp
theorem splice_cells (v : Value) (off : Nat) (pre mid post : List Value) (hm : mid.length = v.cells.size) (hp : pre.length = off) :
    v.cells.zipIdx.foldl (fun cs (x : Value × Nat) => cs.setIfInBounds (off + x.2) x.1) (pre ++ mid ++ post).toArray = (pre ++ v.cells.toList ++ post).toArray := by
  have := foldl_splice off v.cells.toList 0 pre mid post (by simpa using hm) (by simpa using hp)
  rw [← this, ← Array.foldl_toList]
  simp [Array.toList_zipIdx]
theorem val_cells {α : Type} {r : Rp α} {S : SH} {cs : List Value} {x : α} (h : r.rc S cs x) : (r.val cs).cells = cs.toArray := by
  unfold Rp.val
  cases ha : r.agg with
  | true => simp [Value.cells]
  | false =>
    have hl := r.len h
    rw [r.sc ha] at hl
    match cs, hl with
    | [c], _ =>
      have := r.one h c (by simp)
      cases c <;> simp_all [Value.cells, Value.oneCell']
def enumV : Nat → List Value → List (Nat × Value)
  | _, [] => []
  | k, v :: vs => (k, v) :: enumV (k + 1) vs
theorem fill_all {α : Type} {r : Rp α} {S : SH} : ∀ (ys : List α) (vs : List Value) (k : Nat) (pre zs : List Value), Tys S (ys.map (tD r)) vs → pre.length = k * r.sz → zs.length = ys.length * r.sz →
    ∃ cs, rcs r S cs ys ∧ Instr.fill (fun i => some (i * r.sz, r.sz)) (pre ++ zs).toArray (enumV k vs) = some (pre ++ cs).toArray
  | [], [], k, pre, zs, _, _, hz => by
    have : zs = [] := List.eq_nil_of_length_eq_zero (by simpa using hz)
    subst this
    exact ⟨[], rfl, by simp [enumV, Instr.fill]⟩
  | y :: ys, v :: vs, k, pre, zs, ⟨⟨c, e, hc⟩, h2⟩, hp, hz => by
    have hl := r.len hc
    have hz' : r.sz ≤ zs.length := by rw [hz, List.length_cons, Nat.add_mul]; omega
    have e1 : zs = zs.take r.sz ++ zs.drop r.sz := (List.take_append_drop _ _).symm
    have hcells : v.cells = c.toArray := by rw [e]; exact val_cells hc
    obtain ⟨cs, h3, h4⟩ := fill_all ys vs (k + 1) (pre ++ c) (zs.drop r.sz) h2 (by rw [List.length_append, hp, hl, Nat.add_mul]; omega) (by rw [List.length_drop, hz, List.length_cons, Nat.add_mul]; omega)
    refine ⟨c ++ cs, ⟨c, cs, rfl, hc, h3⟩, ?_⟩
    have hs : v.cells.size = r.sz := by rw [hcells]; simpa using hl
    have hcond : ¬ ((v.cells.size ≠ r.sz) ∨ (k * r.sz + v.cells.size > (pre ++ zs).toArray.size)) := by
      simp [hs]; omega
    have h5 := splice_cells v (k * r.sz) pre (zs.take r.sz) (zs.drop r.sz) (by simp [hs]; omega) hp
    rw [List.append_assoc, ← e1] at h5
    simp only [enumV, Instr.fill]
    rw [if_neg (by simpa using hcond)]
    rw [h5, hcells]
    simpa using h4
theorem enumV_map (ρ : Operand → Value) : ∀ (k : Nat) (xs : List Operand), (enumV k (xs.map ρ)) = (xs.zipIdx k).map fun x => (x.2, ρ x.1)
  | _, [] => rfl
  | k, x :: xs => by simp [enumV, enumV_map ρ (k + 1) xs]
def enumO : Nat → List Operand → List (Nat × Operand)
  | _, [] => []
  | k, v :: vs => (k, v) :: enumO (k + 1) vs
theorem enumO_map (ρ : Operand → Value) : ∀ (k : Nat) (xs : List Operand), (enumO k xs).map (fun x => (x.1, ρ x.2)) = enumV k (xs.map ρ)
  | _, [] => rfl
  | k, x :: xs => by simp [enumO, enumV, enumO_map ρ (k + 1) xs]

section
variable {E : En} {O : List OE} {G : Ctx} {dst : Option Tmp} {ty : TypeId} {pos : String} {after : Array Edge} {g : Option (Nat × Bool)}
theorem run_buildSlice {P : Program} {α : Type} {r : Rp α} {ys : List α} {xs : List Operand} {ρ : Operand → Value} {t T : TypeId} {n sz bytes : Nat} {agg : Bool} {z : List Value} {S : SH} (ht : P.underlying t = some (.slice T)) (ti : TI P T sz bytes agg z) (hsz : r.sz = sz)
    (hn : n = ys.length) (hb : Nat.ble (n * sz) 16777216 = true) (hx : Tys S (ys.map (tD r)) (xs.map ρ)) (w : World) :
    ∃ cs, rcs r S cs ys ∧ (Instr.buildSlice t n ((enumO 0 xs).toArray.map fun x => (x.1, ρ x.2))).run P w = .ok (.slice (some ⟨w.heap.size, 0, none⟩) n n) (w.alloc (.cells cs.toArray T (0, 0))) := by
  subst hsz
  have hb' := Nat.le_of_ble_eq_true hb
  obtain ⟨zv, hzr, _⟩ := ti.zero w
  obtain ⟨cs, hc, hfill⟩ := fill_all ys (xs.map ρ) 0 [] ((Array.range (n * r.sz)).map (fun i => (if n * r.sz = 0 then #[] else zv.cells)[i % (if n * r.sz = 0 then #[] else zv.cells).size]!)).toList hx (by simp) (by simp [hn])
  refine ⟨cs, hc, ?_⟩
  have hparts : ((enumO 0 xs).toArray.map fun x => (x.1, ρ x.2)).toList = enumV 0 (xs.map ρ) := by simp [enumO_map]
  simp only [List.nil_append, Array.toArray_toList] at hfill
  have hle : ¬ (n * r.sz > 2 ^ 24) := by omega
  by_cases hn0 : n * r.sz = 0
  · simp only [hn0, if_true] at hfill
    simp only [Instr.buildSlice, Sem.run_bind, run_underlying ht, Result.andThen_ok, ti.sizeOf, Sem.run_ite, hn0, if_true, Sem.run_pure, hparts, hfill]
    simp [newRow]
  · simp only [hn0, if_false] at hfill
    simp only [Instr.buildSlice, Sem.run_bind, run_underlying ht, Result.andThen_ok, ti.sizeOf, Sem.run_ite, hle, if_false, hn0, Sem.run_pure, hzr, hparts, hfill]
    simp [newRow]
theorem ok_buildSlice {α : Type} {r : Rp α} {ys : List α} {xs : List Operand} {parts : List (Nat × Operand)} {t T : TypeId} {n sz bytes : Nat} {agg : Bool} {z : List Value} (ht : E.P.underlying t = some (.slice T)) (ti : TI E.P T sz bytes agg z) (hsz : r.sz = sz) (h0 : Nat.blt 0 sz = true)
    (hp : parts = enumO 0 xs) (hn : n = ys.length) (hb : Nat.ble (n * sz) 16777216 = true) (hx : HasTys E.N G xs (ys.map (tD r))) : OpOK E O G ⟨dst, .buildSlice t n parts.toArray, ty, pos, after, g⟩ (tD (rSl r) ys) :=
  .of_run fun a w S hs _ hf => by
    obtain ⟨cs, hc, hr⟩ := run_buildSlice ht ti hsz hn hb (hx.tys hf) w
    subst hsz
    have hb' := Nat.le_of_ble_eq_true hb
    have h0' : 0 < r.sz := by simpa [Nat.blt_eq] using h0
    have hnle : n ≤ n * r.sz := Nat.le_mul_of_pos_right n h0'
    obtain ⟨he, hs'⟩ := Ext.alloc_settled (w := w) (.cells cs.toArray T (0, 0)) hs
    have hcl := rcs_len hc
    refine ⟨.slice (some ⟨w.heap.size, 0, none⟩) n n, _, _, ?_, he, hs', tSl_iff.2 ⟨_, n, by rw [hn], by omega, by simp only [maxLen]; omega, .inr ⟨w.heap.size, 0, cs.toArray, T, (0, 0), rfl, by simp [SH.set], ?_⟩⟩⟩
    · subst hp
      simp only [execOp, Sem.run_bind, hr, Result.andThen_ok, Sem.run_pure]
    · have : rcs r (S.set w.heap.size (.cells cs.toArray T (0, 0))) cs ys := rcs_mono he.keep hc
      simpa [← hcl] using this
/-- A variable in memory that no one writes again. -/
theorem ok_box {α : Type} {r : Rp α} {v : α} {x : Operand} {T : TypeId} (hx : HasTy E.N G x (tD r v)) : OpOK E O G ⟨dst, .box T x, ty, pos, after, g⟩ (tPtr r v) :=
  .of_run fun a w S hs _ hf => by
    obtain ⟨cs, hv, hc⟩ := hx S a hf
    obtain ⟨he, hs'⟩ := Ext.alloc_settled (w := w) (.cells cs.toArray T (0, 0)) hs
    refine ⟨.pointer (some ⟨w.heap.size, 0, none⟩), _, _, ?_, he, hs', w.heap.size, 0, cs.toArray, T, (0, 0), rfl, by simp [SH.set], ?_⟩
    · simp [execOp, Instr.box, newVar, newRow, hv, val_cells hc]
    · have := r.mono he.keep hc
      have hl := r.len hc
      simpa [← hl] using this
end
end Go.Proofs.Ytchjhcgkfglgiaa
