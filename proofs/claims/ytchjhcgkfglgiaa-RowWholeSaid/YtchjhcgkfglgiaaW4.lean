/- A small logic over the walk's rules: slices, loads, fields, calls. It states nothing of any program. -/
import Derived.Test.YtchjhcgkfglgiaaW3
namespace Go.Proofs.Ytchjhcgkfglgiaa
open Go

/-- What the program's tables say of a type: cells, bytes, whether a value of it is a row of cells; its zero value's cells. -/
def isAggD : TypeDesc → Bool
  | .struct _ | .array _ _ => true
  | _ => false
structure TI (P : Program) (T : TypeId) (sz bytes : Nat) (agg : Bool) (z : List Value) : Prop where
  info : (P.info? T).map (fun i => (i.zero.map (·.cells.toList), i.size, i.bytes)) = some (some z, sz, bytes)
  ag : (P.underlying T).map isAggD = some agg
section
variable {P : Program} {T : TypeId} {sz bytes : Nat} {agg : Bool} {z : List Value}
theorem TI.get (h : TI P T sz bytes agg z) : ∃ i zv, P.info? T = some i ∧ i.size = sz ∧ i.bytes = bytes ∧ i.zero = some zv ∧ zv.cells = z.toArray := by
  have := h.info
  cases hi : P.info? T with
  | none => rw [hi] at this; simp at this
  | some i =>
    rw [hi] at this
    simp only [Option.map_some, Option.some.injEq, Prod.mk.injEq, Option.map_eq_some_iff] at this
    obtain ⟨⟨zv, h1, h2⟩, h3, h4⟩ := this
    exact ⟨i, zv, rfl, h3, h4, h1, by rw [← h2]⟩
theorem TI.sizeOf (h : TI P T sz bytes agg z) (w : World) : (Go.sizeOf T).run P w = .ok sz w := by
  obtain ⟨i, zv, h1, h2, _⟩ := h.get
  simp [Go.sizeOf, typeInfo, h1, h2]
theorem TI.isAgg (h : TI P T sz bytes agg z) (w : World) : (Go.isAgg T).run P w = .ok agg w := by
  have := h.ag
  cases hi : P.underlying T with
  | none => rw [hi] at this; simp at this
  | some d =>
    rw [hi] at this
    simp only [Option.map_some, Option.some.injEq] at this
    simp only [Go.isAgg, Sem.run_bind, run_underlying hi, Result.andThen_ok]
    rw [← this]
    cases d <;> simp [isAggD]
theorem TI.zero (h : TI P T sz bytes agg z) (w : World) : ∃ zv, (zeroValue T).run P w = .ok zv w ∧ zv.cells = z.toArray := by
  obtain ⟨i, zv, h1, _, _, h4, h5⟩ := h.get
  exact ⟨zv, by simp [zeroValue, typeInfo, h1, h4], h5⟩
end

theorem addr_add (b off i : Nat) : (⟨b, off, none⟩ : Addr).add i = ⟨b, off + i, none⟩ := by
  unfold Addr.add
  split
  · simp_all
  · rfl
theorem cell_in {w : World} {b : Nat} {c : Array Value} {T : TypeId} {fr : Nat × Nat} (h : w.heap[b]? = some (.cells c T fr)) (i : Nat) : w.cell? ⟨b, i, none⟩ = c[i]? := by
  simp [World.cell?, h]
/-- Cells that stand in a block are loaded. -/
theorem run_loadCells_in {P : Program} {w : World} {b off n : Nat} {c : Array Value} {T : TypeId} {fr : Nat × Nat} (h : w.heap[b]? = some (.cells c T fr)) {cs : List Value} (hcs : (c.toList.drop off).take n = cs) (hl : cs.length = n) :
    (loadCells ⟨b, off, none⟩ n).run P w = .ok cs.toArray w := by
  rw [← hl]
  refine run_loadCells_list w ⟨b, off, none⟩ cs fun j v hv => ?_
  rw [addr_add, cell_in h]
  have hj : j < cs.length := (List.getElem?_eq_some_iff.1 hv).1
  rw [← hcs, List.getElem?_take_of_lt (by omega), List.getElem?_drop] at hv
  simpa using hv
/-- A variable's value is loaded. -/
theorem run_loadVar_in {P : Program} {w : World} {b off : Nat} {c : Array Value} {T U : TypeId} {fr : Nat × Nat} {sz bytes : Nat} {agg : Bool} {z : List Value} (ti : TI P U sz bytes agg z) (h : w.heap[b]? = some (.cells c T fr))
    {α : Type} {r : Rp α} (hsz : r.sz = sz) (hag : r.agg = agg) {S : SH} {x : α} (hx : r.rc S ((c.toList.drop off).take r.sz) x) :
    (loadVar U ⟨b, off, none⟩).run P w = .ok (r.val ((c.toList.drop off).take r.sz)) w := by
  have hl := r.len hx
  subst hsz
  subst hag
  simp only [loadVar, Sem.run_bind, ti.isAgg, Result.andThen_ok]
  cases ha : r.agg with
  | true => simp [ti.sizeOf, run_loadCells_in h rfl hl, Rp.val, ha]
  | false =>
    have h1 := r.sc ha
    have hcell : w.cell? ⟨b, off, none⟩ = some (((c.toList.drop off).take r.sz).headD undef) := by
      rw [cell_in h]
      rw [h1] at hl ⊢
      cases hd : c.toList.drop off with
      | nil => rw [hd] at hl; simp at hl
      | cons v rest =>
        have : (c.toList.drop off)[0]? = some v := by rw [hd]; rfl
        rw [List.getElem?_drop] at this
        simpa using this
    simp [hcell, Rp.val, ha]

section
variable {E : En} {O : List OE} {G : Ctx} {dst : Option Tmp} {ty : TypeId} {pos : String} {after : Array Edge} {g : Option (Nat × Bool)}

theorem ok_load {α : Type} {r : Rp α} {x : α} {U : TypeId} {p : Operand} {sz bytes : Nat} {agg : Bool} {z : List Value} (ti : TI E.P U sz bytes agg z) (hsz : r.sz = sz) (hag : r.agg = agg) (hp : HasTy E.N G p (tPtr r x)) :
    OpOK E O G ⟨dst, .load U p, ty, pos, after, g⟩ (tD r x) :=
  .of_pure fun a w S hs _ hf => by
    obtain ⟨b, off, c, T, fr, h1, h2, h3⟩ := hp S a hf
    obtain ⟨c', h4, h5⟩ := hs.part h2 (r.len h3)
    rw [← h5] at h3
    refine ⟨r.val ((c'.toList.drop off).take r.sz), ?_, _, rfl, h3⟩
    simp [execOp, h1, Instr.loadAt, Instr.sureAddr, run_loadVar_in ti h4 hsz hag h3]

theorem ba_size (s : Str) : (ByteArray.mk s.toArray).size = s.length := by simp [ByteArray.size]
theorem ok_lenSl {α : Type} {r : Rp α} {xs : List α} {x : Operand} {t e : TypeId} (ht : E.P.underlying t = some (.slice e)) (hx : HasTy E.N G x (tD (rSl r) xs)) :
    OpOK E O G ⟨dst, .call ⟨.builtin .len, #[x], #[t]⟩, ty, pos, after, g⟩ (tD (rI .i64) (xs.length : Int)) :=
  .of_pure fun a w S _ _ hf => by
    obtain ⟨ad, cap, h1, _⟩ := tSl_iff.1 (hx S a hf)
    refine ⟨.int .i64 xs.length, ?_, tI_iff.2 rfl⟩
    simp [execOp, resolve, invoke, builtin, Builtin.len_, run_underlying ht, h1, goInt]
theorem ok_lenS {s : Str} {x : Operand} {t : TypeId} (ht : E.P.underlying t = some .string) (hx : HasTy E.N G x (tD rS s)) :
    OpOK E O G ⟨dst, .call ⟨.builtin .len, #[x], #[t]⟩, ty, pos, after, g⟩ (tD (rI .i64) (s.length : Int)) :=
  .of_pure fun a w S _ _ hf => by
    have h1 : a.eval x = .string ⟨s.toArray⟩ := tS_iff.1 (hx S a hf)
    refine ⟨.int .i64 s.length, ?_, tI_iff.2 rfl⟩
    simp [execOp, resolve, invoke, builtin, Builtin.len_, run_underlying ht, h1, goInt, ba_size]

/-- What stands at an index; nothing, if the index is none of the list's. -/
def idx {α : Type} (xs : List α) (i : Int) : Option α := if 0 ≤ i then xs[i.toNat]? else none
theorem idx_nat {α : Type} (xs : List α) (i : Nat) : idx xs (i : Int) = xs[i]? := by simp [idx]
theorem slArr_get {α : Type} {r : Rp α} {S : SH} {a : Option Addr} {xs : List α} (h : slArr r S a xs) {i : Nat} {x : α} (hx : xs[i]? = some x) :
    ∃ b off c T fr, a = some ⟨b, off, none⟩ ∧ S b = some (.cells c T fr) ∧ r.rc S ((c.toList.drop (off + i * r.sz)).take r.sz) x := by
  rcases h with rfl | ⟨b, off, c, T, fr, e1, e2, e3⟩
  · simp at hx
  · refine ⟨b, off, c, T, fr, e1, e2, ?_⟩
    have h := rcs_get e3 hx
    have hi : i < xs.length := (List.getElem?_eq_some_iff.1 hx).1
    rw [List.drop_take, List.take_take, List.drop_drop] at h
    have : min r.sz (xs.length * r.sz - i * r.sz) = r.sz := by
      rw [← Nat.sub_mul]
      have : 1 * r.sz ≤ (xs.length - i) * r.sz := Nat.mul_le_mul_right _ (by omega)
      omega
    rw [this] at h
    exact h
theorem ok_indexAddr {α : Type} {r : Rp α} {xs : List α} {x : Operand} {y : α} {ix : Operand} {t e : TypeId} {k : IntKind} {i : Int} {sz bytes : Nat} {agg : Bool} {z : List Value} (ht : E.P.underlying t = some (.slice e)) (ti : TI E.P e sz bytes agg z) (hsz : r.sz = sz)
    (hx : HasTy E.N G x (tD (rSl r) xs)) (hi : HasTy E.N G ix (tD (rI k) i)) (hy : idx xs i = some y) :
    OpOK E O G ⟨dst, .indexAddr t x ix, ty, pos, after, g⟩ (tPtr r y) :=
  .of_pure fun a w S _ _ hf => by
    obtain ⟨ad, cap, h1, _, _, h2⟩ := tSl_iff.1 (hx S a hf)
    have h3 : a.eval ix = .int k i := tI_iff.1 (hi S a hf)
    have h0 : 0 ≤ i := by unfold idx at hy; split at hy; assumption; cases hy
    have hy' : xs[i.toNat]? = some y := by unfold idx at hy; rw [if_pos h0] at hy; exact hy
    have hlt : i.toNat < xs.length := (List.getElem?_eq_some_iff.1 hy').1
    obtain ⟨b, off, c, T, fr, e1, e2, e3⟩ := slArr_get h2 hy'
    subst e1
    refine ⟨.pointer (some ⟨b, off + i.toNat * r.sz, none⟩), ?_, b, _, c, T, fr, rfl, e2, e3⟩
    have hc : 0 ≤ i ∧ i < (xs.length : Int) := ⟨h0, by omega⟩
    simp [execOp, h1, h3, Instr.indexAt, asIntOf, run_underlying ht, hc, ti.sizeOf, addr_add, hsz]

/-- A field of a row of cells. -/
def Fld {α β : Type} (r : Rp α) (off : Nat) (q : Rp β) (get : α → β) : Prop := ∀ S cs x, r.rc S cs x → q.rc S ((cs.drop off).take q.sz) (get x)
def fieldIn (P : Program) (T : TypeId) (i : Nat) : Option (Nat × Nat) :=
  match P.underlying T with
  | some (.struct fs) => (fs[i]?).bind fun f => (P.info? f.type).map fun q => (f.offset, q.size)
  | _ => none
theorem run_field {P : Program} {T : TypeId} {i off sz : Nat} (h : fieldIn P T i = some (off, sz)) : ∃ fs f, P.underlying T = some (.struct fs) ∧ fs[i]? = some f ∧ f.offset = off ∧ ∀ w, (sizeOf f.type).run P w = .ok sz w := by
  unfold fieldIn at h
  split at h
  · rename_i fs hu
    cases hf : fs[i]? with
    | none => rw [hf] at h; simp at h
    | some f =>
      rw [hf] at h
      cases hq : P.info? f.type with
      | none => simp [hq] at h
      | some q =>
        simp [hq] at h
        exact ⟨fs, f, hu, hf, h.1, fun w => by simp [sizeOf, typeInfo, hq, h.2]⟩
  · cases h
theorem ok_fieldAddr {α β : Type} {r : Rp α} {q : Rp β} {get : α → β} {x : α} {T : TypeId} {i off sz : Nat} {p : Operand} (hf : fieldIn E.P T i = some (off, sz)) (h0 : Nat.beq sz 0 = false) (hq : Fld r off q get) (hoff : Nat.ble (off + q.sz) r.sz = true)
    (hp : HasTy E.N G p (tPtr r x)) : OpOK E O G ⟨dst, .fieldAddr T p i, ty, pos, after, g⟩ (tPtr q (get x)) :=
  .of_pure fun a w S _ _ hF => by
    obtain ⟨b, o, c, U, fr, h1, h2, h3⟩ := hp S a hF
    obtain ⟨fs, f, e1, e2, e3, e4⟩ := run_field hf
    have h0' : sz ≠ 0 := fun e => by subst e; simp at h0
    have hoff' : off + q.sz ≤ r.sz := Nat.le_of_ble_eq_true hoff
    refine ⟨.pointer (some ⟨b, o + off, none⟩), ?_, b, _, c, U, fr, rfl, h2, ?_⟩
    · simp [execOp, h1, Instr.fieldAt, run_underlying e1, e2, Instr.sureAddr, fieldPlace, e4, h0', e3, addr_add]
    · have := hq S _ x h3
      rw [List.drop_take, List.take_take, List.drop_drop, Nat.min_eq_left (by omega)] at this
      exact this
/-! ### Calls -/
def callableB (P : Program) (f : FuncId) : Bool :=
  match P.funcs[f]? with
  | some fn => !(fn.name == "runtime.NumGoroutine") && fn.body.isSome
  | none => false
theorem run_callFunc {P : Program} {f : FuncId} (h : callableB P f = true) (args : Array Value) (w : World) : (callFunc f args).run P w = .ok (.enter f args) w := by
  unfold callableB at h
  cases hf : P.funcs[f]? with
  | none => rw [hf] at h; cases h
  | some fn =>
    rw [hf] at h
    simp only [Bool.and_eq_true, Bool.not_eq_true'] at h
    have h1 : fn.name ≠ "runtime.NumGoroutine" := by simpa using h.1
    have h2 : fn.body ≠ none := fun e => by rw [e] at h; simp at h
    simp [callFunc, hf, h1, h2]
def HasTys (N : Fr) (G : Ctx) : List Operand → List Ty → Prop
  | [], [] => True
  | x :: xs, t :: ts => HasTy N G x t ∧ HasTys N G xs ts
  | _, _ => False
theorem HasTys.tys {N : Fr} {S : SH} {a : Act} (hF : Facts N S a G) : ∀ {xs : List Operand} {ts : List Ty}, HasTys N G xs ts → Tys S ts (xs.map a.eval)
  | [], [], _ => trivial
  | _ :: _, _ :: _, ⟨h1, h2⟩ => ⟨h1 S a hF, HasTys.tys hF h2⟩
theorem ok_call {f : FuncId} {xs : List Operand} {ats : Array TypeId} {ts : List Ty} {t : Ty} (hc : callableB E.P f = true) (hs : Spec E.P f ts t) (hx : HasTys E.N G xs ts) :
    OpOK E O G ⟨dst, .call ⟨.value (.func f), xs.toArray, ats⟩, ty, pos, after, g⟩ t := fun a w S hS _ hF => by
  have hr : (execOp a.eval ⟨dst, .call ⟨.value (.func f), xs.toArray, ats⟩, ty, pos, after, g⟩).run E.P w = .ok (.enter f (xs.map a.eval).toArray) w := by
    simp [execOp, resolve, Act.eval, Deferred.ofValue, invoke, run_callFunc hc]
  refine ⟨fun c h => (by cases h), ?_⟩
  rw [hr]
  exact (hs w S _ hS (hx.tys hF)).mono fun e w' ⟨v, S', he, h1, h2, h3⟩ => ⟨v, he, v, S', rfl, h1, h2, h3⟩
end
end Go.Proofs.Ytchjhcgkfglgiaa
