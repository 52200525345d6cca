/- A small logic over the walk's rules: equality of structs, field by field. It states nothing of any program. -/
import Derived.Test.YtchjhcgkfglgiaaW19
import Derived.Laws.StructEq
namespace Go.Proofs.Ytchjhcgkfglgiaa
open Go

def EqAtR (P : Program) {α : Type} [DecidableEq α] (t : TypeId) (r : Rp α) (n : Nat) : Prop :=
  ∀ (S : SH) (cs ds : List Value) (x y : α) (d : Nat) (w : World), r.rc S cs x → r.rc S ds y → (Op.equalIn (d + n) t (r.val cs) (r.val ds)).run P w = .ok (decide (x = y)) w
theorem eqr_int {P : Program} {t : TypeId} {k k' : IntKind} (h : P.underlying t = some (.int k')) {n : Nat} : EqAtR P t (rI k) (n + 1) := fun S cs ds x y d w hx hy => by
  have h1 : cs = [.int k x] := hx
  have h2 : ds = [.int k y] := hy
  subst h1 h2
  have : (Op.equalIn (d + n + 1) t (.int k x) (.int k y)).run P w = .ok (x == y) w := by simp [Op.equalIn, run_underlying h]
  have e : (x == y) = decide (x = y) := by by_cases h : x = y <;> simp [h]
  rw [e] at this
  exact this
theorem eqr_bool {P : Program} {t : TypeId} (h : P.underlying t = some .bool) {n : Nat} : EqAtR P t rB (n + 1) := fun S cs ds x y d w hx hy => by
  have h1 : cs = [.bool x] := hx
  have h2 : ds = [.bool y] := hy
  subst h1 h2
  have := run_equalIn_bool' (P := P) w (d + n) t x y h
  simp only [Rp.val, rB, List.headD_cons, Bool.false_eq_true, if_false]
  rw [show d + (n + 1) = d + n + 1 from rfl, this]
  cases x <;> cases y <;> rfl
theorem eqr_str {P : Program} {t : TypeId} (h : P.underlying t = some .string) {n : Nat} : EqAtR P t rS (n + 1) := fun S cs ds x y d w hx hy => by
  have h1 : cs = [.string ⟨x.toArray⟩] := hx
  have h2 : ds = [.string ⟨y.toArray⟩] := hy
  subst h1 h2
  have := run_equalIn_string (P := P) w (d + n) t ⟨x.toArray⟩ ⟨y.toArray⟩ h
  simp only [Rp.val, rS, List.headD_cons, Bool.false_eq_true, if_false]
  rw [show d + (n + 1) = d + n + 1 from rfl, this]
  simp only [ByteArray.toList_eq]
  by_cases e : x = y <;> simp [e]
abbrev Fd := TypeId × Nat × Bool
def fdOf (f : Field) : Fd := (f.type, f.offset, f.name == "_")
def eqFs (d : Nat) (xs ys : Array Value) : List Fd → Sem Bool
  | [] => pure true
  | f :: fs =>
    if f.2.2 = false then do
      let a ← part f.1 xs f.2.1
      let b ← part f.1 ys f.2.1
      let r ← Op.equalIn d f.1 a b
      if (!r) = true then pure false else eqFs d xs ys fs
    else eqFs d xs ys fs
theorem eqFs_map (d : Nat) (xs ys : Array Value) : ∀ fs : List Field, Op.eqFields d xs ys fs = eqFs d xs ys (fs.map fdOf)
  | [] => rfl
  | f :: fs => by
    unfold Op.eqFields eqFs
    rw [eqFs_map d xs ys fs]
    by_cases h : f.name = "_"
    · have e : ((fdOf f).2.2 = false) = False := by simp [fdOf, h]
      simp only [List.map_cons, e, if_false]
      rw [if_neg (by simpa using h)]
    · have e : ((fdOf f).2.2 = false) = True := by simp [fdOf, h]
      simp only [List.map_cons, e, if_true]
      rw [if_pos (by simpa using h)]
      rfl
def EFs (P : Program) {α : Type} (r : Rp α) (n : Nat) (fs : List Fd) (c : α → α → Bool) : Prop :=
  ∀ (S : SH) (cs ds : List Value) (x y : α) (d : Nat) (w : World), r.rc S cs x → r.rc S ds y → (eqFs (d + n) cs.toArray ds.toArray fs).run P w = .ok (c x y) w
theorem EFs.nil {P : Program} {α : Type} {r : Rp α} {n : Nat} : EFs P r n [] (fun _ _ => true) := fun _ _ _ _ _ _ _ _ _ => rfl
theorem run_part_fld {P : Program} {α β : Type} {r : Rp α} {q : Rp β} {get : α → β} {t : TypeId} {off sz bytes : Nat} {agg : Bool} {z : List Value} (ti : TI P t sz bytes agg z) (hsz : q.sz = sz) (hag : q.agg = agg) (hf : Fld r off q get) {S : SH} {cs : List Value} {x : α} (hx : r.rc S cs x) (w : World) :
    (part t cs.toArray off).run P w = .ok (q.val ((cs.drop off).take q.sz)) w := by
  have h := hf S cs x hx
  have hl := q.len h
  subst hsz hag
  unfold part
  by_cases ha : q.agg = true
  · have e1 := ti.isAgg w
    simp only [Sem.run_bind, e1, ha, Result.andThen_ok, if_true, ti.sizeOf, Sem.run_pure]
    unfold Rp.val
    rw [if_pos ha]
    congr 2
    apply Array.ext'
    simp
  · rw [Bool.not_eq_true] at ha
    have e1 := ti.isAgg w
    have hs1 := q.sc ha
    simp only [Sem.run_bind, e1, ha, Result.andThen_ok, Bool.false_eq_true, if_false]
    rw [hs1] at hl ⊢
    obtain ⟨v, hv⟩ := List.length_eq_one_iff.1 hl
    have hc : cs[off]? = some v := by
      have : ((cs.drop off).take 1)[0]? = some v := by rw [hv]; rfl
      rw [List.getElem?_take_of_lt (by omega), List.getElem?_drop] at this
      simpa using this
    unfold Rp.val
    rw [hv, ha]
    simp [hc]
theorem EFs.cons {P : Program} {α β : Type} [DecidableEq β] {r : Rp α} {q : Rp β} {get : α → β} {n t off sz bytes : Nat} {agg : Bool} {z : List Value} {fs : List Fd} {c : α → α → Bool} (ti : TI P t sz bytes agg z) (hsz : q.sz = sz) (hag : q.agg = agg) (hf : Fld r off q get) (he : EqAtR P t q n) (hr : EFs P r n fs c) :
    EFs P r n ((t, off, false) :: fs) (fun x y => decide (get x = get y) && c x y) := fun S cs ds x y d w hx hy => by
  have h1 := run_part_fld ti hsz hag hf hx w
  have h2 := run_part_fld ti hsz hag hf hy w
  have h3 := he S _ _ _ _ d w (hf S cs x hx) (hf S ds y hy)
  unfold eqFs
  simp only [if_true, Sem.run_bind, h1, h2, h3, Result.andThen_ok]
  by_cases e : get x = get y
  · simp only [e, decide_true, Bool.not_true, Bool.false_eq_true, if_false, Bool.true_and]
    exact hr S cs ds x y d w hx hy
  · simp [e]
theorem EFs.skip {P : Program} {α : Type} {r : Rp α} {n t off : Nat} {fs : List Fd} {c : α → α → Bool} (hr : EFs P r n fs c) : EFs P r n ((t, off, true) :: fs) c := fun S cs ds x y d w hx hy => by
  unfold eqFs
  simp only [Bool.true_eq_false, if_false]
  exact hr S cs ds x y d w hx hy
theorem eqr_struct {P : Program} {α : Type} [DecidableEq α] {r : Rp α} {n t : Nat} {fs : List Fd} {c : α → α → Bool} (ht : (P.underlying t).map (fun d => match d with | .struct l => (true, l.toList.map fdOf) | _ => (false, [])) = some (true, fs)) (hp : P.stoodInHeld t = false) (ha : r.agg = true) (hr : EFs P r n fs c) (hc : ∀ x y, c x y = decide (x = y)) : EqAtR P t r (n + 1) := fun S cs ds x y d w hx hy => by
  obtain ⟨l, h1, h2⟩ : ∃ l, P.underlying t = some (.struct l) ∧ l.toList.map fdOf = fs := by
    cases hu : P.underlying t with
    | none => rw [hu] at ht; cases ht
    | some d =>
      rw [hu] at ht
      cases d <;> simp at ht
      exact ⟨_, rfl, ht⟩
  have hfo : P.fieldsOf t = l := by unfold Program.fieldsOf; rw [h1]
  have := run_equalIn_struct (P := P) w (d + n) t cs.toArray ds.toArray (by rw [hfo]; exact h1) hp
  rw [val_agg ha, val_agg ha, show d + (n + 1) = d + n + 1 from rfl, this, hfo, eqFs_map, h2, hr S cs ds x y d w hx hy, hc]
theorem EqAtR.up {P : Program} {α : Type} [DecidableEq α] {t : TypeId} {r : Rp α} {n : Nat} (h : EqAtR P t r n) (m : Nat) : EqAtR P t r (m + n) := fun S cs ds x y d w hx hy => by
  have := h S cs ds x y (d + m) w hx hy
  rwa [Nat.add_assoc] at this
theorem EqD.of {P : Program} {α : Type} [DecidableEq α] {t : TypeId} {r : Rp α} (hg : P.eqGuardType P.depth t = false) (h : EqAtR P t r 20) : EqD P t r := ⟨hg, fun S cs ds x y d w hx hy => h S cs ds x y d w hx hy⟩
end Go.Proofs.Ytchjhcgkfglgiaa
