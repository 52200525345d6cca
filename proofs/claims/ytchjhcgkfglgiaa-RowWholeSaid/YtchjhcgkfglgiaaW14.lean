/- A small logic over the walk's rules: struct literals, bytes of constant strings. It states nothing of any program. -/
import Derived.Test.YtchjhcgkfglgiaaW13
namespace Go.Proofs.Ytchjhcgkfglgiaa
open Go

theorem sfld_fst {α β : Type} {p : Rp α} {q : Rp β} : SFld (rPair p q) 0 p (fun x y => (y, x.2)) := fun S cs x ds y h k => by
  obtain ⟨a, b, e, h1, h2⟩ := h
  have hl := p.len h1
  refine ⟨ds, b, ?_, k, h2⟩
  rw [e, ← hl]; simp
theorem sfld_snd {α β γ : Type} {p : Rp α} {q : Rp β} {s : Rp γ} {off off' : Nat} {u : β → γ → β} (h : SFld q off s u) (ho : off' = p.sz + off) : SFld (rPair p q) off' s (fun x y => (x.1, u x.2 y)) := fun S cs x ds y hx hy => by
  obtain ⟨a, b, e, h1, h2⟩ := hx
  have hl := p.len h1
  refine ⟨a, b.take off ++ ds ++ b.drop (off + s.sz), ?_, h1, h S b x.2 ds y h2 hy⟩
  rw [e, ho, ← hl, List.take_length_add_append, show a.length + off + s.sz = a.length + (off + s.sz) from by omega, List.drop_length_add_append]
  simp
theorem sfld_map {α β γ : Type} {p : Rp α} {q : Rp γ} {off : Nat} {u : α → γ → α} {f : β → α} {set : β → γ → β} (h : SFld p off q u) (hf : ∀ x y, f (set x y) = u (f x) y) : SFld (rMap p f) off q set := fun S cs x ds y hx hy => by
  show p.rc S _ (f (set x y))
  rw [hf]
  exact h S cs (f x) ds y hx hy
def fieldsIn (P : Program) (T : TypeId) : Option (List (Nat × Nat)) :=
  match P.underlying T with
  | some (.struct fs) => fs.toList.mapM fun f => (P.info? f.type).map fun q => (f.offset, q.size)
  | _ => none
theorem run_places {P : Program} : ∀ (fs : List Field) (ps : List (Nat × Nat)) (w : World), fs.mapM (fun f => (P.info? f.type).map fun q => (f.offset, q.size)) = some ps →
    (fs.mapM (fun f => do pure (f.offset, ← sizeOf f.type) : Field → Sem (Nat × Nat))).run P w = .ok ps w
  | [], ps, w, h => by
    simp at h; subst h
    simp
  | f :: fs, ps, w, h => by
    simp only [List.mapM_cons] at h ⊢
    cases hq : P.info? f.type with
    | none => simp [hq] at h
    | some q =>
      cases hr : fs.mapM (fun f => (P.info? f.type).map fun q => (f.offset, q.size)) with
      | none => simp [hq, hr] at h
      | some qs =>
        simp [hq, hr] at h
        subst h
        have ih := run_places fs qs w hr
        simp [sizeOf, typeInfo, hq] at ih ⊢
        simp [ih]
section
variable {E : En} {O : List OE} {G : Ctx} {dst : Option Tmp} {ty : TypeId} {pos : String} {after : Array Edge} {g : Option (Nat × Bool)}
/-- The parts of a struct literal, laid one behind the other over what was there. -/
def BP (E : En) (G : Ctx) {α : Type} (r : Rp α) (ps : List (Nat × Nat)) : α → List (Nat × Operand) → α → Prop
  | x, [], y => x = y
  | x, (i, o) :: rest, y => ∃ (β : Type) (q : Rp β) (set : α → β → α) (off : Nat) (v : β), ps[i]? = some (off, q.sz) ∧ SFld r off q set ∧ Nat.ble (off + q.sz) r.sz = true ∧ HasTy E.N G o (tD q v) ∧ BP E G r ps (set x v) rest y
theorem fill_parts {α : Type} {r : Rp α} {ps : List (Nat × Nat)} {S : SH} {a : Act} (hF : Facts E.N S a G) : ∀ (parts : List (Nat × Operand)) (x y : α) (cs : List Value), BP E G r ps x parts y → r.rc S cs x →
    ∃ ds, r.rc S ds y ∧ Instr.fill (ps.toArray[·]?) cs.toArray (parts.map fun p => (p.1, a.eval p.2)) = some ds.toArray
  | [], x, y, cs, h, hx => by
    have e : x = y := h
    subst e
    exact ⟨cs, hx, rfl⟩
  | (i, o) :: rest, x, y, cs, ⟨β, q, set, off, v, h1, h2, h3, h4, h5⟩, hx => by
    obtain ⟨c, hv, hc⟩ := h4 S a hF
    have hl := q.len hc
    have hlr := r.len hx
    have h3' := Nat.le_of_ble_eq_true h3
    have hcells : (a.eval o).cells = c.toArray := by rw [hv]; exact val_cells hc
    obtain ⟨ds, h6, h7⟩ := fill_parts hF rest _ y _ h5 (h2 S cs x c v hx hc)
    refine ⟨ds, h6, ?_⟩
    have hps : ps.toArray[i]? = some (off, q.sz) := by simpa using h1
    have hs : (a.eval o).cells.size = q.sz := by rw [hcells]; simpa using hl
    have h8 := splice_cells (a.eval o) off (cs.take off) ((cs.drop off).take q.sz) (cs.drop (off + q.sz)) (by rw [hs]; simp; omega) (by simp; omega)
    have e1 : cs.take off ++ (cs.drop off).take q.sz ++ cs.drop (off + q.sz) = cs := by
      rw [List.append_assoc, ← List.drop_drop, List.take_append_drop, List.take_append_drop]
    rw [e1] at h8
    simp only [List.map_cons, Instr.fill, hps]
    rw [if_neg (by simp [hs, hlr]; omega), h8, hcells]
    simpa using h7
theorem ok_build {α : Type} {r : Rp α} {x y : α} {T : TypeId} {parts : List (Nat × Operand)} {ps : List (Nat × Nat)} {sz bytes : Nat} {agg : Bool} {z : List Value} (ti : TI E.P T sz bytes agg z) (hp : fieldsIn E.P T = some ps) (hz : ∀ S, r.rc S z x) (hb : BP E G r ps x parts y) (ha : r.agg = true := by rfl) :
    OpOK E O G ⟨dst, .build T parts.toArray, ty, pos, after, g⟩ (tD r y) :=
  .of_pure fun a w S _ _ hF => by
    obtain ⟨zv, hzr, hzc⟩ := ti.zero w
    obtain ⟨ds, h1, h2⟩ := fill_parts hF parts x y z hb (hz S)
    unfold fieldsIn at hp
    split at hp
    · rename_i fs hu
      have hpl := run_places fs.toList ps w hp
      have hpl2 : (fs.mapM (fun f => do pure (f.offset, ← sizeOf f.type) : Field → Sem (Nat × Nat))).run E.P w = .ok ps.toArray w := by
        have hfs : fs = fs.toList.toArray := by simp
        generalize fs.toList = l at hfs hpl
        subst hfs
        rw [List.mapM_toArray, Sem.run_map, hpl]
        rfl
      refine ⟨.agg ds.toArray, ?_, ds, (val_agg ha ds).symm, h1⟩
      simp only [execOp, Instr.build, Sem.run_bind, hzr, Result.andThen_ok, run_underlying hu, hpl2, hzc]
      have hm : (parts.toArray.map fun (i, x) => (i, a.eval x)).toList = parts.map fun p => (p.1, a.eval p.2) := by simp
      rw [hm, h2]
      simp
    · cases hp
end
section
variable {O : List OE} {G : Ctx}
/-- A result that lies in memory. -/
theorem AT.ret1c {P : Program} {N : Nat} {B : Nat → Prop} {w0 : World} {S0 : SH} {fn : Func} {k : Nat} {T : TypeId} {α : Type} {r : Rp α} {x : α} {sz bytes : Nat} {agg : Bool} {z : List Value} (hr : fn.results = #[.cell k T]) (ti : TI P T sz bytes agg z) (hsz : r.sz = sz) (hag : r.agg = agg) (hk : look G k = some (tPtr r x)) :
    AT ⟨P, ⟨N, []⟩, B, w0, S0, none⟩ (bodyPost P fn (endQ ⟨P, ⟨N, []⟩, B, w0, S0, none⟩ (tD r x))) .ret O G := fun a w S st => by
  obtain ⟨b, off, c, U, fr, h1, h2, h3⟩ := st.facts.at_ k _ hk
  obtain ⟨c', h4, h5⟩ := st.sat.part h2 (r.len h3)
  rw [← h5] at h3
  refine ⟨st.facts.defers, r.val ((c'.toList.drop off).take r.sz), ?_, _, S, rfl, st.ext, st.sat, _, rfl, h3⟩
  have hl := run_loadVar_in ti h4 hsz hag h3
  have h1' : a.tmps[k]?.getD undef = Value.pointer (some ⟨b, off, none⟩) := by simpa [Array.getD_eq_getD_getElem?] using h1
  simp [results, hr, h1', asAddr, hl]
end
end Go.Proofs.Ytchjhcgkfglgiaa
