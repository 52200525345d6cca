/- A small logic over the walk's rules: what a slot holds, as data. It states nothing of any program. -/
import Derived.WalkKit
import Derived.Orders
namespace Go.Proofs.Ytchjhcgkfglgiaa
open Go

/-- One block's content, and a later one: rows of cells may have grown at their end. -/
def ole : Obj → Obj → Prop
  | .cells c E fr, o' => ∃ d : List Value, o' = .cells (c.toList ++ d).toArray E fr
  | o, o' => o' = o
theorem ole_refl (o : Obj) : ole o o := by
  cases o <;> first | rfl | exact ⟨[], by simp⟩
theorem ole_trans {o o' o'' : Obj} (h : ole o o') (k : ole o' o'') : ole o o'' := by
  cases o with
  | cells c E fr =>
    obtain ⟨d, rfl⟩ := h
    obtain ⟨d', rfl⟩ := k
    exact ⟨d ++ d', by simp⟩
  | _ => cases h; exact k
theorem ole_cells {c : Array Value} {E : TypeId} {fr : Nat × Nat} (d : List Value) : ole (.cells c E fr) (.cells (c.toList ++ d).toArray E fr) := ⟨d, rfl⟩
/-- What stands in a row of cells stands in it when it has grown. -/
theorem ole_part {c : Array Value} {E : TypeId} {fr : Nat × Nat} {o' : Obj} (h : ole (.cells c E fr) o') {off n : Nat} (hl : ((c.toList.drop off).take n).length = n) :
    ∃ c', o' = .cells c' E fr ∧ (c'.toList.drop off).take n = (c.toList.drop off).take n := by
  obtain ⟨d, rfl⟩ := h
  refine ⟨_, rfl, ?_⟩
  by_cases hn : n = 0
  · subst hn; simp
  simp only [List.length_take, List.length_drop] at hl
  rw [List.drop_append_of_le_length (by omega), List.take_append_of_le_length (by simp only [List.length_drop]; omega)]
/-- The cells that no one writes any more. -/
abbrev SH := Nat → Option Obj
def SH.le (S S' : SH) : Prop := ∀ b o, S b = some o → ∃ o', S' b = some o' ∧ ole o o'
theorem SH.le_refl (S : SH) : SH.le S S := fun _ o h => ⟨o, h, ole_refl o⟩
theorem SH.le_trans {S S' S'' : SH} (h : SH.le S S') (k : SH.le S' S'') : SH.le S S'' := fun b o e => let ⟨o', h1, h2⟩ := h b o e; let ⟨o'', h3, h4⟩ := k b o' h1; ⟨o'', h3, ole_trans h2 h4⟩
theorem SH.le_of {S S' : SH} (h : ∀ b o, S b = some o → S' b = some o) : SH.le S S' := fun b o e => ⟨o, h b o e, ole_refl o⟩

/-- What a value is, as data. -/
structure Ty where
  p : SH → Value → Prop
  mono : ∀ {S S' : SH} {v : Value}, SH.le S S' → p S v → p S' v

/-- How data of a Go type lie in cells. -/
structure Rp (α : Type) where
  sz : Nat
  agg : Bool
  rc : SH → List Value → α → Prop
  mono : ∀ {S S' : SH} {cs : List Value} {x : α}, SH.le S S' → rc S cs x → rc S' cs x
  len : ∀ {S : SH} {cs : List Value} {x : α}, rc S cs x → cs.length = sz
  one : ∀ {S : SH} {cs : List Value} {x : α}, rc S cs x → ∀ c ∈ cs, c.oneCell' = true
  sc : agg = false → sz = 1

def Rp.val {α : Type} (r : Rp α) (cs : List Value) : Value := if r.agg then .agg cs.toArray else cs.headD undef

def tD {α : Type} (r : Rp α) (x : α) : Ty where
  p := fun S v => ∃ cs, v = r.val cs ∧ r.rc S cs x
  mono := fun h ⟨cs, e, k⟩ => ⟨cs, e, r.mono h k⟩

def tAny : Ty where
  p := fun _ _ => True
  mono := fun _ _ => trivial

/-- A value that is just this one. -/
def tV (u : Value) : Ty where
  p := fun _ v => v = u
  mono := fun _ h => h

def rI (k : IntKind) : Rp Int where
  sz := 1
  agg := false
  rc := fun _ cs x => cs = [.int k x]
  mono := fun _ h => h
  len := fun h => by rw [h]; rfl
  one := fun h c hc => by subst h; simp at hc; subst hc; rfl
  sc := fun _ => rfl

def rB : Rp Bool where
  sz := 1
  agg := false
  rc := fun _ cs x => cs = [.bool x]
  mono := fun _ h => h
  len := fun h => by rw [h]; rfl
  one := fun h c hc => by subst h; simp at hc; subst hc; rfl
  sc := fun _ => rfl

/-- Strings, as lists of bytes. -/
abbrev Str := List UInt8
def rS : Rp Str where
  sz := 1
  agg := false
  rc := fun _ cs x => cs = [.string ⟨x.toArray⟩]
  mono := fun _ h => h
  len := fun h => by rw [h]; rfl
  one := fun h c hc => by subst h; simp at hc; subst hc; rfl
  sc := fun _ => rfl

theorem tI_iff {k : IntKind} {n : Int} {S : SH} {v : Value} : (tD (rI k) n).p S v ↔ v = .int k n := by
  constructor
  · rintro ⟨cs, rfl, h⟩; have h' : cs = [.int k n] := h; subst h'; rfl
  · rintro rfl; exact ⟨[.int k n], rfl, rfl⟩
theorem tB_iff {b : Bool} {S : SH} {v : Value} : (tD rB b).p S v ↔ v = .bool b := by
  constructor
  · rintro ⟨cs, rfl, h⟩; have h' : cs = [.bool b] := h; subst h'; rfl
  · rintro rfl; exact ⟨[.bool b], rfl, rfl⟩
theorem tS_iff {s : Str} {S : SH} {v : Value} : (tD rS s).p S v ↔ v = .string ⟨s.toArray⟩ := by
  constructor
  · rintro ⟨cs, rfl, h⟩; have h' : cs = [.string ⟨s.toArray⟩] := h; subst h'; rfl
  · rintro rfl; exact ⟨[.string ⟨s.toArray⟩], rfl, rfl⟩

/-- A row of data in cells, one behind the other. -/
def rcs {α : Type} (r : Rp α) (S : SH) : List Value → List α → Prop
  | cs, [] => cs = []
  | cs, x :: xs => ∃ a b, cs = a ++ b ∧ r.rc S a x ∧ rcs r S b xs
theorem rcs_mono {α : Type} {r : Rp α} {S S' : SH} (h : SH.le S S') : ∀ {xs : List α} {cs : List Value}, rcs r S cs xs → rcs r S' cs xs
  | [], _, k => k
  | _ :: _, _, ⟨a, b, e, h1, h2⟩ => ⟨a, b, e, r.mono h h1, rcs_mono h h2⟩
theorem rcs_len {α : Type} {r : Rp α} {S : SH} : ∀ {xs : List α} {cs : List Value}, rcs r S cs xs → cs.length = xs.length * r.sz
  | [], _, k => by rw [show _ = _ from k]; simp
  | x :: xs, _, ⟨a, b, e, h1, h2⟩ => by rw [e, List.length_append, r.len h1, rcs_len h2, List.length_cons, Nat.add_mul]; omega
theorem rcs_one {α : Type} {r : Rp α} {S : SH} : ∀ {xs : List α} {cs : List Value}, rcs r S cs xs → ∀ c ∈ cs, c.oneCell' = true
  | [], _, k, c, hc => by rw [show _ = _ from k] at hc; cases hc
  | x :: xs, _, ⟨a, b, e, h1, h2⟩, c, hc => by
    rw [e] at hc
    rcases List.mem_append.1 hc with h | h
    · exact r.one h1 c h
    · exact rcs_one h2 c h
theorem rcs_append {α : Type} {r : Rp α} {S : SH} : ∀ {xs ys : List α} {cs ds : List Value}, rcs r S cs xs → rcs r S ds ys → rcs r S (cs ++ ds) (xs ++ ys)
  | [], _, _, _, k, h => by rw [show _ = _ from k]; exact h
  | _ :: _, _, _, _, ⟨a, b, e, h1, h2⟩, h => ⟨a, _, by rw [e, List.append_assoc], h1, rcs_append h2 h⟩
theorem rcs_split {α : Type} {r : Rp α} {S : SH} : ∀ {xs ys : List α} {cs : List Value}, rcs r S cs (xs ++ ys) →
    rcs r S (cs.take (xs.length * r.sz)) xs ∧ rcs r S (cs.drop (xs.length * r.sz)) ys
  | [], _, _, k => by simp [rcs]; exact k
  | x :: xs, ys, cs, ⟨a, b, e, h1, h2⟩ => by
    have hl := r.len h1
    have ih := rcs_split h2
    have e1 : (x :: xs).length * r.sz = a.length + xs.length * r.sz := by rw [hl, List.length_cons, Nat.add_mul]; omega
    rw [e, e1, List.take_length_add_append, List.drop_length_add_append]
    exact ⟨⟨a, _, rfl, h1, ih.1⟩, ih.2⟩
theorem rcs_single {α : Type} {r : Rp α} {S : SH} {cs : List Value} {x : α} : rcs r S cs [x] ↔ r.rc S cs x := by
  constructor
  · rintro ⟨a, b, rfl, h, hb⟩
    rw [show b = [] from hb, List.append_nil]; exact h
  · intro h; exact ⟨cs, [], by simp, h, rfl⟩
/-- The element at a place. -/
theorem rcs_get {α : Type} {r : Rp α} {S : SH} {xs : List α} {cs : List Value} (h : rcs r S cs xs) {i : Nat} {x : α} (hx : xs[i]? = some x) :
    r.rc S ((cs.drop (i * r.sz)).take r.sz) x := by
  have hi : i < xs.length := (List.getElem?_eq_some_iff.1 hx).1
  have e : xs = xs.take i ++ (x :: xs.drop (i + 1)) := by
    have := List.getElem?_eq_some_iff.1 hx
    rw [← this.2, ← List.drop_eq_getElem_cons hi, List.take_append_drop]
  have hl : (xs.take i).length = i := by simp; omega
  rw [e] at h
  have h2 := (rcs_split h).2
  rw [hl] at h2
  obtain ⟨a, b, e2, h3, _⟩ := h2
  rw [e2, ← r.len h3, List.take_left]
  exact h3

/-- A slice that no one writes any more. -/
def slArr {α : Type} (r : Rp α) (S : SH) (a : Option Addr) (xs : List α) : Prop :=
  xs = [] ∨ ∃ b off c E fr, a = some ⟨b, off, none⟩ ∧ S b = some (.cells c E fr) ∧ rcs r S ((c.toList.drop off).take (xs.length * r.sz)) xs
def rSl {α : Type} (r : Rp α) : Rp (List α) where
  sz := 1
  agg := false
  rc := fun S cs xs => ∃ a cap, cs = [.slice a xs.length cap] ∧ xs.length ≤ cap ∧ cap ≤ maxLen ∧ slArr r S a xs
  mono := fun h ⟨a, cap, e, h1, h2, h3⟩ => ⟨a, cap, e, h1, h2, h3.imp id fun ⟨b, off, c, E, fr, e1, e2, e3⟩ => by
    obtain ⟨o', h4, h5⟩ := h _ _ e2
    obtain ⟨c', rfl, h6⟩ := ole_part h5 (rcs_len e3)
    exact ⟨b, off, c', E, fr, e1, h4, by rw [h6]; exact rcs_mono h e3⟩⟩
  len := fun ⟨a, cap, e, _⟩ => by rw [e]; rfl
  one := fun ⟨a, cap, e, _⟩ c hc => by rw [e] at hc; simp at hc; subst hc; rfl
  sc := fun _ => rfl
theorem tSl_iff {α : Type} {r : Rp α} {xs : List α} {S : SH} {v : Value} : (tD (rSl r) xs).p S v ↔ ∃ a cap, v = .slice a xs.length cap ∧ xs.length ≤ cap ∧ cap ≤ maxLen ∧ slArr r S a xs := by
  constructor
  · rintro ⟨cs, rfl, a, cap, rfl, h⟩; exact ⟨a, cap, rfl, h⟩
  · rintro ⟨a, cap, rfl, h⟩; exact ⟨_, rfl, a, cap, rfl, h⟩
theorem tSl_nil {α : Type} {r : Rp α} {S : SH} : (tD (rSl r) []).p S (.slice none 0 0) := tSl_iff.2 ⟨none, 0, rfl, Nat.le_refl _, Nat.zero_le _, .inl rfl⟩

/-- A pointer to data that no one writes any more. -/
def tPtr {α : Type} (r : Rp α) (x : α) : Ty where
  p := fun S v => ∃ b off c E fr, v = .pointer (some ⟨b, off, none⟩) ∧ S b = some (.cells c E fr) ∧ r.rc S ((c.toList.drop off).take r.sz) x
  mono := fun h ⟨b, off, c, E, fr, e1, e2, e3⟩ => by
    obtain ⟨o', h4, h5⟩ := h _ _ e2
    obtain ⟨c', rfl, h6⟩ := ole_part h5 (r.len e3)
    exact ⟨b, off, c', E, fr, e1, h4, by rw [h6]; exact r.mono h e3⟩

/-! ### Worlds -/
def Sat (w : World) (S : SH) : Prop := ∀ b o, S b = some o → ∃ o', w.heap[b]? = some o' ∧ ole o o'
theorem Sat.lt {w : World} {S : SH} (h : Sat w S) {b : Nat} {o : Obj} (k : S b = some o) : b < w.heap.size := let ⟨_, h1, _⟩ := h b o k; (Array.getElem?_eq_some_iff.1 h1).1
/-- Settled cells, as they lie in the world. -/
theorem Sat.part {w : World} {S : SH} (h : Sat w S) {b : Nat} {c : Array Value} {E : TypeId} {fr : Nat × Nat} (k : S b = some (.cells c E fr)) {off n : Nat} (hl : ((c.toList.drop off).take n).length = n) :
    ∃ c', w.heap[b]? = some (.cells c' E fr) ∧ (c'.toList.drop off).take n = (c.toList.drop off).take n := by
  obtain ⟨o', h1, h2⟩ := h b _ k
  obtain ⟨c', rfl, h3⟩ := ole_part h2 hl
  exact ⟨c', h1, h3⟩
theorem Sat.same {w w' : World} {S : SH} (h : Sat w S) (k : ∀ b o, S b = some o → w'.heap[b]? = w.heap[b]?) : Sat w' S := fun b o e => by rw [k b o e]; exact h b o e

/-- Blocks that a step may touch: none. -/
def noB : Nat → Prop := fun _ => False
/-- From one world to a later one: what lay there stands, but for the blocks of B. -/
structure Ext (B : Nat → Prop) (w : World) (S : SH) (w' : World) (S' : SH) : Prop where
  os : w'.os = w.os
  tape : w'.tape = w.tape
  output : w'.output = w.output
  drawn : w.drawn ≤ w'.drawn
  size : w.heap.size ≤ w'.heap.size
  heap : ∀ k, k < w.heap.size → ¬ B k → w'.heap[k]? = w.heap[k]?
  keep : SH.le S S'
  old : ∀ k, k < w.heap.size → ¬ B k → S' k = S k
theorem Ext.refl (B : Nat → Prop) (w : World) (S : SH) : Ext B w S w S := ⟨rfl, rfl, rfl, Nat.le_refl _, Nat.le_refl _, fun _ _ _ => rfl, SH.le_refl _, fun _ _ _ => rfl⟩
theorem Ext.trans {B : Nat → Prop} {w w' w'' : World} {S S' S'' : SH} (h : Ext B w S w' S') (k : Ext B w' S' w'' S'') : Ext B w S w'' S'' :=
  ⟨k.os.trans h.os, k.tape.trans h.tape, k.output.trans h.output, Nat.le_trans h.drawn k.drawn, Nat.le_trans h.size k.size,
   fun i hi hb => (k.heap i (Nat.lt_of_lt_of_le hi h.size) hb).trans (h.heap i hi hb), SH.le_trans h.keep k.keep,
   fun i hi hb => (k.old i (Nat.lt_of_lt_of_le hi h.size) hb).trans (h.old i hi hb)⟩
/-- A step that may touch the blocks of C: those are new, or of B. -/
theorem Ext.step {B C : Nat → Prop} {w w' w'' : World} {S S' S'' : SH} (h : Ext B w S w' S') (k : Ext C w' S' w'' S'') (hC : ∀ b, C b → w.heap.size ≤ b ∨ B b) : Ext B w S w'' S'' :=
  ⟨k.os.trans h.os, k.tape.trans h.tape, k.output.trans h.output, Nat.le_trans h.drawn k.drawn, Nat.le_trans h.size k.size,
   fun i hi hb => (k.heap i (Nat.lt_of_lt_of_le hi h.size) (fun hc => (hC i hc).elim (fun h => by omega) hb)).trans (h.heap i hi hb), SH.le_trans h.keep k.keep,
   fun i hi hb => (k.old i (Nat.lt_of_lt_of_le hi h.size) (fun hc => (hC i hc).elim (fun h => by omega) hb)).trans (h.old i hi hb)⟩
theorem Ext.more {B C : Nat → Prop} {w w' : World} {S S' : SH} (h : Ext B w S w' S') (k : ∀ b, B b → C b) : Ext C w S w' S' :=
  ⟨h.os, h.tape, h.output, h.drawn, h.size, fun i hi hb => h.heap i hi (fun h => hb (k i h)), h.keep, fun i hi hb => h.old i hi (fun h => hb (k i h))⟩
theorem Ext.step0 {B : Nat → Prop} {w w' w'' : World} {S S' S'' : SH} (h : Ext B w S w' S') (k : Ext noB w' S' w'' S'') : Ext B w S w'' S'' := h.step k fun _ hb => hb.elim

/-! ### What a call has of its own -/
/-- Something that is said of blocks that are not settled; a step that leaves them alone leaves it true. -/
structure OE where
  fp : Nat → Prop
  p : World → SH → Prop
  here : ∀ {w S}, p w S → ∀ k, fp k → k < w.heap.size
  kept : ∀ {C w w' S S'}, p w S → Ext C w S w' S' → (∀ k, fp k → ¬ C k) → p w' S'
def OE.holds (e : OE) (base : Nat) (B : Nat → Prop) (w : World) (S : SH) : Prop := e.p w S ∧ ∀ k, e.fp k → base ≤ k ∨ B k
def OE.apart (e f : OE) : Prop := ∀ b, e.fp b → ¬ f.fp b
def Own (base : Nat) (B : Nat → Prop) (w : World) (S : SH) : List OE → Prop
  | [] => True
  | e :: O => e.holds base B w S ∧ (∀ f ∈ O, e.apart f) ∧ Own base B w S O
theorem OE.holds_ext {e : OE} {base : Nat} {B C : Nat → Prop} {w w' : World} {S S' : SH} (h : e.holds base B w S) (k : Ext C w S w' S') (hC : ∀ b, e.fp b → ¬ C b) : e.holds base B w' S' := ⟨e.kept h.1 k hC, h.2⟩
theorem Own.ext {base : Nat} {B C : Nat → Prop} {w w' : World} {S S' : SH} (k : Ext C w S w' S') : ∀ {O : List OE}, Own base B w S O → (∀ e ∈ O, ∀ b, e.fp b → ¬ C b) → Own base B w' S' O
  | [], _, _ => trivial
  | e :: _, ⟨h1, h2, h3⟩, hC => ⟨OE.holds_ext h1 k (hC e (List.mem_cons_self ..)), h2, Own.ext k h3 fun f hf => hC f (List.mem_cons_of_mem _ hf)⟩
theorem Own.ext0 {base : Nat} {B : Nat → Prop} {w w' : World} {S S' : SH} (k : Ext noB w S w' S') {O : List OE} (h : Own base B w S O) : Own base B w' S' O :=
  h.ext k fun _ _ _ _ hb => hb
theorem Own.mem {base : Nat} {B : Nat → Prop} {w : World} {S : SH} : ∀ {O : List OE}, Own base B w S O → ∀ e ∈ O, e.holds base B w S
  | _ :: _, ⟨h1, _, _⟩, _, .head _ => h1
  | _ :: _, ⟨_, _, h3⟩, _, .tail _ hm => Own.mem h3 _ hm

/-! ### What the slots hold -/
abbrev Ctx := List (Nat × Ty)
def look : Ctx → Nat → Option Ty
  | [], _ => none
  | (k, t) :: G, j => bif Nat.beq k j then some t else look G j
/-- A frame: how many slots; what waits at its end. -/
structure Fr where
  n : Nat
  ds : List Deferred
structure Facts (N : Fr) (S : SH) (a : Act) (G : Ctx) : Prop where
  size : a.tmps.size = N.n
  defers : a.defers = N.ds
  at_ : ∀ k t, look G k = some t → t.p S (a.tmps.getD k undef)
theorem Facts.mono {N : Fr} {S S' : SH} {a : Act} {G : Ctx} (h : Facts N S a G) (k : SH.le S S') : Facts N S' a G := ⟨h.size, h.defers, fun j t e => t.mono k (h.at_ j t e)⟩
theorem Facts.sub {N : Fr} {S : SH} {a : Act} {G G' : Ctx} (h : Facts N S a G) (k : ∀ j t, look G' j = some t → look G j = some t) : Facts N S a G' := ⟨h.size, h.defers, fun j t e => h.at_ j t (k j t e)⟩
theorem Facts.put {N : Fr} {S : SH} {a : Act} {G : Ctx} (h : Facts N S a G) {d : Nat} (hd : Nat.blt d N.n = true) {v : Value} {t : Ty} (hv : t.p S v) : Facts N S (a.put (some d) v) ((d, t) :: G) := by
  have hd' : d < N.n := by simpa [Nat.blt_eq] using hd
  refine ⟨by simp [Act.put, h.size], h.defers, fun j u e => ?_⟩
  unfold look at e
  by_cases hj : d = j
  · subst hj
    have e' : t = u := by simpa using e
    rw [e'] at hv
    simp [Act.put, Array.getD_eq_getD_getElem?, h.size, hd', hv]
  · have hb : Nat.beq d j = false := by cases hh : Nat.beq d j with
      | false => rfl
      | true => exact absurd (Nat.eq_of_beq_eq_true hh) hj
    rw [hb] at e
    have := h.at_ j u e
    simpa [Act.put, Array.getD_eq_getD_getElem?, Array.getElem?_setIfInBounds, hj] using this
/-- A list of facts, each of which stands in the other one. -/
def subl : Ctx → Ctx → Prop
  | [], _ => True
  | (k, t) :: G', G => look G k = some t ∧ subl G' G
theorem subl_look : ∀ {G' G : Ctx}, subl G' G → ∀ j t, look G' j = some t → look G j = some t
  | (k, t) :: G', G, ⟨h1, h2⟩, j, u, e => by
    unfold look at e
    by_cases hb : Nat.beq k j = true
    · rw [hb] at e
      have := Nat.eq_of_beq_eq_true hb
      subst this
      simp only [cond_true] at e
      rw [← e]; exact h1
    · rw [Bool.not_eq_true] at hb
      rw [hb] at e
      exact subl_look h2 j u e

def HasTy (N : Fr) (G : Ctx) (x : Operand) (t : Ty) : Prop := ∀ S a, Facts N S a G → t.p S (a.eval x)
theorem ht {N : Fr} {G : Ctx} {k : Nat} {t : Ty} (h : look G k = some t) : HasTy N G (.tmp k) t := fun _ _ hF => hF.at_ k t h
theorem hI {N : Fr} {G : Ctx} {k : IntKind} {n : Int} : HasTy N G (.const (.int k n)) (tD (rI k) n) := fun _ _ _ => tI_iff.2 rfl
theorem hB {N : Fr} {G : Ctx} {b : Bool} : HasTy N G (.const (.bool b)) (tD rB b) := fun _ _ _ => tB_iff.2 rfl
theorem hS {N : Fr} {G : Ctx} {s : Array UInt8} : HasTy N G (.const (.string ⟨s⟩)) (tD rS s.toList) := fun _ _ _ => tS_iff.2 rfl
theorem hNil {N : Fr} {G : Ctx} {α : Type} {r : Rp α} : HasTy N G (.const (.slice none 0 0)) (tD (rSl r) []) := fun _ _ _ => tSl_nil
theorem hV {N : Fr} {G : Ctx} {v : Value} : HasTy N G (.const v) (tV v) := fun _ _ _ => rfl
end Go.Proofs.Ytchjhcgkfglgiaa
