/- Facts of this claim: W1, W49, W2, W3, W4, W5, W6, W7, W8, W9, W10, W11. -/
import Derived.WalkKit
import Derived.Orders
import Derived.Shelf.Unicode.CaseTo
import Derived.Shelf.Unicode.DecodeSlow
import Derived.Lone
import Derived.RunT
import Derived.Calls
import Derived.RangeFuncIn
import Derived.TacticsIn
import Derived.OrdersIn
import Derived.LoopIn
import Derived.Laws.AppendOwn
import Derived.Deep.Upon
import Derived.Lib.AppendStr
import Derived.IntWalk
namespace Go.Proofs.YtegigakgcnhiaaaGreatDoor
open Go

def ole : Obj → Obj → Prop
 | .cells c E fr, o' => ∃ d : List Value, o' = .cells (c.toList ++ d).toArray E fr
 | o, o' => o' = o
theorem ib (o : Obj) : ole o o := by
 cases o <;> first | rfl | exact ⟨[], by simp⟩
theorem ole_trans {o o' o'' : Obj} (h : ole o o') (k : ole o' o'') : ole o o'' := by
 cases o with
 | cells c E fr =>
  obtain ⟨d, rfl⟩ := h
  obtain ⟨d', rfl⟩ := k
  exact ⟨d ++ d', by simp⟩
 | _ => cases h; exact k
theorem ole_part {c : Array Value} {E : TypeId} {fr : Nat × Nat} {o' : Obj} (h : ole (.cells c E fr) o') {off n : Nat} (hl : ((c.toList.drop off).take n).length = n) :
  ∃ c', o' = .cells c' E fr ∧ (c'.toList.drop off).take n = (c.toList.drop off).take n := by
 obtain ⟨d, rfl⟩ := h
 refine ⟨_, rfl, ?_⟩
 by_cases hn : n = 0
 ·subst hn; simp
 simp only [List.length_take, List.length_drop] at hl
 rw [List.drop_append_of_le_length (by omega), List.take_append_of_le_length (by simp only [List.length_drop]; omega)]
abbrev SH := Nat → Option Obj
def gy (S S' : SH) : Prop := ∀ b o, S b = some o → ∃ o', S' b = some o' ∧ ole o o'
theorem SH.le_refl (S : SH) : gy S S := fun _ o h => ⟨o, h, ib o⟩
theorem SH.le_trans {S S' S'' : SH} (h : gy S S') (k : gy S' S'') : gy S S'' := fun b o e => let ⟨o', h1, h2⟩ := h b o e; let ⟨o'', h3, h4⟩ := k b o' h1; ⟨o'', h3, ole_trans h2 h4⟩
theorem SH.le_of {S S' : SH} (h : ∀ b o, S b = some o → S' b = some o) : gy S S' := fun b o e => ⟨o, h b o e, ib o⟩

structure Ty where
 p : SH → Value → Prop
 mono : ∀ {S S' : SH} {v : Value}, gy S S' → p S v → p S' v

structure Rp (α : Type) where
 sz : Nat
 agg : Bool
 rc : SH → List Value → α → Prop
 mono : ∀ {S S' : SH} {cs : List Value} {x : α}, gy S S' → rc S cs x → rc S' cs x
 len : ∀ {S : SH} {cs : List Value} {x : α}, rc S cs x → cs.length = sz
 one : ∀ {S : SH} {cs : List Value} {x : α}, rc S cs x → ∀ c ∈ cs, c.oneCell' = true
 sc : agg = false → sz = 1

def Rp.val {α : Type} (r : Rp α) (cs : List Value) : Value := if r.agg then .agg cs.toArray else cs.headD undef

def tD {α : Type} (r : Rp α) (x : α) : Ty where
 p := fun S v => ∃ cs, v = r.val cs ∧ r.rc S cs x
 mono := fun h ⟨cs, e, k⟩ => ⟨cs, e, r.mono h k⟩

def tAny : Ty where
 p := fun _ _ => True
 mono := fun _ _ => trivial

def tV (u : Value) : Ty where
 p := fun _ v => v = u
 mono := fun _ h => h

def rI (k : IntKind) : Rp Int where
 sz := 1
 agg := false
 rc := fun _ cs x => cs = [.int k x]
 mono := fun _ h => h
 len := fun h => by rw [h]; rfl
 one := fun h c hc => by subst h; simp at hc; subst hc; rfl
 sc := fun _ => rfl

def rB : Rp Bool where
 sz := 1
 agg := false
 rc := fun _ cs x => cs = [.bool x]
 mono := fun _ h => h
 len := fun h => by rw [h]; rfl
 one := fun h c hc => by subst h; simp at hc; subst hc; rfl
 sc := fun _ => rfl

abbrev Str := List UInt8
def rS : Rp Str where
 sz := 1
 agg := false
 rc := fun _ cs x => cs = [.string ⟨x.toArray⟩]
 mono := fun _ h => h
 len := fun h => by rw [h]; rfl
 one := fun h c hc => by subst h; simp at hc; subst hc; rfl
 sc := fun _ => rfl

theorem bD {k : IntKind} {n : Int} {S : SH} {v : Value} : (tD (rI k) n).p S v ↔ v = .int k n := by
 constructor
 ·rintro ⟨cs, rfl, h⟩; have h' : cs = [.int k n] := h; subst h'; rfl
 ·rintro rfl; exact ⟨[.int k n], rfl, rfl⟩
theorem db {b : Bool} {S : SH} {v : Value} : (tD rB b).p S v ↔ v = .bool b := by
 constructor
 ·rintro ⟨cs, rfl, h⟩; have h' : cs = [.bool b] := h; subst h'; rfl
 ·rintro rfl; exact ⟨[.bool b], rfl, rfl⟩
theorem iS {s : Str} {S : SH} {v : Value} : (tD rS s).p S v ↔ v = .string ⟨s.toArray⟩ := by
 constructor
 ·rintro ⟨cs, rfl, h⟩; have h' : cs = [.string ⟨s.toArray⟩] := h; subst h'; rfl
 ·rintro rfl; exact ⟨[.string ⟨s.toArray⟩], rfl, rfl⟩

def rcs {α : Type} (r : Rp α) (S : SH) : List Value → List α → Prop
 | cs, [] => cs = []
 | cs, x :: xs => ∃ a b, cs = a ++ b ∧ r.rc S a x ∧ rcs r S b xs
theorem iV {α : Type} {r : Rp α} {S S' : SH} (h : gy S S') : ∀ {xs : List α} {cs : List Value}, rcs r S cs xs → rcs r S' cs xs
 | [], _, k => k
 | _ :: _, _, ⟨a, b, e, h1, h2⟩ => ⟨a, b, e, r.mono h h1, iV h h2⟩
theorem gk {α : Type} {r : Rp α} {S : SH} : ∀ {xs : List α} {cs : List Value}, rcs r S cs xs → cs.length = xs.length * r.sz
 | [], _, k => by rw [show _ = _ from k]; simp
 | x :: xs, _, ⟨a, b, e, h1, h2⟩ => by rw [e, List.length_append, r.len h1, gk h2, List.length_cons, Nat.add_mul]; omega
theorem rcs_one {α : Type} {r : Rp α} {S : SH} : ∀ {xs : List α} {cs : List Value}, rcs r S cs xs → ∀ c ∈ cs, c.oneCell' = true
 | [], _, k, c, hc => by rw [show _ = _ from k] at hc; cases hc
 | x :: xs, _, ⟨a, b, e, h1, h2⟩, c, hc => by
  rw [e] at hc
  rcases List.mem_append.1 hc with h | h
  ·exact r.one h1 c h
  ·exact rcs_one h2 c h
theorem rcs_append {α : Type} {r : Rp α} {S : SH} : ∀ {xs ys : List α} {cs ds : List Value}, rcs r S cs xs → rcs r S ds ys → rcs r S (cs ++ ds) (xs ++ ys)
 | [], _, _, _, k, h => by rw [show _ = _ from k]; exact h
 | _ :: _, _, _, _, ⟨a, b, e, h1, h2⟩, h => ⟨a, _, by rw [e, List.append_assoc], h1, rcs_append h2 h⟩
theorem rcs_split {α : Type} {r : Rp α} {S : SH} : ∀ {xs ys : List α} {cs : List Value}, rcs r S cs (xs ++ ys) →
  rcs r S (cs.take (xs.length * r.sz)) xs ∧ rcs r S (cs.drop (xs.length * r.sz)) ys
 | [], _, _, k => by simp [rcs]; exact k
 | x :: xs, ys, cs, ⟨a, b, e, h1, h2⟩ => by
  have hl := r.len h1
  have ih := rcs_split h2
  have e1 : (x :: xs).length * r.sz = a.length + xs.length * r.sz := by rw [hl, List.length_cons, Nat.add_mul]; omega
  rw [e, e1, List.take_length_add_append, List.drop_length_add_append]
  exact ⟨⟨a, _, rfl, h1, ih.1⟩, ih.2⟩
theorem rcs_single {α : Type} {r : Rp α} {S : SH} {cs : List Value} {x : α} : rcs r S cs [x] ↔ r.rc S cs x := by
 constructor
 ·rintro ⟨a, b, rfl, h, hb⟩
  rw [show b = [] from hb, List.append_nil]; exact h
 ·intro h; exact ⟨cs, [], by simp, h, rfl⟩
theorem rcs_get {α : Type} {r : Rp α} {S : SH} {xs : List α} {cs : List Value} (h : rcs r S cs xs) {i : Nat} {x : α} (hx : xs[i]? = some x) :
  r.rc S ((cs.drop (i * r.sz)).take r.sz) x := by
 have hi : i < xs.length := (List.getElem?_eq_some_iff.1 hx).1
 have e : xs = xs.take i ++ (x :: xs.drop (i + 1)) := by
  have := List.getElem?_eq_some_iff.1 hx
  rw [← this.2, ← List.drop_eq_getElem_cons hi, List.take_append_drop]
 have hl : (xs.take i).length = i := by simp; omega
 rw [e] at h
 have h2 := (rcs_split h).2
 rw [hl] at h2
 obtain ⟨a, b, e2, h3, _⟩ := h2
 rw [e2, ← r.len h3, List.take_left]
 exact h3

def slArr {α : Type} (r : Rp α) (S : SH) (a : Option Addr) (xs : List α) : Prop :=
 xs = [] ∨ ∃ b off c E fr, a = some ⟨b, off, none⟩ ∧ S b = some (.cells c E fr) ∧ rcs r S ((c.toList.drop off).take (xs.length * r.sz)) xs
def rSl {α : Type} (r : Rp α) : Rp (List α) where
 sz := 1
 agg := false
 rc := fun S cs xs => ∃ a cap, cs = [.slice a xs.length cap] ∧ xs.length ≤ cap ∧ cap ≤ maxLen ∧ slArr r S a xs
 mono := fun h ⟨a, cap, e, h1, h2, h3⟩ => ⟨a, cap, e, h1, h2, h3.imp id fun ⟨b, off, c, E, fr, e1, e2, e3⟩ => by
  obtain ⟨o', h4, h5⟩ := h _ _ e2
  obtain ⟨c', rfl, h6⟩ := ole_part h5 (gk e3)
  exact ⟨b, off, c', E, fr, e1, h4, by rw [h6]; exact iV h e3⟩⟩
 len := fun ⟨a, cap, e, _⟩ => by rw [e]; rfl
 one := fun ⟨a, cap, e, _⟩ c hc => by rw [e] at hc; simp at hc; subst hc; rfl
 sc := fun _ => rfl
theorem gb {α : Type} {r : Rp α} {xs : List α} {S : SH} {v : Value} : (tD (rSl r) xs).p S v ↔ ∃ a cap, v = .slice a xs.length cap ∧ xs.length ≤ cap ∧ cap ≤ maxLen ∧ slArr r S a xs := by
 constructor
 ·rintro ⟨cs, rfl, a, cap, rfl, h⟩; exact ⟨a, cap, rfl, h⟩
 ·rintro ⟨a, cap, rfl, h⟩; exact ⟨_, rfl, a, cap, rfl, h⟩
theorem tSl_nil {α : Type} {r : Rp α} {S : SH} : (tD (rSl r) []).p S (.slice none 0 0) := gb.2 ⟨none, 0, rfl, Nat.le_refl _, Nat.zero_le _, .inl rfl⟩

def aF {α : Type} (r : Rp α) (x : α) : Ty where
 p := fun S v => ∃ b off c E fr, v = .pointer (some ⟨b, off, none⟩) ∧ S b = some (.cells c E fr) ∧ r.rc S ((c.toList.drop off).take r.sz) x
 mono := fun h ⟨b, off, c, E, fr, e1, e2, e3⟩ => by
  obtain ⟨o', h4, h5⟩ := h _ _ e2
  obtain ⟨c', rfl, h6⟩ := ole_part h5 (r.len e3)
  exact ⟨b, off, c', E, fr, e1, h4, by rw [h6]; exact r.mono h e3⟩

def glob : List (Nat × List Value) := [(0, [.string ⟨([98, 111, 111, 108] : List UInt8).toArray⟩, .int .i64 (1), .string ⟨([105, 110, 116] : List UInt8).toArray⟩, .int .i64 (2), .string ⟨([116, 101, 120, 116] : List UInt8).toArray⟩, .int .i64 (3)]), (1, [.string ⟨([83, 69, 76, 69, 67, 84] : List UInt8).toArray⟩, .string ⟨([68, 73, 83, 84, 73, 78, 67, 84] : List UInt8).toArray⟩, .string ⟨([70, 82, 79, 77] : List UInt8).toArray⟩, .string ⟨([76, 69, 70, 84] : List UInt8).toArray⟩, .string ⟨([74, 79, 73, 78] : List UInt8).toArray⟩, .string ⟨([79, 78] : List UInt8).toArray⟩, .string ⟨([87, 72, 69, 82, 69] : List UInt8).toArray⟩, .string ⟨([71, 82, 79, 85, 80] : List UInt8).toArray⟩, .string ⟨([66, 89] : List UInt8).toArray⟩, .string ⟨([72, 65, 86, 73, 78, 71] : List UInt8).toArray⟩, .string ⟨([85, 78, 73, 79, 78] : List UInt8).toArray⟩, .string ⟨([65, 76, 76] : List UInt8).toArray⟩, .string ⟨([79, 82, 68, 69, 82] : List UInt8).toArray⟩, .string ⟨([76, 73, 77, 73, 84] : List UInt8).toArray⟩, .string ⟨([65, 83, 67] : List UInt8).toArray⟩, .string ⟨([68, 69, 83, 67] : List UInt8).toArray⟩, .string ⟨([65, 83] : List UInt8).toArray⟩, .string ⟨([65, 78, 68] : List UInt8).toArray⟩, .string ⟨([79, 82] : List UInt8).toArray⟩, .string ⟨([78, 79, 84] : List UInt8).toArray⟩, .string ⟨([73, 83] : List UInt8).toArray⟩, .string ⟨([78, 85, 76, 76] : List UInt8).toArray⟩, .string ⟨([84, 82, 85, 69] : List UInt8).toArray⟩, .string ⟨([70, 65, 76, 83, 69] : List UInt8).toArray⟩, .string ⟨([67, 79, 85, 78, 84] : List UInt8).toArray⟩, .string ⟨([83, 85, 77] : List UInt8).toArray⟩, .string ⟨([77, 73, 78] : List UInt8).toArray⟩, .string ⟨([77, 65, 88] : List UInt8).toArray⟩])]
def tabP (w : World) : Prop := Lib.CaseVar 2 Lib.caseA w ∧ Lib.Utf8Tabs 4 5 w
structure Sat (w : World) (S : SH) : Prop where
 at_ : ∀ b o, S b = some o → ∃ o', w.heap[b]? = some o' ∧ ole o o'
 gl : ∀ p ∈ glob, ∃ c T fr, S p.1 = some (.cells c T fr) ∧ c.toList.take p.2.length = p.2
 tb : ∀ w' : World, (∀ b o, S b = some o → ∃ o', w'.heap[b]? = some o' ∧ ole o o') → tabP w'
instance {w : World} {S : SH} : CoeFun (Sat w S) (fun _ => ∀ b o, S b = some o → ∃ o', w.heap[b]? = some o' ∧ ole o o') := ⟨Sat.at_⟩
theorem Sat.tab {w : World} {S : SH} (h : Sat w S) : tabP w := h.tb w h.at_
theorem Sat.lt {w : World} {S : SH} (h : Sat w S) {b : Nat} {o : Obj} (k : S b = some o) : b < w.heap.size := let ⟨_, h1, _⟩ := h b o k; (Array.getElem?_eq_some_iff.1 h1).1
theorem Sat.part {w : World} {S : SH} (h : Sat w S) {b : Nat} {c : Array Value} {E : TypeId} {fr : Nat × Nat} (k : S b = some (.cells c E fr)) {off n : Nat} (hl : ((c.toList.drop off).take n).length = n) :
  ∃ c', w.heap[b]? = some (.cells c' E fr) ∧ (c'.toList.drop off).take n = (c.toList.drop off).take n := by
 obtain ⟨o', h1, h2⟩ := h b _ k
 obtain ⟨c', rfl, h3⟩ := ole_part h2 hl
 exact ⟨c', h1, h3⟩
theorem Sat.same {w w' : World} {S : SH} (h : Sat w S) (k : ∀ b o, S b = some o → w'.heap[b]? = w.heap[b]?) : Sat w' S := ⟨fun b o e => by rw [k b o e]; exact h b o e, h.gl, h.tb⟩

def noB : Nat → Prop := fun _ => False
structure Ext (B : Nat → Prop) (w : World) (S : SH) (w' : World) (S' : SH) : Prop where
 os : w'.os = w.os
 tape : w'.tape = w.tape
 output : w'.output = w.output
 drawn : w.drawn ≤ w'.drawn
 size : w.heap.size ≤ w'.heap.size
 heap : ∀ k, k < w.heap.size → ¬ B k → w'.heap[k]? = w.heap[k]?
 keep : gy S S'
 old : ∀ k, k < w.heap.size → ¬ B k → S' k = S k
theorem Ext.refl (B : Nat → Prop) (w : World) (S : SH) : Ext B w S w S := ⟨rfl, rfl, rfl, Nat.le_refl _, Nat.le_refl _, fun _ _ _ => rfl, SH.le_refl _, fun _ _ _ => rfl⟩
theorem Ext.trans {B : Nat → Prop} {w w' w'' : World} {S S' S'' : SH} (h : Ext B w S w' S') (k : Ext B w' S' w'' S'') : Ext B w S w'' S'' :=
 ⟨k.os.trans h.os, k.tape.trans h.tape, k.output.trans h.output, Nat.le_trans h.drawn k.drawn, Nat.le_trans h.size k.size,
  fun i hi hb => (k.heap i (Nat.lt_of_lt_of_le hi h.size) hb).trans (h.heap i hi hb), SH.le_trans h.keep k.keep,
  fun i hi hb => (k.old i (Nat.lt_of_lt_of_le hi h.size) hb).trans (h.old i hi hb)⟩
theorem Ext.step {B C : Nat → Prop} {w w' w'' : World} {S S' S'' : SH} (h : Ext B w S w' S') (k : Ext C w' S' w'' S'') (hC : ∀ b, C b → w.heap.size ≤ b ∨ B b) : Ext B w S w'' S'' :=
 ⟨k.os.trans h.os, k.tape.trans h.tape, k.output.trans h.output, Nat.le_trans h.drawn k.drawn, Nat.le_trans h.size k.size,
  fun i hi hb => (k.heap i (Nat.lt_of_lt_of_le hi h.size) (fun hc => (hC i hc).elim (fun h => by omega) hb)).trans (h.heap i hi hb), SH.le_trans h.keep k.keep,
  fun i hi hb => (k.old i (Nat.lt_of_lt_of_le hi h.size) (fun hc => (hC i hc).elim (fun h => by omega) hb)).trans (h.old i hi hb)⟩
theorem Ext.more {B C : Nat → Prop} {w w' : World} {S S' : SH} (h : Ext B w S w' S') (k : ∀ b, B b → C b) : Ext C w S w' S' :=
 ⟨h.os, h.tape, h.output, h.drawn, h.size, fun i hi hb => h.heap i hi (fun h => hb (k i h)), h.keep, fun i hi hb => h.old i hi (fun h => hb (k i h))⟩
theorem Ext.step0 {B : Nat → Prop} {w w' w'' : World} {S S' S'' : SH} (h : Ext B w S w' S') (k : Ext noB w' S' w'' S'') : Ext B w S w'' S'' := h.step k fun _ hb => hb.elim

structure OE where
 fp : Nat → Prop
 p : World → SH → Prop
 here : ∀ {w S}, p w S → ∀ k, fp k → k < w.heap.size
 kept : ∀ {C w w' S S'}, p w S → Ext C w S w' S' → (∀ k, fp k → ¬ C k) → p w' S'
def OE.holds (e : OE) (base : Nat) (B : Nat → Prop) (w : World) (S : SH) : Prop := e.p w S ∧ ∀ k, e.fp k → base ≤ k ∨ B k
def OE.apart (e f : OE) : Prop := ∀ b, e.fp b → ¬ f.fp b
def Own (base : Nat) (B : Nat → Prop) (w : World) (S : SH) : List OE → Prop
 | [] => True
 | e :: O => e.holds base B w S ∧ (∀ f ∈ O, e.apart f) ∧ Own base B w S O
theorem OE.holds_ext {e : OE} {base : Nat} {B C : Nat → Prop} {w w' : World} {S S' : SH} (h : e.holds base B w S) (k : Ext C w S w' S') (hC : ∀ b, e.fp b → ¬ C b) : e.holds base B w' S' := ⟨e.kept h.1 k hC, h.2⟩
theorem Own.ext {base : Nat} {B C : Nat → Prop} {w w' : World} {S S' : SH} (k : Ext C w S w' S') : ∀ {O : List OE}, Own base B w S O → (∀ e ∈ O, ∀ b, e.fp b → ¬ C b) → Own base B w' S' O
 | [], _, _ => trivial
 | e :: _, ⟨h1, h2, h3⟩, hC => ⟨OE.holds_ext h1 k (hC e (List.mem_cons_self ..)), h2, Own.ext k h3 fun f hf => hC f (List.mem_cons_of_mem _ hf)⟩
theorem Own.ext0 {base : Nat} {B : Nat → Prop} {w w' : World} {S S' : SH} (k : Ext noB w S w' S') {O : List OE} (h : Own base B w S O) : Own base B w' S' O :=
 h.ext k fun _ _ _ _ hb => hb
theorem Own.mem {base : Nat} {B : Nat → Prop} {w : World} {S : SH} : ∀ {O : List OE}, Own base B w S O → ∀ e ∈ O, e.holds base B w S
 | _ :: _, ⟨h1, _, _⟩, _, .head _ => h1
 | _ :: _, ⟨_, _, h3⟩, _, .tail _ hm => Own.mem h3 _ hm

abbrev Ctx := List (Nat × Ty)
def look : Ctx → Nat → Option Ty
 | [], _ => none
 | (k, t) :: G, j => bif Nat.beq k j then some t else look G j
structure Fr where
 n : Nat
 ds : List Deferred
structure Facts (N : Fr) (S : SH) (a : Act) (G : Ctx) : Prop where
 size : a.tmps.size = N.n
 defers : a.defers = N.ds
 at_ : ∀ k t, look G k = some t → t.p S (a.tmps.getD k undef)
theorem Facts.mono {N : Fr} {S S' : SH} {a : Act} {G : Ctx} (h : Facts N S a G) (k : gy S S') : Facts N S' a G := ⟨h.size, h.defers, fun j t e => t.mono k (h.at_ j t e)⟩
theorem Facts.sub {N : Fr} {S : SH} {a : Act} {G G' : Ctx} (h : Facts N S a G) (k : ∀ j t, look G' j = some t → look G j = some t) : Facts N S a G' := ⟨h.size, h.defers, fun j t e => h.at_ j t (k j t e)⟩
theorem Facts.put {N : Fr} {S : SH} {a : Act} {G : Ctx} (h : Facts N S a G) {d : Nat} (hd : Nat.blt d N.n = true) {v : Value} {t : Ty} (hv : t.p S v) : Facts N S (a.put (some d) v) ((d, t) :: G) := by
 have hd' : d < N.n := by simpa [Nat.blt_eq] using hd
 refine ⟨by simp [Act.put, h.size], h.defers, fun j u e => ?_⟩
 unfold look at e
 by_cases hj : d = j
 ·subst hj
  have e' : t = u := by simpa using e
  rw [e'] at hv
  simp [Act.put, Array.getD_eq_getD_getElem?, h.size, hd', hv]
 ·have hb : Nat.beq d j = false := by cases hh : Nat.beq d j with
   | false => rfl
   | true => exact absurd (Nat.eq_of_beq_eq_true hh) hj
  rw [hb] at e
  have := h.at_ j u e
  simpa [Act.put, Array.getD_eq_getD_getElem?, Array.getElem?_setIfInBounds, hj] using this
def subl : Ctx → Ctx → Prop
 | [], _ => True
 | (k, t) :: G', G => look G k = some t ∧ subl G' G
theorem subl_look : ∀ {G' G : Ctx}, subl G' G → ∀ j t, look G' j = some t → look G j = some t
 | (k, t) :: G', G, ⟨h1, h2⟩, j, u, e => by
  unfold look at e
  by_cases hb : Nat.beq k j = true
  ·rw [hb] at e
   have := Nat.eq_of_beq_eq_true hb
   subst this
   simp only [cond_true] at e
   rw [← e]; exact h1
  ·rw [Bool.not_eq_true] at hb
   rw [hb] at e
   exact subl_look h2 j u e

def aA (N : Fr) (G : Ctx) (x : Operand) (t : Ty) : Prop := ∀ S a, Facts N S a G → t.p S (a.eval x)
theorem ht {N : Fr} {G : Ctx} {k : Nat} {t : Ty} (h : look G k = some t) : aA N G (.tmp k) t := fun _ _ hF => hF.at_ k t h
theorem hI {N : Fr} {G : Ctx} {k : IntKind} {n : Int} : aA N G (.const (.int k n)) (tD (rI k) n) := fun _ _ _ => bD.2 rfl
theorem hB {N : Fr} {G : Ctx} {b : Bool} : aA N G (.const (.bool b)) (tD rB b) := fun _ _ _ => db.2 rfl
theorem hS {N : Fr} {G : Ctx} {s : Array UInt8} : aA N G (.const (.string ⟨s⟩)) (tD rS s.toList) := fun _ _ _ => iS.2 rfl
theorem hNil {N : Fr} {G : Ctx} {α : Type} {r : Rp α} : aA N G (.const (.slice none 0 0)) (tD (rSl r) []) := fun _ _ _ => tSl_nil
theorem hV {N : Fr} {G : Ctx} {v : Value} : aA N G (.const v) (tV v) := fun _ _ _ => rfl
end Go.Proofs.YtegigakgcnhiaaaGreatDoor

namespace Go.Proofs.YtegigakgcnhiaaaGreatDoor
open Go

section
variable {P : Program}
def wOf {α : Type} : Result α → World
 | .ok _ w => w
 | .halt _ w => w
theorem freeze_drawn (w : World) (a : Addr) (n : Nat) : (w.freeze a n).drawn = w.drawn := by unfold World.freeze; split <;> rfl
theorem viewStore_drawn {w : World} {at_ : Addr} {u : TypeId} {k : Addr} {v : Value} {x : Bool} {r : World × List Addr} (h : w.viewStore P at_ u k v x = .ok r) : r.1.drawn = w.drawn := by
 unfold World.viewStore at h
 simp only [bind, Except.bind, pure, Except.pure, throw, throwThe, MonadExceptOf.throw] at h
 repeat' (split at h)
 all_goals first
  | (cases h; done)
  | (cases h; rfl)
theorem farStore_drawn {w : World} {a : Addr} {v : Value} {x : Bool} {r : World × List Addr} (h : w.farStore P a v x = .ok r) : r.1.drawn = w.drawn := by
 unfold World.farStore at h
 split at h
 ·split at h
  ·rename_i h2; cases h; exact viewStore_drawn h2
  ·cases h
 ·cases h
theorem ask_drawn {α : Type} : ∀ (a : Ask α) (w : World), w.drawn ≤ (w.ask a).2.drawn
 | .done a, w => Nat.le_refl _
 | .ask what range k, w => by
  unfold World.ask
  simp only
  split
  ·exact ask_drawn (k 0) w
  ·exact Nat.le_trans (Nat.le_succ _) (ask_drawn (k ((Question.extern what range).cut (w.tape w.drawn (Question.extern what range)))) { w with drawn := w.drawn + 1 })
theorem sys_drawn (w : World) (c : Sys) : w.drawn ≤ (w.sys c).2.drawn := by
 unfold World.sys
 have h := ask_drawn (Kernel.perform c w.os) w
 split
 ·exact Nat.le_refl _
 ·rename_i h2
  rw [h2] at h
  exact h
theorem cg {α : Type} : ∀ (s : Sem α) (w : World), w.drawn ≤ (wOf (s.run P w)).drawn
 | .pure a, w => Nat.le_refl _
 | .load m a k, w => by
  unfold Sem.run
  split
  ·exact cg _ w
  ·split
   ·exact cg _ w
   ·exact Nat.le_refl _
 | .store m a v k, w => by
  have key : w.drawn ≤ (wOf (match w.cell? a with
   | some _ => if w.frozen? a then .halt (.unsupported (.unsafePointer "a write to bytes that a string shares")) w else k.run P (w.setCell a v)
   | none => match w.farStore P a v (m == .atomic) with
    | .ok (w, _) => k.run P w
    | .error h => .halt h w)).drawn := by
   split
   ·split
    ·exact Nat.le_refl _
    ·exact cg k (w.setCell a v)
   ·split
    ·rename_i w' l h
     have := cg k w'
     rw [show w'.drawn = w.drawn from farStore_drawn h] at this
     exact this
    ·exact Nat.le_refl _
  cases v <;> first | exact Nat.le_refl _ | (simp only [Sem.run]; exact key)
 | .new o k, w => cg (k w.heap.size) { w with heap := w.heap.push o }
 | .shape r k, w => cg (k (w.shape? r)) w
 | .freeze a n k, w => by
  have := cg k (w.freeze a n)
  rw [freeze_drawn] at this
  exact this
 | .frozen a k, w => cg (k (w.frozen? a)) w
 | .getObj r k, w => by
  unfold Sem.run
  split
  ·exact Nat.le_refl _
  ·exact cg _ w
  ·exact Nat.le_refl _
 | .setObj r o k, w => by
  unfold Sem.run
  split
  ·exact Nat.le_refl _
  ·exact cg k { w with heap := w.heap.setIfInBounds r o }
  ·exact Nat.le_refl _
 | .choose q k, w => by
  unfold Sem.run
  split
  ·exact cg (k 0) w
  ·exact Nat.le_trans (Nat.le_succ _) (cg (k (q.cut (w.tape w.drawn q))) { w with drawn := w.drawn + 1 })
 | .sys c k, w => by
  exact Nat.le_trans (sys_drawn w c) (cg (k (w.sys c).1) (w.sys c).2)
 | .program k, w => cg (k P) w
 | .mark m k, w => cg k w
 | .halt h, w => Nat.le_refl _
theorem a8 {α : Type} {s : Sem α} {w w' : World} {x : α} (h : s.run P w = .ok x w') : w.drawn ≤ w'.drawn := by
 have := cg (P := P) s w
 rw [h] at this
 exact this
theorem eQ {α : Type} {s : Sem α} {w w' : World} {x : Halt} (h : s.run P w = .halt x w') : w.drawn ≤ w'.drawn := by
 have := cg (P := P) s w
 rw [h] at this
 exact this
theorem okT_drawn {α : Type} {s : Sem α} {w w' : World} {x : α} {es es' : Array Event} (h : s.runT P w es = (.ok x w', es')) : w.drawn ≤ w'.drawn :=
 a8 (P := P) (s := s) (x := x) (by rw [← Sem.runT_fst P s w es, h])
theorem haltT_drawn {α : Type} {s : Sem α} {w w' : World} {x : Halt} {es es' : Array Event} (h : s.runT P w es = (.halt x w', es')) : w.drawn ≤ w'.drawn :=
 eQ (P := P) (s := s) (x := x) (by rw [← Sem.runT_fst P s w es, h])
theorem waitingAt_drawn {rest : Rest} {cases : Array CommCase} {w w' : World} (h : waitingAt rest cases w = some w') : w'.drawn = w.drawn := by
 unfold waitingAt at h
 repeat' (split at h)
 all_goals (cases h; try rfl)
theorem communicate_drawn (rest : Rest) (gs : Array Goroutine) (i : Nat) (g : Goroutine) (cases : Array CommCase) (blocking : Bool)
  (shape : CommShape) (w : World) (m' : Machine) (h : (communicate P rest gs i g cases blocking shape w).1 = .next m') : w.drawn ≤ m'.world.drawn := by
 unfold communicate at h
 simp only [] at h
 repeat' first
  | (simp at h; done)
  | (simp only [Stepped.next.injEq] at h; subst h; (try dsimp only); exact Nat.le_refl _)
  | (simp only [Stepped.next.injEq] at h; subst h; (try dsimp only); exact a8 (by assumption))
  | (simp only [Stepped.next.injEq] at h; subst h; (try dsimp only); exact Nat.le_of_eq (waitingAt_drawn (by assumption)).symm)
  | (simp only [Stepped.next.injEq] at h; subst h; (try dsimp only); exact Nat.le_trans (a8 (by assumption)) (a8 (by assumption)))
  | (simp only [Stepped.next.injEq] at h; subst h; (try dsimp only); exact Nat.le_trans (a8 (by assumption)) (eQ (by assumption)))
  | split at h
theorem look_drawn (gs : Array Goroutine) (rest : Rest) (w : World) (m' : Machine)
  (h : Go.look P gs rest w = .next m') : w.drawn ≤ m'.world.drawn := by
 unfold Go.look at h
 simp only [] at h
 repeat' first
  | (simp at h; done)
  | (simp only [Stepped.next.injEq] at h; subst h; (try dsimp only); exact a8 (by assumption))
  | split at h
def gOK (d : Nat) : GStep → Prop
 | .go _ w _ => d ≤ w.drawn
 | .comm _ _ _ _ w _ => d ≤ w.drawn
 | .spawn _ _ w _ => d ≤ w.drawn
 | .count _ w _ => d ≤ w.drawn
 | .timer _ _ w _ => d ≤ w.drawn
 | .alone _ _ w _ => d ≤ w.drawn
 | .newcoro _ _ _ w _ => d ≤ w.drawn
 | .coroswitch _ _ _ w _ => d ≤ w.drawn
 | .collect _ w _ => d ≤ w.drawn
 | .watch _ w _ => d ≤ w.drawn
 | .ended _ _ _ => True
theorem gK {d : Nat} {es : Array Event} {s : GStep} (h : gOK d s) : gOK d (s.after es) := by cases s <;> exact h
theorem i5 {d e : Nat} {s : GStep} (h : gOK d s) (k : e ≤ d) : gOK e s := by
 cases s <;> first | exact Nat.le_trans k h | trivial
theorem endWith_ok (d : Nat) (w : World) (fd : Nat) (text : ByteArray) (o : Outcome) : gOK d (endWith w fd text o) := by
 unfold endWith
 repeat' split
 all_goals trivial
theorem dieOf_ok (fr : Frame) (bu : List ByteArray) (m : String) (whole : Bool) (w : World) : gOK w.drawn (dieOf fr bu m whole w) := Nat.le_refl _
theorem jx (fr : Frame) (m : String) (w : World) : gOK w.drawn (endThrow fr m w) := Nat.le_refl _
theorem endPrinting_ok (fr : Frame) (v : Value) (w : World) : gOK w.drawn (endPrinting P fr v w) := by
 unfold endPrinting
 simp only []
 split
 ·exact Nat.le_refl _
 ·trivial
theorem endFatal_ok (fr : Frame) (callers : List Frame) (dying : Option Dying) (m : String) (w : World) : gOK w.drawn (endFatal P fr callers dying m w) := by
 unfold endFatal
 simp only []
 split
 ·exact i5 (dieOf_ok _ _ _ _ _) (a8 (by assumption))
 ·trivial
 ·trivial
theorem writeOn_ok (fr : Frame) (d : Dying) (f : Fatal) (w : World) : gOK w.drawn (writeOn P fr d f w) := by
 unfold writeOn
 simp only []
 split
 ·trivial
 ·split
  ·exact okT_drawn (by assumption)
  ·exact haltT_drawn (by assumption)
  ·trivial
  ·trivial
theorem die_ok (fr : Frame) (d : Dying) (w : World) : gOK w.drawn (die P fr d w) := by
 unfold die
 simp only []
 split
 ·exact writeOn_ok _ _ _ _
 ·split
  ·split
   ·exact Nat.le_refl _
   ·exact endWith_ok _ _ _ _ _
  ·split
   ·exact Nat.le_refl _
   ·split
    ·exact a8 (by assumption)
    ·trivial
   ·apply gK
    split
    ·exact a8 (P := P) (by rw [← Sem.runT_fst]; assumption)
    ·exact a8 (P := P) (by rw [← Sem.runT_fst]; assumption)
    ·trivial
    ·exact i5 (endPrinting_ok _ _ _) (eQ (P := P) (by rw [← Sem.runT_fst]; assumption))
    ·trivial
   ·trivial
theorem gG {α : Type} {s : Sem α} {w w' : World} {x : α} {es : Array Event} (h : (s.runT P w es).1 = .ok x w') : w.drawn ≤ w'.drawn := a8 (P := P) (s := s) (x := x) (by rw [← Sem.runT_fst P s w es, h])
theorem js {α : Type} {s : Sem α} {w w' : World} {x : Halt} {es : Array Event} (h : (s.runT P w es).1 = .halt x w') : w.drawn ≤ w'.drawn := eQ (P := P) (s := s) (x := x) (by rw [← Sem.runT_fst P s w es, h])
theorem doReturn_ok (main : Bool) (fr : Frame) (callers : List Frame) (dying : Option Dying) (v : Value) (w : World) : gOK w.drawn (doReturn P main fr callers dying v w) := by
 unfold doReturn
 simp only []
 repeat' split
 all_goals first | exact Nat.le_refl _ | trivial
theorem ite_ok {d : Nat} {c : Prop} [Decidable c] {a b : GStep} (ha : gOK d a) (hb : gOK d b) : gOK d (if c then a else b) := by split <;> assumption
theorem callDeferred_ok (fr : Frame) (callers : List Frame) (dying : Option Dying) (d : Deferred) (w : World) : gOK w.drawn (callDeferred P fr callers dying d w) := by
 unfold callDeferred
 simp only []
 refine ite_ok trivial (gK ?_)
 split
 all_goals first
  | exact gG (by assumption)
  | exact js (by assumption)
  | trivial
  | exact i5 (endFatal_ok _ _ _ _ _) (js (by assumption))
  | exact i5 (jx _ _ _) (js (by assumption))
  | (split <;> exact gG (by assumption))
theorem unwind_ok (main : Bool) (fr : Frame) (callers : List Frame) (dying : Option Dying) (w : World) : gOK w.drawn (unwind P main fr callers dying w) := by
 unfold unwind
 simp only []
 split
 ·apply gK
  split
  ·exact gG (by assumption)
  ·trivial
 ·exact callDeferred_ok _ _ _ _ _
 ·split
  ·trivial
  ·split
   ·trivial
   ·split
    ·exact Nat.le_refl _
    ·split
     ·split
      ·exact Nat.le_refl _
      ·split
       ·exact a8 (by assumption)
       ·trivial
       ·trivial
     ·split
      ·exact endPrinting_ok _ _ _
      ·trivial
  ·split
   ·exact doReturn_ok _ _ _ _ _ _
   ·apply gK
    split
    ·exact i5 (doReturn_ok _ _ _ _ _ _) (gG (by assumption))
    ·trivial
    ·trivial
theorem early_ok (fr : Frame) (callers : List Frame) (dying : Option Dying) (g : Nat) (w : World) : gOK w.drawn (early P fr callers dying g w) := by
 have hn : ∀ w1 : World, w.drawn ≤ w1.drawn → gOK w.drawn (match w1.heap[g]? with
   | some (.pending c elem) => .go { frame := fr, callers, status := .running, dying } { w1 with heap := w1.heap.setIfInBounds g (.cells c elem) }
   | _ => .ended (.stuck "early: the variable does not wait" (fr.pos P)) w1) := fun w1 h => by
  split
  ·exact h
  ·trivial
 unfold early
 simp only []
 repeat' first
  | trivial
  | exact hn _ (Nat.le_refl _)
  | exact Nat.le_refl _
  | exact hn _ (a8 (by assumption))
  | exact a8 (P := P) (by assumption)
  | split
theorem apply_ok (main : Bool) (listen : Bool) (fr : Frame) (callers : List Frame) (dying : Option Dying) (s : Sem Next) (w : World) : gOK w.drawn (stepG.apply P listen fr callers dying s w) := by
  unfold stepG.apply
  simp only []
  apply gK
  have hr : (if listen = true then s.runT P w #[] else (s.run P w, #[])).1 = s.run P w := by
    split
    · exact Sem.runT_fst _ _ _ _
    · rfl
  rw [hr]
  split
  all_goals first
    | exact a8 (by assumption)
    | exact eQ (by assumption)
    | trivial
    | exact i5 (endFatal_ok _ _ _ _ _) (eQ (by assumption))
    | exact i5 (jx _ _ _) (eQ (by assumption))
    | exact i5 (early_ok _ _ _ _ _) (eQ (by assumption))
    | (repeat' split
       all_goals first
        | exact a8 (by assumption)
        | exact i5 (jx _ _ _) (a8 (by assumption)))
theorem oper_ok (main listen : Bool) (fr : Frame) (callers : List Frame) (dying : Option Dying) (w : World) : gOK w.drawn (stepG.oper P listen fr callers dying w) := by
 unfold stepG.oper
 split
 ·trivial
 ·split
  ·exact apply_ok main _ _ _ _ _ _
  ·exact apply_ok main _ _ _ _ _ _
theorem exec_ok (main listen : Bool) (fr : Frame) (callers : List Frame) (dying : Option Dying) (w : World) : gOK w.drawn (stepG.exec P main listen fr callers dying w) := by
 have leave : ∀ (c : Prop) (_ : Decidable c) (jump : Option Code), gOK w.drawn (match fr.roundOf with
   | none => if c then GStep.go { frame := { fr with mode := .returning }, callers, status := .running, dying } w else .ended (.stuck "exit, goto: no such block or label" (fr.pos P)) w
   | some l => GStep.after (seen P fr.fn ((Instr.endRound l jump).runT P w #[]).2) (match ((Instr.endRound l jump).runT P w #[]).1 with
    | .ok v w => doReturn P main fr callers dying v w
    | .halt _ w => .ended (.stuck "range over a function: no such loop" (fr.pos P)) w)) := fun c _ jump => by
  split
  ·exact ite_ok (Nat.le_refl _) trivial
  ·apply gK
   split
   ·exact i5 (doReturn_ok _ _ _ _ _ _) (gG (by assumption))
   ·trivial
 unfold stepG.exec
 simp only []
 split
 all_goals first
  | exact leave _ _ _
  | exact Nat.le_refl _
  | exact apply_ok main _ _ _ _ _ _
  | trivial
  | (split <;> first | exact Nat.le_refl _ | trivial)
  | (cases h : exitTo _ _ <;> first | exact Nat.le_refl _ | exact leave _ _ _)
  | (cases h : gotoIn _ _ <;> first | exact Nat.le_refl _ | exact leave _ _ _)
  | (cases h : Extern.next _ <;> first | trivial | exact apply_ok main _ _ _ _ _ _)
  | (apply gK; split <;> first | trivial | exact gG (by assumption) | exact js (by assumption) | exact i5 (apply_ok main _ _ _ _ _ _) (gG (by assumption)))
  | (refine ite_ok (Nat.le_refl _) ?_; split <;> first | trivial | exact a8 (by assumption))
  | (refine ite_ok ?_ (Nat.le_refl _); exact oper_ok main _ _ _ _ _)
  | skip
theorem stepG_ok (main listen : Bool) (g : Goroutine) (w : World) : gOK w.drawn (stepG P main g w listen) := by
 unfold stepG
 simp only []
 split
 ·exact die_ok _ _ _
 ·exact exec_ok _ _ _ _ _ _
 ·exact unwind_ok _ _ _ _ _
theorem timerOp_drawn {m m' : Machine} {op : TimerOp} {v : Value} (h : timerOp m op = .ok (v, m')) : m.world.drawn ≤ m'.world.drawn := by
 have hr : ∀ (m0 : Machine) (k : Nat) (t : Timer) (when_ period : Nat), (retime m0 k t when_ period).2.world.drawn = m0.world.drawn := fun m0 k t a b => by
  unfold retime drain
  cases t.chan with
  | none => rfl
  | some c => simp only []; split <;> rfl
 have ho : ∀ {var : Addr} {m0 : Machine}, timerOp.opened m var = some m0 → m0.world.drawn = m.world.drawn := fun {var m0} h => by
  unfold timerOp.opened at h
  repeat' (split at h)
  all_goals (cases h; try rfl)
 have hn : ∀ {var : Addr} {m0 : Machine} {f : Nat → Timer → Value × Machine} {r : Value × Machine}, timerOp.named m0 var f = .ok r → ∃ k t, r = f k t := fun {var m0 f r} h => by
  unfold timerOp.named at h
  split at h
  ·cases h; exact ⟨_, _, rfl⟩
  ·cases h
 unfold timerOp at h
 split at h
 ·repeat' (split at h)
  all_goals first
   | (cases h; exact Nat.le_refl _)
   | (cases h; done)
 ·obtain ⟨k, t, e⟩ := hn h
  rw [show m' = (retime m k t 0 t.period).2 from congrArg Prod.snd e, hr]
  exact Nat.le_refl _
 ·split at h
  ·rename_i m0 hm0
   obtain ⟨k, t, e⟩ := hn h
   rw [show m' = (retime m0 k t _ _).2 from congrArg Prod.snd e, hr, ho hm0]
   exact Nat.le_refl _
  ·cases h
 ·simp only [Except.ok.injEq, Prod.mk.injEq] at h
  rw [← h.2]
  exact Nat.le_refl _
theorem endThrow_go {fr : Frame} {m : String} {w w' : World} {g : Goroutine} {es : Array Event} (h : endThrow fr m w = .go g w' es) : w.drawn ≤ w'.drawn := by
 have := jx fr m w
 rw [h] at this
 exact this
theorem runT_drawn (m m' : Machine) (i : Nat) (b : Bool) (h : (runT P m i b).1 = .next m') : m.world.drawn ≤ m'.world.drawn := by
  simp only [runT] at h
  revert h
  generalize m.gs.swapAt! _ _ = gg
  have hs := stepG_ok (P := P) (i == 0) b gg.1 m.world
  revert hs
  generalize stepG P _ gg.1 m.world b = s
  intro hs h
  cases s <;> simp only [] at h
  all_goals first
    | (simp at h; done)
    | exact Nat.le_trans hs (communicate_drawn _ _ _ _ _ _ _ _ _ h)
    | exact Nat.le_trans hs (look_drawn _ _ _ _ h)
    | (simp only [Stepped.next.injEq] at h; subst h; exact hs)
    | (repeat' first
        | (simp at h; done)
        | (simp only [Stepped.next.injEq] at h; subst h; exact hs)
        | (simp only [Stepped.next.injEq] at h; subst h; exact Nat.le_trans hs (timerOp_drawn (by assumption)))
        | (simp only [Stepped.next.injEq] at h; subst h; exact Nat.le_trans hs (endThrow_go (by assumption)))
        | split at h)
theorem serve_drawn (m m' : Machine) (k : Nat) (h : serve P m k = .next m') : m.world.drawn ≤ m'.world.drawn := by
 unfold serve at h
 simp only [] at h
 repeat' first
  | (simp at h; done)
  | (simp only [Stepped.next.injEq] at h; subst h; exact Nat.le_refl _)
  | split at h
theorem askOn_drawn (m m' : Machine) (ops : Array MemOp) (h : askOn P m = .machine (.next m') ops) : m.world.drawn ≤ m'.world.drawn := by
 unfold askOn at h
 simp only [] at h
 repeat' first
  | (simp at h; done)
  | (simp only [Move.machine.injEq] at h; exact Nat.le_trans (a8 (by assumption)) (serve_drawn _ _ _ h.1))
  | (simp only [Move.machine.injEq, Stepped.next.injEq] at h; obtain ⟨rfl, _⟩ := h; (try simp only [Machine.advanceTo]); exact a8 (by assumption))
  | (simp only [Move.machine.injEq, Stepped.next.injEq] at h; obtain ⟨rfl, _⟩ := h; (try simp only [Machine.advanceTo]); exact Nat.le_trans (a8 (by assumption)) (a8 (by assumption)))
  | split at h
theorem okA_drawn {α : Type} {s : Sem α} {w w' : World} {gs : Array Goroutine} {rest : Rest} {t : Nat} {x : α} (h : s.run P (Machine.advanceTo { world := w, gs := gs, rest := rest } t).world = .ok x w') : w.drawn ≤ w'.drawn := by
 have := a8 h
 simpa only [Machine.advanceTo] using this
theorem askOn_drawnG (m m' : Machine) (i : Nat) (h : askOn P m = .goroutine m' i) : m.world.drawn ≤ m'.world.drawn := by
  unfold askOn at h
  simp only [] at h
  repeat' first
    | (simp at h; done)
    | (simp only [Move.goroutine.injEq] at h; rw [← h.1]; (try simp only [Machine.advanceTo]); first
        | exact a8 (by assumption)
        | exact Nat.le_trans (a8 (by assumption)) (a8 (by assumption))
        | exact Nat.le_trans (a8 (by assumption)) (Nat.le_trans (a8 (by assumption)) (a8 (by assumption)))
        | exact Nat.le_trans (a8 (by assumption)) (Nat.le_trans (a8 (by assumption)) (Nat.le_trans (a8 (by assumption)) (a8 (by assumption))))
        | exact Nat.le_trans (a8 (by assumption)) (Nat.le_trans (a8 (by assumption)) (okA_drawn (by assumption)))
        | exact Nat.le_trans (a8 (by assumption)) (Nat.le_trans (a8 (by assumption)) (Nat.le_trans (okA_drawn (by assumption)) (a8 (by assumption)))))
    | split at h
theorem ask_cases2 (m : Machine) : (∃ m₂ : Machine, m.world.drawn ≤ m₂.world.drawn ∧ ask P m = askOn P m₂) ∨ (∃ o w, ask P m = .machine (.ended o w) #[]) := by
 unfold ask
 by_cases hw : m.rest.watch = true
 ·rw [if_pos hw]
  cases hc : (choose (.extern "collector.look" 2)).run P m.world with
  | halt h w => exact .inr ⟨_, _, rfl⟩
  | ok k world =>
   have e1 := a8 hc
   rcases k with _ | _ | k
   ·exact .inl ⟨{ m with world }, e1, rfl⟩
   ·show (∃ m₂ : Machine, m.world.drawn ≤ m₂.world.drawn ∧ (match Go.look P m.gs m.rest world with | .next m => askOn P m | e => Move.machine e) = askOn P m₂) ∨
     (∃ o w, (match Go.look P m.gs m.rest world with | .next m => askOn P m | e => Move.machine e) = .machine (.ended o w) #[])
    cases hl : Go.look P m.gs m.rest world with
    | next m₂ => exact .inl ⟨m₂, Nat.le_trans e1 (look_drawn _ _ _ _ hl), rfl⟩
    | ended o w => exact .inr ⟨o, w, rfl⟩
   ·exact .inl ⟨{ m with world }, e1, rfl⟩
 ·simp only [hw, Bool.false_eq_true, if_false]
  exact .inl ⟨m, Nat.le_refl _, rfl⟩
theorem move_drawn (m m' : Machine) (ops : Array MemOp) (h : move P m = .machine (.next m') ops) : m.world.drawn ≤ m'.world.drawn := by
 have ha : ∀ m1 : Machine, m1.world.drawn = m.world.drawn → ask P m1 = .machine (.next m') ops → m.world.drawn ≤ m'.world.drawn := fun m1 e h => by
  rcases ask_cases2 (P := P) m1 with ⟨m₂, hs, he⟩ | ⟨o, w, he⟩
  ·rw [he] at h; rw [← e]; exact Nat.le_trans hs (askOn_drawn m₂ m' ops h)
  ·rw [he] at h; simp at h
 unfold move at h
 repeat' first
  | (simp at h; done)
  | (refine ha _ ?_ h; rfl)
  | split at h
theorem move_drawnG (m m' : Machine) (i : Nat) (h : move P m = .goroutine m' i) : m.world.drawn ≤ m'.world.drawn := by
 have ha : ∀ m1 : Machine, m1.world.drawn = m.world.drawn → ask P m1 = .goroutine m' i → m.world.drawn ≤ m'.world.drawn := fun m1 e h => by
  rcases ask_cases2 (P := P) m1 with ⟨m₂, hs, he⟩ | ⟨o, w, he⟩
  ·rw [he] at h; rw [← e]; exact Nat.le_trans hs (askOn_drawnG m₂ m' i h)
  ·rw [he] at h; cases h
 unfold move at h
 repeat' first
  | (simp at h; done)
  | (refine ha _ ?_ h; rfl)
  | (simp only [Move.goroutine.injEq] at h; rw [← h.1]; exact Nat.le_refl _)
  | split at h
theorem step_drawn {m m' : Machine} (h : step P m = .next m') : m.world.drawn ≤ m'.world.drawn := by
 simp only [step, stepT] at h
 split at h
 ·rename_i m₁ i hm
  exact Nat.le_trans (move_drawnG m m₁ i hm) (runT_drawn m₁ m' i _ h)
 ·rename_i s ops hm
  simp only [] at h
  subst h
  exact move_drawn m m' ops hm
theorem steps_drawn {m m' : Machine} (h : Steps P m m') : m.world.drawn ≤ m'.world.drawn := by
 obtain ⟨n, hn⟩ := h
 induction n generalizing m with
 | zero => simp only [runN, Stepped.next.injEq] at hn; rw [hn]; exact Nat.le_refl _
 | succ n ih =>
  simp only [runN] at hn
  split at hn
  ·rename_i m1 h1
   exact Nat.le_trans (step_drawn h1) (ih hn)
  ·rename_i hx
   exact absurd hn (hx _)
theorem calls_drawn {f : FuncId} {args : Array Value} {w : World} {R : Ending → World → Prop} (h : Calls P f args w R) (ho : ∀ w', ¬ R .outgrown w') : Calls P f args w fun e w' => R e w' ∧ w.drawn ≤ w'.drawn := fun cs => by
 obtain ⟨e, w', fr, hr, hc, h2⟩ := h cs
 refine ⟨e, w', fr, ⟨hr, ?_⟩, hc, h2⟩
 cases e with
 | outgrown => exact absurd hr (ho w')
 | returned v => exact steps_drawn (show Steps P _ _ from hc)
 | panicked c => exact steps_drawn (show Steps P _ _ from hc)
end
end Go.Proofs.YtegigakgcnhiaaaGreatDoor

namespace Go.Proofs.YtegigakgcnhiaaaGreatDoor
open Go

def fw (r : Option Nat) : Fence := { fn := fun _ => True, depth := none, alive := false, round := r }
theorem dm {r : Option Nat} {n : Nat} {P : Program} {f : FuncId} {args : Array Value} {w : World} {R : Ending → World → Prop} : CallsIn (fw r) n P f args w R ↔ Calls P f args w R := callsIn_wide
theorem fw_depth {r : Option Nat} {n : Nat} : (fw r).depth.isSome = true → 1 ≤ n := fun h => by cases h
structure En where
 P : Program
 N : Fr
 B : Nat → Prop
 w0 : World
 S0 : SH
 r : Option Nat
def En.base (E : En) : Nat := E.w0.heap.size

def opQ (P : Program) (o : Oper) (a : Act) (K : Act → World → Prop) : Result Next → Prop
 | .ok (.value v) w' => K (a.put o.dst v) w'
 | .ok .skip w' => K (a.put o.dst undef) w'
 | .ok (.enter f args) w' => Calls P f args w' fun e w'' => ∃ v, e = .returned v ∧ K (a.put o.dst v) w''
 | .ok (.round l f tmps assign body) w' => RoundIn (fw none) 0 P l f tmps assign body w' fun e w'' => ∃ v, e = .returned v ∧ K (a.put o.dst v) w''
 | _ => False
def opWp (P : Program) (o : Oper) (a : Act) (w : World) (K : Act → World → Prop) : Prop := (∀ c, o.op ≠ .defer c) ∧ opQ P o a K ((execOp a.eval o).run P w)
theorem roundIn_fw {r : Option Nat} {n : Nat} {P : Program} {l : Nat} {f : FuncId} {tmps : Array Value} {assign body : Code} {w : World} {R : Ending → World → Prop} (h : RoundIn (fw none) 0 P l f tmps assign body w R) : RoundIn (fw r) n P l f tmps assign body w R :=
 ⟨trivial, fun c cs _ => h.2 c cs (fun _ hd => by cases hd)⟩
theorem opQ_mono {P : Program} {o : Oper} {a : Act} {K K' : Act → World → Prop} (hK : ∀ a w, K a w → K' a w) {r : Result Next} (h : opQ P o a K r) : opQ P o a K' r := by
 cases r with
 | ok n w =>
  cases n <;> simp only [opQ] at h ⊢
  case value => exact hK _ _ h
  case skip => exact hK _ _ h
  case enter f args => exact h.mono fun e w' ⟨v, he, hk⟩ => ⟨v, he, hK _ _ hk⟩
  case round l f tmps assign body => exact h.mono fun e w' ⟨v, he, hk⟩ => ⟨v, he, hK _ _ hk⟩
 | halt x w => simp only [opQ] at h
theorem e9 {P : Program} {o : Oper} {a : Act} {w : World} {K K' : Act → World → Prop} (hK : ∀ a w, K a w → K' a w) (h : opWp P o a w K) : opWp P o a w K' := ⟨h.1, opQ_mono hK h.2⟩
theorem eX {P : Program} {o : Oper} {a : Act} {w : World} {K K' : Act → World → Prop} {Q : Exit → Act → World → Prop} {r : Option Nat} (hK : ∀ a w, K a w → K' a w) (h : opWp P o a w K) : o.wpIn (fw r) 0 P a w K' Q := by
 obtain ⟨hd, h⟩ := h
 refine ⟨fun _ _ => trivial, ?_⟩
 rw [Oper.semAt_eq _ _ _ hd]
 generalize (execOp a.eval o).run P w = res at h
 cases res with
 | ok n w =>
  cases n <;> simp only [opQ] at h <;> simp only [Oper.uponIn]
  case value => exact hK _ _ h
  case skip => exact hK _ _ h
  case enter f args => exact ⟨fw_depth, dm.2 (h.mono fun e w' ⟨v, he, hk⟩ => by subst he; exact hK _ _ hk)⟩
  case round l f tmps assign body => exact ⟨fw_depth, (roundIn_fw h).mono fun e w' ⟨v, he, hk⟩ => by subst he; exact hK _ _ hk⟩
 | halt x w => simp only [opQ] at h

def OpOK (E : En) (O : List OE) (G : Ctx) (o : Oper) (t : Ty) : Prop :=
 ∀ a w S, Sat w S → Own E.base E.B w S O → Facts E.N S a G →
  opWp E.P o a w (fun a' w' => ∃ v S', a' = a.put o.dst v ∧ Ext noB w S w' S' ∧ Sat w' S' ∧ t.p S' v)
structure St (E : En) (O : List OE) (G : Ctx) (a : Act) (w : World) (S : SH) : Prop where
 ext : Ext E.B E.w0 E.S0 w S
 sat : Sat w S
 own : Own E.base E.B w S O
 facts : Facts E.N S a G
def RG (E : En) (ops : Array Oper) (Q : Exit → Act → World → Prop) (l : List Oper) (O : List OE) (G : Ctx) : Prop := ∀ a w S, St E O G a w S → wpListIn (fw E.r) 0 E.P ops Q l a w
def CG (E : En) (Q : Exit → Act → World → Prop) (c : Code) (O : List OE) (G : Ctx) : Prop := ∀ a w S, St E O G a w S → c.wpIn (fw E.r) 0 E.P Q a w
def AT (E : En) (Q : Exit → Act → World → Prop) (e : Exit) (O : List OE) (G : Ctx) : Prop := ∀ a w S, St E O G a w S → Q e a w

section
variable {E : En} {O : List OE} {G G' : Ctx} {Q : Exit → Act → World → Prop} {ops : Array Oper} {l : List Oper}

theorem St.step {a : Act} {w w' : World} {S S' : SH} {d : Nat} {v : Value} {t : Ty} (h : St E O G a w S) (k : Ext noB w S w' S') (hs : Sat w' S') (hd : Nat.blt d E.N.n = true) (hv : t.p S' v) :
  St E O ((d, t) :: G) (a.put (some d) v) w' S' :=
 ⟨h.ext.step0 k, hs, h.own.ext0 k, (h.facts.mono k.keep).put hd hv⟩
theorem St.step0 {a : Act} {w w' : World} {S S' : SH} (h : St E O G a w S) (k : Ext noB w S w' S') (hs : Sat w' S') : St E O G a w' S' :=
 ⟨h.ext.step0 k, hs, h.own.ext0 k, h.facts.mono k.keep⟩
theorem St.sub {a : Act} {w : World} {S : SH} (h : St E O G a w S) (k : subl G' G) : St E O G' a w S := ⟨h.ext, h.sat, h.own, h.facts.sub (subl_look k)⟩
theorem RG.of {o : Oper} (hg : o.guard = none) (h : ∀ a w S, St E O G a w S → opWp E.P o a w (fun a' w' => wpListIn (fw E.r) 0 E.P ops Q l a' w')) : RG E ops Q (o :: l) O G := fun a w S st =>
 wpListIn_plain hg fun _ hK => eX hK (h a w S st)

theorem RG.op {d : Nat} {op : Op} {ty : TypeId} {pos : String} {after : Array Edge} {t : Ty} (h : OpOK E O G ⟨some d, op, ty, pos, after, none⟩ t) (hd : Nat.blt d E.N.n = true) (k : RG E ops Q l O ((d, t) :: G)) :
  RG E ops Q (⟨some d, op, ty, pos, after, none⟩ :: l) O G := .of rfl fun a w S st =>
 e9 (fun a' w' ⟨_, _, ha, he, hs, hv⟩ => by subst ha; exact k _ _ _ (st.step he hs hd hv)) (h a w S st.sat st.own st.facts)
theorem RG.nil (h : AT E Q .normal O G) : RG E ops Q [] O G := fun a w S st => h a w S st
theorem RG.sub (h : RG E ops Q l O G') (k : subl G' G) : RG E ops Q l O G := fun a w S st => h a w S (st.sub k)

theorem CG.region {id : Nat} {l : List Oper} (h : RG E l.toArray Q l O G) : CG E Q (.region id l.toArray false) O G := fun a w S st => wpIn_region_lit (h a w S st)
theorem CG.seq {x y : Code} (h : CG E (Exit.then (y.wpIn (fw E.r) 0 E.P Q) Q) x O G) : CG E Q (.seq x y) O G := fun a w S st => wpIn_seq (h a w S st)
theorem AT.next {y : Code} (h : CG E Q y O G) : AT E (Exit.then (y.wpIn (fw E.r) 0 E.P Q) Q) .normal O G := h
theorem CG.skip (h : AT E Q .normal O G) : CG E Q .skip O G := fun a w S st => wpIn_skip (h a w S st)
theorem CG.exit {id : Nat} (h : AT E Q (.exit id) O G) : CG E Q (.exit id) O G := fun a w S st => wpIn_exit (h a w S st)
theorem CG.ret (h : AT E Q .ret O G) : CG E Q .ret O G := fun a w S st => wpIn_ret (h a w S st)
theorem CG.sub {c : Code} (h : CG E Q c O G') (k : subl G' G) : CG E Q c O G := fun a w S st => h a w S (st.sub k)
theorem AT.sub {e : Exit} (h : AT E Q e O G') (k : subl G' G) : AT E Q e O G := fun a w S st => h a w S (st.sub k)
theorem CG.cond {c : Operand} {x y : Code} {b : Bool} (hb : aA E.N G c (tD rB b)) (hx : b = true → CG E Q x O G) (hy : b = false → CG E Q y O G) : CG E Q (.cond c x y) O G := fun a w S st => by
 have hv : a.eval c = .bool b := db.1 (hb S a st.facts)
 refine wpIn_cond hv ?_
 cases b with
 | true => exact hx rfl a w S st
 | false => exact hy rfl a w S st
theorem CG.block {id : Nat} {c : Code} (h : CG E (Exit.inBlock id Q) c O G) : CG E Q (.block id c) O G := fun a w S st => wpIn_block (h a w S st)
def loopIn (r : Option Nat) (P : Program) (c : Code) (Q : Exit → Act → World → Prop) (a : Act) (w : World) : Prop :=
 ∀ (b : Frame) (k : List Item) (cs : List Frame), b.roundOf = r → ∃ e a' w', Q e a' w' ∧ ArrivesIn (Machine.fenced P (fw r)) P (lone (b.atR a (.code c :: .inLoop c :: k)) cs w) b k cs e a' w'
theorem fw_room {r : Option Nat} {n : Nat} : (fw r).room n := fun _ hd => by cases hd
theorem wp_of_loopIn {r : Option Nat} {P : Program} {c : Code} {a : Act} {w : World} {Q : Exit → Act → World → Prop} (h : loopIn r P c Q a w) : (Code.loop c).wpIn (fw r) 0 P Q a w := fun b k cs hro hb hr =>
 let ⟨e, a', w', hq, harr⟩ := h b k cs hro
 ⟨e, a', w', hq, .of_steps (.one (fenced_calm hb hr rfl) stepR_loop) harr⟩
theorem loopIn_unfold {r : Option Nat} {P : Program} {c : Code} {a : Act} {w : World} {Q : Exit → Act → World → Prop} (h : c.wpIn (fw r) 0 P (Exit.then (loopIn r P c Q) Q) a w) : loopIn r P c Q a w := by
 intro b k cs hro
 obtain ⟨e, a₁, w₁, hq, harr⟩ := h b (.inLoop c :: k) cs hro trivial fw_room
 cases e with
 | normal =>
  obtain ⟨e₂, a₂, w₂, hq₂, harr₂⟩ := hq b k cs hro
  exact ⟨e₂, a₂, w₂, hq₂, .of_steps (StepsIn.trans harr (.one (fenced_calm (n := 0) (F := fw r) trivial fw_room rfl) stepR_inLoop)) harr₂⟩
 | exit id => exact ⟨_, a₁, w₁, hq, .pass (x := .inLoop c) rfl (fun _ _ => .inl (by simp)) harr⟩
 | goto l => exact ⟨_, a₁, w₁, hq, .pass (x := .inLoop c) rfl (fun _ _ => .inl (by simp)) harr⟩
 | ret => exact ⟨_, a₁, w₁, hq, .pass (x := .inLoop c) rfl (fun _ _ => .inl (by simp)) harr⟩
 | panic ch => exact ⟨_, a₁, w₁, hq, .pass (x := .inLoop c) rfl (fun _ _ => .inl (by simp)) harr⟩
 | outgrown => exact ⟨_, a₁, w₁, hq, .pass (x := .inLoop c) rfl (fun _ _ => .inl (by simp)) harr⟩
def LG (E : En) (Q : Exit → Act → World → Prop) (c : Code) (O : List OE) (G : Ctx) : Prop := ∀ a w S, St E O G a w S → loopIn E.r E.P c Q a w
theorem CG.loop {c : Code} (h : LG E Q c O G) : CG E Q (.loop c) O G := fun a w S st => wp_of_loopIn (h a w S st)
theorem aq {c : Code} (h : CG E (Exit.then (loopIn E.r E.P c Q) Q) c O G) : LG E Q c O G := fun a w S st => loopIn_unfold (h a w S st)
theorem LG.sub {c : Code} (h : LG E Q c O G') (k : subl G' G) : LG E Q c O G := fun a w S st => h a w S (st.sub k)
theorem AT.round {c : Code} (h : LG E Q c O G) : AT E (Exit.then (loopIn E.r E.P c Q) Q) .normal O G := h
theorem ah {K : Act → World → Prop} {id : Nat} (h : AT E Q (.exit id) O G) : AT E (Exit.then K Q) (.exit id) O G := h
theorem ae {K : Act → World → Prop} (h : AT E Q .ret O G) : AT E (Exit.then K Q) .ret O G := h
theorem al {id : Nat} (h : AT E Q .ret O G) : AT E (Exit.inBlock id Q) .ret O G := h
theorem ap {id : Nat} (h : AT E Q .normal O G) : AT E (Exit.inBlock id Q) .normal O G := h
theorem av {id : Nat} (h : AT E Q .normal O G) : AT E (Exit.inBlock id Q) (.exit id) O G := fun a w S st => by
 simp only [Exit.inBlock, if_true]; exact h a w S st
theorem aX {id id' : Nat} (hne : Nat.beq id' id = false) (h : AT E Q (.exit id') O G) : AT E (Exit.inBlock id Q) (.exit id') O G := fun a w S st => by
 have : id' ≠ id := fun e => by subst e; simp at hne
 simp only [Exit.inBlock, this, if_false]; exact h a w S st

def Tys (S : SH) : List Ty → List Value → Prop
 | [], [] => True
 | t :: ts, v :: vs => t.p S v ∧ Tys S ts vs
 | _, _ => False
theorem Tys.mono {S S' : SH} (h : gy S S') : ∀ {ts : List Ty} {vs : List Value}, Tys S ts vs → Tys S' ts vs
 | [], [], _ => trivial
 | t :: _, _ :: _, ⟨h1, h2⟩ => ⟨t.mono h h1, Tys.mono h h2⟩
theorem Tys.length {S : SH} : ∀ {ts : List Ty} {vs : List Value}, Tys S ts vs → vs.length = ts.length
 | [], [], _ => rfl
 | _ :: _, _ :: _, ⟨_, h2⟩ => by simp [Tys.length h2]
def Spec (P : Program) (f : FuncId) (ts : List Ty) (t : Ty) : Prop :=
 ∀ w S vs, Sat w S → Tys S ts vs → Calls P f vs.toArray w fun e w' => ∃ v S', e = .returned v ∧ Ext noB w S w' S' ∧ Sat w' S' ∧ t.p S' v
def endQ (E : En) (t : Ty) : Ending → World → Prop := fun e w' => ∃ v S', e = .returned v ∧ Ext E.B E.w0 E.S0 w' S' ∧ Sat w' S' ∧ t.p S' v
def jr (k : Nat) : List Ty → Ctx
 | [] => []
 | t :: ts => (k, t) :: jr (k + 1) ts
theorem look_initG : ∀ (ts : List Ty) (k j : Nat) (t : Ty), look (jr k ts) j = some t → ∃ i, j = k + i ∧ ts[i]? = some t
 | [], _, _, _, h => by simp [jr, look] at h
 | u :: ts, k, j, t, h => by
  unfold jr look at h
  by_cases hb : Nat.beq k j = true
  ·rw [hb] at h
   exact ⟨0, by rw [Nat.eq_of_beq_eq_true hb]; rfl, by simpa using h⟩
  ·rw [Bool.not_eq_true] at hb
   rw [hb] at h
   obtain ⟨i, h1, h2⟩ := look_initG ts (k + 1) j t h
   exact ⟨i + 1, by omega, by simpa using h2⟩
theorem Tys.at_ {S : SH} : ∀ {ts : List Ty} {vs : List Value} (_ : Tys S ts vs) (i : Nat) (t : Ty), ts[i]? = some t → ∃ v, vs[i]? = some v ∧ t.p S v
 | _ :: _, v :: _, ⟨h1, _⟩, 0, t, h => ⟨v, rfl, by simp at h; rw [← h]; exact h1⟩
 | _ :: ts, _ :: vs, ⟨_, h2⟩, i + 1, t, h => by simpa using Tys.at_ h2 i t (by simpa using h)
theorem eS {S : SH} {ts : List Ty} {vs : List Value} (h : Tys S ts vs) (n : Nat) (hn : ts.length ≤ n) :
  Facts ⟨n, []⟩ S { tmps := vs.toArray ++ Array.replicate (n - vs.toArray.size) undef, defers := [] } (jr 0 ts) := by
 have hl := h.length
 refine ⟨by simp; omega, rfl, fun j t hj => ?_⟩
 obtain ⟨i, e, hi⟩ := look_initG ts 0 j t hj
 have e' : j = i := by omega
 subst e'
 obtain ⟨v, hv, ht⟩ := h.at_ j t hi
 have hlt : j < vs.length := (List.getElem?_eq_some_iff.1 hv).1
 have : (vs.toArray ++ Array.replicate (n - vs.toArray.size) undef).getD j undef = v := by
  rw [Array.getD_eq_getD_getElem?, Array.getElem?_append_left (by simpa using hlt)]
  simp [hv]
 rw [this]; exact ht
theorem Spec.of_code {P : Program} {f : FuncId} {fn : Func} {c : Code} {ts : List Ty} {t : Ty} (hf : P.funcs[f]? = some fn) (hb : fn.body = some c) (hn : ts.length ≤ fn.ntmps)
  (h : ∀ w0 S0, CG ⟨P, ⟨fn.ntmps, []⟩, noB, w0, S0, none⟩ (bodyPost P fn (endQ ⟨P, ⟨fn.ntmps, []⟩, noB, w0, S0, none⟩ t)) c [] (jr 0 ts)) : Spec P f ts t := by
 intro w S vs hs hv
 exact dm.1 (callsIn_of_wp (F := fw none) (n := 0) hf hb trivial (h w S _ w S ⟨Ext.refl _ _ _, hs, trivial, eS hv _ hn⟩))
theorem fI (P : Program) (fn : Func) (k : Nat) (h : fn.results = #[.tmp k]) (tmps : Array Value) (w : World) : (results fn tmps).run P w = .ok (tmps.getD k undef) w := by
 simp [results, h]
theorem ak {P : Program} {N : Nat} {B : Nat → Prop} {w0 : World} {S0 : SH} {fn : Func} {k : Nat} {t : Ty} (hr : fn.results = #[.tmp k]) (hk : look G k = some t) :
  AT ⟨P, ⟨N, []⟩, B, w0, S0, none⟩ (bodyPost P fn (endQ ⟨P, ⟨N, []⟩, B, w0, S0, none⟩ t)) .ret O G := fun _ _ S st =>
 ⟨st.facts.defers, _, fI P fn k hr _ _, _, S, rfl, st.ext, st.sat, st.facts.at_ k t hk⟩
def tT (ts : List Ty) : Ty where
 p := fun S v => ∃ vs, v = .tuple vs.toArray ∧ Tys S ts vs
 mono := fun h k => by obtain ⟨vs, e, k⟩ := k; exact ⟨vs, e, Tys.mono h k⟩
theorem run_results_two (P : Program) (fn : Func) (j k : Nat) (h : fn.results = #[.tmp j, .tmp k]) (tmps : Array Value) (w : World) : (results fn tmps).run P w = .ok (.tuple #[tmps.getD j undef, tmps.getD k undef]) w := by
 simp [results, h]
theorem gW {P : Program} {N : Nat} {B : Nat → Prop} {w0 : World} {S0 : SH} {fn : Func} {j k : Nat} {t u : Ty} (hr : fn.results = #[.tmp j, .tmp k]) (hj : look G j = some t) (hk : look G k = some u) :
  AT ⟨P, ⟨N, []⟩, B, w0, S0, none⟩ (bodyPost P fn (endQ ⟨P, ⟨N, []⟩, B, w0, S0, none⟩ (tT [t, u]))) .ret O G := fun _ _ S st =>
 ⟨st.facts.defers, _, run_results_two P fn j k hr _ _, _, S, rfl, st.ext, st.sat, [_, _], rfl, st.facts.at_ j t hj, st.facts.at_ k u hk, trivial⟩
theorem jH (P : Program) (fn : Func) (h : fn.results = #[]) (tmps : Array Value) (w : World) : (results fn tmps).run P w = .ok (.tuple #[]) w := by
 simp [results, h]
end
end Go.Proofs.YtegigakgcnhiaaaGreatDoor

namespace Go.Proofs.YtegigakgcnhiaaaGreatDoor
open Go

section
variable {E : En} {O : List OE} {G : Ctx} {dst : Option Tmp} {ty : TypeId} {pos : String} {after : Array Edge} {g : Option (Nat × Bool)}

theorem OpOK.of_run {o : Oper} {t : Ty} (h : ∀ a w S, Sat w S → Own E.base E.B w S O → Facts E.N S a G →
  ∃ v w' S', (execOp a.eval o).run E.P w = .ok (.value v) w' ∧ Ext noB w S w' S' ∧ Sat w' S' ∧ t.p S' v) (hd : ∀ c, o.op ≠ .defer c := by intro c h; cases h) : OpOK E O G o t := fun a w S hs ho hf => by
 obtain ⟨v, w', S', hr, he, hs', hv⟩ := h a w S hs ho hf
 refine ⟨hd, ?_⟩
 rw [hr]
 exact ⟨v, S', rfl, he, hs', hv⟩
theorem OpOK.of_pure {o : Oper} {t : Ty} (h : ∀ a w S, Sat w S → Own E.base E.B w S O → Facts E.N S a G → ∃ v, (execOp a.eval o).run E.P w = .ok (.value v) w ∧ t.p S v) (hd : ∀ c, o.op ≠ .defer c := by intro c h; cases h) : OpOK E O G o t :=
 .of_run (fun a w S hs ho hf => let ⟨v, hr, hv⟩ := h a w S hs ho hf; ⟨v, w, S, hr, Ext.refl _ _ _, hs, hv⟩) hd

theorem ac {x : Operand} {t : Ty} (hx : aA E.N G x t) : OpOK E O G ⟨dst, .move x, ty, pos, after, g⟩ t :=
 .of_pure fun a _ S _ _ hf => ⟨a.eval x, rfl, hx S a hf⟩
theorem aa {x : Operand} {t : Ty} (hx : aA E.N G x t) : OpOK E O G ⟨dst, .assign x, ty, pos, after, g⟩ t :=
 .of_pure fun a _ S _ _ hf => ⟨a.eval x, rfl, hx S a hf⟩
theorem ok_pick {c x y : Operand} {b : Bool} {t : Ty} (hc : aA E.N G c (tD rB b)) (hx : b = true → aA E.N G x t) (hy : b = false → aA E.N G y t) : OpOK E O G ⟨dst, .pick c x y, ty, pos, after, g⟩ t :=
 .of_pure fun a _ S _ _ hf => by
  have h1 : a.eval c = .bool b := db.1 (hc S a hf)
  refine ⟨if b then a.eval x else a.eval y, by simp [execOp, h1, asBool], ?_⟩
  cases b with
  | true => exact hx rfl S a hf
  | false => exact hy rfl S a hf

section
variable {xt yt : TypeId} {x y : Operand} {k : IntKind} {m n : Int}
theorem eqGuard_int {P : Program} {op : BinOp} {xt : TypeId} {x y : Operand} {k k' : IntKind} {m n : Int} {w : World} : (eqGuard op xt x y (.int k m) (.int k' n)).run P w = .ok () w := by
 unfold eqGuard
 cases op <;> rfl
theorem gF {op : BinOp} {t : Ty} (hx : aA E.N G x (tD (rI k) m)) (hy : aA E.N G y (tD (rI k) n)) {v : Value} (hv : ∀ P w, (binOp op xt (.int k m) (.int k n)).run P w = .ok v w) (ht : ∀ S, t.p S v) :
  OpOK E O G ⟨dst, .binOp op xt x y yt, ty, pos, after, g⟩ t :=
 .of_pure fun a w S _ _ hf => by
  have h1 : a.eval x = .int k m := bD.1 (hx S a hf)
  have h2 : a.eval y = .int k n := bD.1 (hy S a hf)
  refine ⟨v, ?_, ht S⟩
  simp [execOp, h1, h2, eqGuard_int, hv]
theorem cj (hx : aA E.N G x (tD (rI k) m)) (hy : aA E.N G y (tD (rI k) n)) : OpOK E O G ⟨dst, .binOp .add xt x y yt, ty, pos, after, g⟩ (tD (rI k) (k.wrap (m + n))) :=
 gF hx hy (fun _ _ => by simp [binOp, Op.intArith]) (fun _ => bD.2 rfl)
theorem ok_sub (hx : aA E.N G x (tD (rI k) m)) (hy : aA E.N G y (tD (rI k) n)) : OpOK E O G ⟨dst, .binOp .sub xt x y yt, ty, pos, after, g⟩ (tD (rI k) (k.wrap (m - n))) :=
 gF hx hy (fun _ _ => by simp [binOp, Op.intArith]) (fun _ => bD.2 rfl)
theorem ok_mul (hx : aA E.N G x (tD (rI k) m)) (hy : aA E.N G y (tD (rI k) n)) : OpOK E O G ⟨dst, .binOp .mul xt x y yt, ty, pos, after, g⟩ (tD (rI k) (k.wrap (m * n))) :=
 gF hx hy (fun _ _ => by simp [binOp, Op.intArith]) (fun _ => bD.2 rfl)
theorem ok_quo (hx : aA E.N G x (tD (rI k) m)) (hy : aA E.N G y (tD (rI k) n)) (h0 : n ≠ 0) : OpOK E O G ⟨dst, .binOp .quo xt x y yt, ty, pos, after, g⟩ (tD (rI k) (k.wrap (m.tdiv n))) :=
 gF hx hy (fun _ _ => by simp [binOp, Op.intDiv, h0]) (fun _ => bD.2 rfl)
theorem ok_rem (hx : aA E.N G x (tD (rI k) m)) (hy : aA E.N G y (tD (rI k) n)) (h0 : n ≠ 0) : OpOK E O G ⟨dst, .binOp .rem xt x y yt, ty, pos, after, g⟩ (tD (rI k) (m.tmod n)) :=
 gF hx hy (fun _ _ => by simp [binOp, Op.intDiv, h0]) (fun _ => bD.2 rfl)
theorem ay (hx : aA E.N G x (tD (rI k) m)) (hy : aA E.N G y (tD (rI k) n)) : OpOK E O G ⟨dst, .binOp .lss xt x y yt, ty, pos, after, g⟩ (tD rB (decide (m < n))) :=
 gF hx hy (fun _ _ => by simp [binOp, Op.intCmp]) (fun _ => db.2 rfl)
theorem kr (hx : aA E.N G x (tD (rI k) m)) (hy : aA E.N G y (tD (rI k) n)) : OpOK E O G ⟨dst, .binOp .leq xt x y yt, ty, pos, after, g⟩ (tD rB (decide (m ≤ n))) :=
 gF hx hy (fun _ _ => by simp [binOp, Op.intCmp]) (fun _ => db.2 rfl)
theorem bV (hx : aA E.N G x (tD (rI k) m)) (hy : aA E.N G y (tD (rI k) n)) : OpOK E O G ⟨dst, .binOp .gtr xt x y yt, ty, pos, after, g⟩ (tD rB (decide (n < m))) :=
 gF hx hy (fun _ _ => by simp [binOp, Op.intCmp]) (fun _ => db.2 rfl)
theorem eO (hx : aA E.N G x (tD (rI k) m)) (hy : aA E.N G y (tD (rI k) n)) : OpOK E O G ⟨dst, .binOp .geq xt x y yt, ty, pos, after, g⟩ (tD rB (decide (n ≤ m))) :=
 gF hx hy (fun _ _ => by simp [binOp, Op.intCmp]) (fun _ => db.2 rfl)
theorem a7 (hx : aA E.N G x (tD (rI k) m)) (hy : aA E.N G y (tD (rI k) n)) : OpOK E O G ⟨dst, .binOp .eql xt x y yt, ty, pos, after, g⟩ (tD rB (m == n)) :=
 gF hx hy (fun _ _ => by simp [binOp, Op.intCmp]) (fun _ => db.2 rfl)
theorem aW (hx : aA E.N G x (tD (rI k) m)) (hy : aA E.N G y (tD (rI k) n)) : OpOK E O G ⟨dst, .binOp .neq xt x y yt, ty, pos, after, g⟩ (tD rB (m != n)) :=
 gF hx hy (fun _ _ => by simp [binOp, Op.intCmp]) (fun _ => db.2 rfl)
def fm (op : BinOp) (k : IntKind) (x y : Int) : Int :=
 k.wrap (match op with
  | .and => (BitVec.ofInt k.bits x &&& BitVec.ofInt k.bits y).toNat
  | .or => (BitVec.ofInt k.bits x ||| BitVec.ofInt k.bits y).toNat
  | .xor => (BitVec.ofInt k.bits x ^^^ BitVec.ofInt k.bits y).toNat
  | _ => (BitVec.ofInt k.bits x &&& ~~~BitVec.ofInt k.bits y).toNat : Nat)
theorem ok_and (hx : aA E.N G x (tD (rI k) m)) (hy : aA E.N G y (tD (rI k) n)) : OpOK E O G ⟨dst, .binOp .and xt x y yt, ty, pos, after, g⟩ (tD (rI k) (fm .and k m n)) :=
 gF hx hy (fun _ _ => by simp [binOp, Op.intBits]; rfl) (fun _ => bD.2 rfl)
theorem ok_xor (hx : aA E.N G x (tD (rI k) m)) (hy : aA E.N G y (tD (rI k) n)) : OpOK E O G ⟨dst, .binOp .xor xt x y yt, ty, pos, after, g⟩ (tD (rI k) (fm .xor k m n)) :=
 gF hx hy (fun _ _ => by simp [binOp, Op.intBits]; rfl) (fun _ => bD.2 rfl)
theorem ok_shift {op : BinOp} {k' : IntKind} {t : Ty} (hx : aA E.N G x (tD (rI k) m)) (hy : aA E.N G y (tD (rI k') n)) {v : Value} (hv : ∀ P w, (binOp op xt (.int k m) (.int k' n)).run P w = .ok v w) (ht : ∀ S, t.p S v) :
  OpOK E O G ⟨dst, .binOp op xt x y yt, ty, pos, after, g⟩ t :=
 .of_pure fun a w S _ _ hf => by
  have h1 : a.eval x = .int k m := bD.1 (hx S a hf)
  have h2 : a.eval y = .int k' n := bD.1 (hy S a hf)
  refine ⟨v, ?_, ht S⟩
  simp [execOp, h1, h2, eqGuard_int, hv]
theorem ok_shr {k' : IntKind} (hx : aA E.N G x (tD (rI k) m)) (hy : aA E.N G y (tD (rI k') n)) (h0 : 0 ≤ n) : OpOK E O G ⟨dst, .binOp .shr xt x y yt, ty, pos, after, g⟩ (tD (rI k) (m.fdiv (2 ^ (min n.toNat k.bits)))) :=
 ok_shift hx hy (fun _ _ => by simp [binOp, Op.shift, Int.not_lt.2 h0]) (fun _ => bD.2 rfl)
theorem ok_cpl (hx : aA E.N G x (tD (rI k) m)) : OpOK E O G ⟨dst, .unOp .xor xt x, ty, pos, after, g⟩ (tD (rI k) (fm .xor k (if k.signed then -1 else k.max) m)) :=
 .of_pure fun a w S _ _ hf => by
  have h1 : a.eval x = .int k m := bD.1 (hx S a hf)
  exact ⟨_, by simp [execOp, h1, Op.unary, Op.intBits]; rfl, bD.2 rfl⟩
theorem bq {b : Bool} (hx : aA E.N G x (tD rB b)) : OpOK E O G ⟨dst, .unOp .not xt x, ty, pos, after, g⟩ (tD rB (!b)) :=
 .of_pure fun a w S _ _ hf => by
  have h1 : a.eval x = .bool b := db.1 (hx S a hf)
  exact ⟨.bool (!b), by simp [execOp, h1, Op.unary], db.2 rfl⟩
theorem fa {st dt : TypeId} {k' : IntKind} {d : TypeDesc} (hs : E.P.underlying st = some d) (hd : E.P.underlying dt = some (.int k')) (hx : aA E.N G x (tD (rI k) m)) :
  OpOK E O G ⟨dst, .convert st dt x, ty, pos, after, g⟩ (tD (rI k') (k'.wrap m)) :=
 .of_pure fun a w S _ _ hf => by
  have h1 : a.eval x = .int k m := bD.1 (hx S a hf)
  refine ⟨.int k' (k'.wrap m), ?_, bD.2 rfl⟩
  simp only [execOp, h1, convert, Sem.run_bind, run_underlying hs, run_underlying hd, Result.andThen_ok]
  cases d <;> simp [Conv.intToInt]
end

theorem run_equalIn_bool {P : Program} {t : TypeId} (ht : P.underlying t = some .bool) (d : Nat) (b c : Bool) (w : World) : (Op.equalIn (d + 1) t (.bool b) (.bool c)).run P w = .ok (b == c) w := by
 simp [Op.equalIn, run_underlying ht]
theorem run_eql {P : Program} {t : TypeId} {x y : Value} {b : Bool} {w : World} (hb : ∀ d, (Op.equalIn (d + 1) t x y).run P w = .ok b w) : (Op.equal t x y).run P w = .ok b w := hb 9999
section
variable {xt yt : TypeId} {x y : Operand}
theorem ok_neqB {b c : Bool} (ht : E.P.underlying xt = some .bool) (hx : aA E.N G x (tD rB b)) (hy : aA E.N G y (tD rB c)) : OpOK E O G ⟨dst, .binOp .neq xt x y yt, ty, pos, after, g⟩ (tD rB (b != c)) :=
 .of_pure fun a w S _ _ hf => by
  have h1 : a.eval x = .bool b := db.1 (hx S a hf)
  have h2 : a.eval y = .bool c := db.1 (hy S a hf)
  exact ⟨.bool (b != c), by simp [execOp, h1, h2, eqGuard, binOp, run_eql (fun d => run_equalIn_bool ht d b c w)]; cases b <;> cases c <;> rfl, db.2 rfl⟩
theorem ok_str {op : BinOp} {s u : Str} {b : Bool} (hx : aA E.N G x (tD rS s)) (hy : aA E.N G y (tD rS u)) (hv : ∀ P w, (Op.stringOp op ⟨s.toArray⟩ ⟨u.toArray⟩).run P w = .ok (.bool b) w)
  (hg : ∀ P w, (eqGuard op xt x y (.string ⟨s.toArray⟩) (.string ⟨u.toArray⟩)).run P w = .ok () w) (hb : ∀ P w, (binOp op xt (.string ⟨s.toArray⟩) (.string ⟨u.toArray⟩)).run P w = (Op.stringOp op ⟨s.toArray⟩ ⟨u.toArray⟩).run P w) :
  OpOK E O G ⟨dst, .binOp op xt x y yt, ty, pos, after, g⟩ (tD rB b) :=
 .of_pure fun a w S _ _ hf => by
  have h1 : a.eval x = .string ⟨s.toArray⟩ := iS.1 (hx S a hf)
  have h2 : a.eval y = .string ⟨u.toArray⟩ := iS.1 (hy S a hf)
  refine ⟨.bool b, ?_, db.2 rfl⟩
  simp [execOp, h1, h2, hg, hb, hv]
theorem gr {s u : Str} (hx : aA E.N G x (tD rS s)) (hy : aA E.N G y (tD rS u)) : OpOK E O G ⟨dst, .binOp .eql xt x y yt, ty, pos, after, g⟩ (tD rB (s == u)) :=
 ok_str hx hy (fun _ _ => by simp [Op.stringOp]) (fun _ _ => rfl) (fun _ _ => rfl)
theorem ok_neqS {s u : Str} (hx : aA E.N G x (tD rS s)) (hy : aA E.N G y (tD rS u)) : OpOK E O G ⟨dst, .binOp .neq xt x y yt, ty, pos, after, g⟩ (tD rB (!(s == u))) :=
 ok_str hx hy (fun _ _ => by simp [Op.stringOp]) (fun _ _ => rfl) (fun _ _ => rfl)
theorem ok_lssS {s u : Str} (hx : aA E.N G x (tD rS s)) (hy : aA E.N G y (tD rS u)) : OpOK E O G ⟨dst, .binOp .lss xt x y yt, ty, pos, after, g⟩ (tD rB (Op.bytesLess s u)) :=
 ok_str hx hy (fun _ _ => by simp [Op.stringOp]) (fun _ _ => rfl) (fun _ _ => rfl)
theorem ok_gtrS {s u : Str} (hx : aA E.N G x (tD rS s)) (hy : aA E.N G y (tD rS u)) : OpOK E O G ⟨dst, .binOp .gtr xt x y yt, ty, pos, after, g⟩ (tD rB (!(Op.bytesLess s u || s == u))) :=
 ok_str hx hy (fun _ _ => by simp [Op.stringOp]) (fun _ _ => rfl) (fun _ _ => rfl)
end
end
end Go.Proofs.YtegigakgcnhiaaaGreatDoor

namespace Go.Proofs.YtegigakgcnhiaaaGreatDoor
open Go

def isAggD : TypeDesc → Bool
 | .struct _ | .array _ _ => true
 | _ => false
structure TI (P : Program) (T : TypeId) (sz bytes : Nat) (agg : Bool) (z : List Value) : Prop where
 info : (P.info? T).map (fun i => (i.zero.map (·.cells.toList), i.size, i.bytes)) = some (some z, sz, bytes)
 ag : (P.underlying T).map isAggD = some agg
section
variable {P : Program} {T : TypeId} {sz bytes : Nat} {agg : Bool} {z : List Value}
theorem TI.get (h : TI P T sz bytes agg z) : ∃ i zv, P.info? T = some i ∧ i.size = sz ∧ i.bytes = bytes ∧ i.zero = some zv ∧ zv.cells = z.toArray := by
 have := h.info
 cases hi : P.info? T with
 | none => rw [hi] at this; simp at this
 | some i =>
  rw [hi] at this
  simp only [Option.map_some, Option.some.injEq, Prod.mk.injEq, Option.map_eq_some_iff] at this
  obtain ⟨⟨zv, h1, h2⟩, h3, h4⟩ := this
  exact ⟨i, zv, rfl, h3, h4, h1, by rw [← h2]⟩
theorem TI.sizeOf (h : TI P T sz bytes agg z) (w : World) : (Go.sizeOf T).run P w = .ok sz w := by
 obtain ⟨i, zv, h1, h2, _⟩ := h.get
 simp [Go.sizeOf, typeInfo, h1, h2]
theorem TI.isAgg (h : TI P T sz bytes agg z) (w : World) : (Go.isAgg T).run P w = .ok agg w := by
 have := h.ag
 cases hi : P.underlying T with
 | none => rw [hi] at this; simp at this
 | some d =>
  rw [hi] at this
  simp only [Option.map_some, Option.some.injEq] at this
  simp only [Go.isAgg, Sem.run_bind, run_underlying hi, Result.andThen_ok]
  rw [← this]
  cases d <;> simp [isAggD]
theorem TI.zero (h : TI P T sz bytes agg z) (w : World) : ∃ zv, (zeroValue T).run P w = .ok zv w ∧ zv.cells = z.toArray := by
 obtain ⟨i, zv, h1, _, _, h4, h5⟩ := h.get
 exact ⟨zv, by simp [zeroValue, typeInfo, h1, h4], h5⟩
end

theorem cG (b off i : Nat) : (⟨b, off, none⟩ : Addr).add i = ⟨b, off + i, none⟩ := by
 unfold Addr.add
 split
 ·simp_all
 ·rfl
theorem cell_in {w : World} {b : Nat} {c : Array Value} {T : TypeId} {fr : Nat × Nat} (h : w.heap[b]? = some (.cells c T fr)) (i : Nat) : w.cell? ⟨b, i, none⟩ = c[i]? := by
 simp [World.cell?, h]
theorem gD {P : Program} {w : World} {b off n : Nat} {c : Array Value} {T : TypeId} {fr : Nat × Nat} (h : w.heap[b]? = some (.cells c T fr)) {cs : List Value} (hcs : (c.toList.drop off).take n = cs) (hl : cs.length = n) :
  (loadCells ⟨b, off, none⟩ n).run P w = .ok cs.toArray w := by
 rw [← hl]
 refine run_loadCells_list w ⟨b, off, none⟩ cs fun j v hv => ?_
 rw [cG, cell_in h]
 have hj : j < cs.length := (List.getElem?_eq_some_iff.1 hv).1
 rw [← hcs, List.getElem?_take_of_lt (by omega), List.getElem?_drop] at hv
 simpa using hv
theorem bP {P : Program} {w : World} {b off : Nat} {c : Array Value} {T U : TypeId} {fr : Nat × Nat} {sz bytes : Nat} {agg : Bool} {z : List Value} (ti : TI P U sz bytes agg z) (h : w.heap[b]? = some (.cells c T fr))
  {α : Type} {r : Rp α} (hsz : r.sz = sz) (hag : r.agg = agg) {S : SH} {x : α} (hx : r.rc S ((c.toList.drop off).take r.sz) x) :
  (loadVar U ⟨b, off, none⟩).run P w = .ok (r.val ((c.toList.drop off).take r.sz)) w := by
 have hl := r.len hx
 subst hsz
 subst hag
 simp only [loadVar, Sem.run_bind, ti.isAgg, Result.andThen_ok]
 cases ha : r.agg with
 | true => simp [ti.sizeOf, gD h rfl hl, Rp.val, ha]
 | false =>
  have h1 := r.sc ha
  have hcell : w.cell? ⟨b, off, none⟩ = some (((c.toList.drop off).take r.sz).headD undef) := by
   rw [cell_in h]
   rw [h1] at hl ⊢
   cases hd : c.toList.drop off with
   | nil => rw [hd] at hl; simp at hl
   | cons v rest =>
    have : (c.toList.drop off)[0]? = some v := by rw [hd]; rfl
    rw [List.getElem?_drop] at this
    simpa using this
  simp [hcell, Rp.val, ha]

section
variable {E : En} {O : List OE} {G : Ctx} {dst : Option Tmp} {ty : TypeId} {pos : String} {after : Array Edge} {g : Option (Nat × Bool)}

theorem ai {α : Type} {r : Rp α} {x : α} {U : TypeId} {p : Operand} {sz bytes : Nat} {agg : Bool} {z : List Value} (ti : TI E.P U sz bytes agg z) (hsz : r.sz = sz) (hag : r.agg = agg) (hp : aA E.N G p (aF r x)) :
  OpOK E O G ⟨dst, .load U p, ty, pos, after, g⟩ (tD r x) :=
 .of_pure fun a w S hs _ hf => by
  obtain ⟨b, off, c, T, fr, h1, h2, h3⟩ := hp S a hf
  obtain ⟨c', h4, h5⟩ := hs.part h2 (r.len h3)
  rw [← h5] at h3
  refine ⟨r.val ((c'.toList.drop off).take r.sz), ?_, _, rfl, h3⟩
  simp [execOp, h1, Instr.loadAt, Instr.sureAddr, bP ti h4 hsz hag h3]

theorem ba_size (s : Str) : (ByteArray.mk s.toArray).size = s.length := by simp [ByteArray.size]
theorem au {α : Type} {r : Rp α} {xs : List α} {x : Operand} {t e : TypeId} (ht : E.P.underlying t = some (.slice e)) (hx : aA E.N G x (tD (rSl r) xs)) :
  OpOK E O G ⟨dst, .call ⟨.builtin .len, #[x], #[t]⟩, ty, pos, after, g⟩ (tD (rI .i64) (xs.length : Int)) :=
 .of_pure fun a w S _ _ hf => by
  obtain ⟨ad, cap, h1, _⟩ := gb.1 (hx S a hf)
  refine ⟨.int .i64 xs.length, ?_, bD.2 rfl⟩
  simp [execOp, resolve, invoke, builtin, Builtin.len_, run_underlying ht, h1, goInt]
theorem fJ {s : Str} {x : Operand} {t : TypeId} (ht : E.P.underlying t = some .string) (hx : aA E.N G x (tD rS s)) :
  OpOK E O G ⟨dst, .call ⟨.builtin .len, #[x], #[t]⟩, ty, pos, after, g⟩ (tD (rI .i64) (s.length : Int)) :=
 .of_pure fun a w S _ _ hf => by
  have h1 : a.eval x = .string ⟨s.toArray⟩ := iS.1 (hx S a hf)
  refine ⟨.int .i64 s.length, ?_, bD.2 rfl⟩
  simp [execOp, resolve, invoke, builtin, Builtin.len_, run_underlying ht, h1, goInt, ba_size]

def idx {α : Type} (xs : List α) (i : Int) : Option α := if 0 ≤ i then xs[i.toNat]? else none
theorem be {α : Type} (xs : List α) (i : Nat) : idx xs (i : Int) = xs[i]? := by simp [idx]
theorem slArr_get {α : Type} {r : Rp α} {S : SH} {a : Option Addr} {xs : List α} (h : slArr r S a xs) {i : Nat} {x : α} (hx : xs[i]? = some x) :
  ∃ b off c T fr, a = some ⟨b, off, none⟩ ∧ S b = some (.cells c T fr) ∧ r.rc S ((c.toList.drop (off + i * r.sz)).take r.sz) x := by
 rcases h with rfl | ⟨b, off, c, T, fr, e1, e2, e3⟩
 ·simp at hx
 ·refine ⟨b, off, c, T, fr, e1, e2, ?_⟩
  have h := rcs_get e3 hx
  have hi : i < xs.length := (List.getElem?_eq_some_iff.1 hx).1
  rw [List.drop_take, List.take_take, List.drop_drop] at h
  have : min r.sz (xs.length * r.sz - i * r.sz) = r.sz := by
   rw [← Nat.sub_mul]
   have : 1 * r.sz ≤ (xs.length - i) * r.sz := Nat.mul_le_mul_right _ (by omega)
   omega
  rw [this] at h
  exact h
theorem am {α : Type} {r : Rp α} {xs : List α} {x : Operand} {y : α} {ix : Operand} {t e : TypeId} {k : IntKind} {i : Int} {sz bytes : Nat} {agg : Bool} {z : List Value} (ht : E.P.underlying t = some (.slice e)) (ti : TI E.P e sz bytes agg z) (hsz : r.sz = sz)
  (hx : aA E.N G x (tD (rSl r) xs)) (hi : aA E.N G ix (tD (rI k) i)) (hy : idx xs i = some y) :
  OpOK E O G ⟨dst, .indexAddr t x ix, ty, pos, after, g⟩ (aF r y) :=
 .of_pure fun a w S _ _ hf => by
  obtain ⟨ad, cap, h1, _, _, h2⟩ := gb.1 (hx S a hf)
  have h3 : a.eval ix = .int k i := bD.1 (hi S a hf)
  have h0 : 0 ≤ i := by unfold idx at hy; split at hy; assumption; cases hy
  have hy' : xs[i.toNat]? = some y := by unfold idx at hy; rw [if_pos h0] at hy; exact hy
  have hlt : i.toNat < xs.length := (List.getElem?_eq_some_iff.1 hy').1
  obtain ⟨b, off, c, T, fr, e1, e2, e3⟩ := slArr_get h2 hy'
  subst e1
  refine ⟨.pointer (some ⟨b, off + i.toNat * r.sz, none⟩), ?_, b, _, c, T, fr, rfl, e2, e3⟩
  have hc : 0 ≤ i ∧ i < (xs.length : Int) := ⟨h0, by omega⟩
  simp [execOp, h1, h3, Instr.indexAt, asIntOf, run_underlying ht, hc, ti.sizeOf, cG, hsz]

def Fld {α β : Type} (r : Rp α) (off : Nat) (q : Rp β) (get : α → β) : Prop := ∀ S cs x, r.rc S cs x → q.rc S ((cs.drop off).take q.sz) (get x)
def ci (P : Program) (T : TypeId) (i : Nat) : Option (Nat × Nat) :=
 match P.underlying T with
 | some (.struct fs) => (fs[i]?).bind fun f => (P.info? f.type).map fun q => (f.offset, q.size)
 | _ => none
theorem run_field {P : Program} {T : TypeId} {i off sz : Nat} (h : ci P T i = some (off, sz)) : ∃ fs f, P.underlying T = some (.struct fs) ∧ fs[i]? = some f ∧ f.offset = off ∧ ∀ w, (sizeOf f.type).run P w = .ok sz w := by
 unfold ci at h
 split at h
 ·rename_i fs hu
  cases hf : fs[i]? with
  | none => rw [hf] at h; simp at h
  | some f =>
   rw [hf] at h
   cases hq : P.info? f.type with
   | none => simp [hq] at h
   | some q =>
    simp [hq] at h
    exact ⟨fs, f, hu, hf, h.1, fun w => by simp [sizeOf, typeInfo, hq, h.2]⟩
 ·cases h
theorem aj {α β : Type} {r : Rp α} {q : Rp β} {get : α → β} {x : α} {T : TypeId} {i off sz : Nat} {p : Operand} (hf : ci E.P T i = some (off, sz)) (h0 : Nat.beq sz 0 = false) (hq : Fld r off q get) (hoff : Nat.ble (off + q.sz) r.sz = true)
  (hp : aA E.N G p (aF r x)) : OpOK E O G ⟨dst, .fieldAddr T p i, ty, pos, after, g⟩ (aF q (get x)) :=
 .of_pure fun a w S _ _ hF => by
  obtain ⟨b, o, c, U, fr, h1, h2, h3⟩ := hp S a hF
  obtain ⟨fs, f, e1, e2, e3, e4⟩ := run_field hf
  have h0' : sz ≠ 0 := fun e => by subst e; simp at h0
  have hoff' : off + q.sz ≤ r.sz := Nat.le_of_ble_eq_true hoff
  refine ⟨.pointer (some ⟨b, o + off, none⟩), ?_, b, _, c, U, fr, rfl, h2, ?_⟩
  ·simp [execOp, h1, Instr.fieldAt, run_underlying e1, e2, Instr.sureAddr, fieldPlace, e4, h0', e3, cG]
  ·have := hq S _ x h3
   rw [List.drop_take, List.take_take, List.drop_drop, Nat.min_eq_left (by omega)] at this
   exact this
def an (P : Program) (f : FuncId) : Bool :=
 match P.funcs[f]? with
 | some fn => !(fn.name == "runtime.NumGoroutine") && fn.body.isSome
 | none => false
theorem cl {P : Program} {f : FuncId} (h : an P f = true) (args : Array Value) (w : World) : (callFunc f args).run P w = .ok (.enter f args) w := by
 unfold an at h
 cases hf : P.funcs[f]? with
 | none => rw [hf] at h; cases h
 | some fn =>
  rw [hf] at h
  simp only [Bool.and_eq_true, Bool.not_eq_true'] at h
  have h1 : fn.name ≠ "runtime.NumGoroutine" := by simpa using h.1
  have h2 : fn.body ≠ none := fun e => by rw [e] at h; simp at h
  simp [callFunc, hf, h1, h2]
def HasTys (N : Fr) (G : Ctx) : List Operand → List Ty → Prop
 | [], [] => True
 | x :: xs, t :: ts => aA N G x t ∧ HasTys N G xs ts
 | _, _ => False
theorem HasTys.tys {N : Fr} {S : SH} {a : Act} (hF : Facts N S a G) : ∀ {xs : List Operand} {ts : List Ty}, HasTys N G xs ts → Tys S ts (xs.map a.eval)
 | [], [], _ => trivial
 | _ :: _, _ :: _, ⟨h1, h2⟩ => ⟨h1 S a hF, HasTys.tys hF h2⟩
theorem ax {f : FuncId} {xs : List Operand} {ats : Array TypeId} {ts : List Ty} {t : Ty} (hc : an E.P f = true) (hs : Spec E.P f ts t) (hx : HasTys E.N G xs ts) :
  OpOK E O G ⟨dst, .call ⟨.value (.func f), xs.toArray, ats⟩, ty, pos, after, g⟩ t := fun a w S hS _ hF => by
 have hr : (execOp a.eval ⟨dst, .call ⟨.value (.func f), xs.toArray, ats⟩, ty, pos, after, g⟩).run E.P w = .ok (.enter f (xs.map a.eval).toArray) w := by
  simp [execOp, resolve, Act.eval, Deferred.ofValue, invoke, cl hc]
 refine ⟨fun c h => (by cases h), ?_⟩
 rw [hr]
 exact (hs w S _ hS (hx.tys hF)).mono fun e w' ⟨v, S', he, h1, h2, h3⟩ => ⟨v, he, v, S', rfl, h1, h2, h3⟩
end
end Go.Proofs.YtegigakgcnhiaaaGreatDoor

namespace Go.Proofs.YtegigakgcnhiaaaGreatDoor
open Go

theorem eo {w : World} {o : Obj} {k : Nat} (h : k < w.heap.size) : (w.alloc o).heap[k]? = w.heap[k]? := RowKit.Below.heap_alloc w o k h
def SH.set (S : SH) (b : Nat) (o : Obj) : SH := fun k => if k = b then some o else S k
theorem eT (S : SH) (b : Nat) (o : Obj) : S.set b o b = some o := if_pos rfl
theorem fU (S : SH) {b k : Nat} (o : Obj) (h : k ≠ b) : S.set b o k = S k := if_neg h
theorem SH.le_set {S : SH} {b : Nat} {o : Obj} (h : ∀ q, S b = some q → ole q o) : gy S (S.set b o) := fun k q hq => by
 by_cases hk : k = b
 ·subst hk; exact ⟨o, eT _ _ _, h q hq⟩
 ·exact ⟨q, by rw [fU _ _ hk]; exact hq, ib q⟩
theorem Sat.set {w : World} {S : SH} (h : Sat w S) {b : Nat} {o o' : Obj} (h1 : w.heap[b]? = some o') (h2 : ole o o') (h3 : ∀ q, S b = some q → ole q o) : Sat w (S.set b o) := by
 refine ⟨fun k q hq => ?_, fun p hp => ?_, fun w' hw' => h.tb w' fun k q hq => ?_⟩
 ·by_cases hk : k = b
  ·subst hk
   rw [eT] at hq
   cases hq
   exact ⟨o', h1, h2⟩
  ·rw [fU _ _ hk] at hq; exact h k q hq
 ·obtain ⟨c, T, fr, g1, g2⟩ := h.gl p hp
  by_cases hk : p.1 = b
  ·subst hk
   obtain ⟨d, hd⟩ := h3 _ g1
   refine ⟨_, T, fr, by rw [eT, hd], ?_⟩
   rw [List.toList_toArray, List.take_append_of_le_length ?_]
   ·exact g2
   ·have := congrArg List.length g2
    rw [List.length_take] at this
    omega
  ·exact ⟨c, T, fr, by rw [fU _ _ hk]; exact g1, g2⟩
 ·by_cases hk : k = b
  ·subst hk
   obtain ⟨o1, g1, g2⟩ := hw' k o (eT _ _ _)
   exact ⟨o1, g1, ole_trans (h3 q hq) g2⟩
  ·exact hw' k q (by rw [fU _ _ hk]; exact hq)
theorem bT {w : World} {S : SH} (o : Obj) (hs : Sat w S) : Ext noB w S (w.alloc o) S ∧ Sat (w.alloc o) S ∧ S w.heap.size = none := by
 refine ⟨⟨rfl, rfl, rfl, Nat.le_refl _, by simp, fun k hk _ => eo hk, SH.le_refl _, fun _ _ _ => rfl⟩, hs.same fun b q hb => eo (hs.lt hb), ?_⟩
 cases h : S w.heap.size with
 | none => rfl
 | some q => have := hs.lt h; omega
theorem jA {w : World} {S : SH} (o : Obj) (hs : Sat w S) : Ext noB w S (w.alloc o) (S.set w.heap.size o) ∧ Sat (w.alloc o) (S.set w.heap.size o) := by
 obtain ⟨h1, h2, h3⟩ := bT o hs
 refine ⟨⟨rfl, rfl, rfl, Nat.le_refl _, by simp, fun k hk _ => eo hk, SH.le_set fun q hq => (by rw [h3] at hq; cases hq), fun k hk _ => fU _ _ (by omega)⟩, h2.set (heap_alloc_new w o) (ib o) fun q hq => by rw [h3] at hq; cases hq⟩
theorem Ext.draw {w : World} {S : SH} (hs : Sat w S) : Ext noB w S w.drew S ∧ Sat w.drew S := ⟨⟨rfl, rfl, rfl, Nat.le_succ _, Nat.le_refl _, fun _ _ _ => rfl, SH.le_refl _, fun _ _ _ => rfl⟩, hs.same fun _ _ _ => rfl⟩

def aD (l : Option Nat) (cap n : Nat) : Value :=
 match l with
 | none => .slice none 0 0
 | some b => .slice (some ⟨b, 0, none⟩) n cap
def RawAt (w : World) (T : TypeId) (sz : Nat) (l : Option Nat) (cap n : Nat) (cells : List Value) : Prop :=
 match l with
 | none => n = 0 ∧ cells = []
 | some b => ∃ cur, w.heap[b]? = some (.cells cur T (0, 0)) ∧ n ≤ cap ∧ cap ≤ maxLen ∧ cur.size = cap * sz ∧ cur.toList.take (n * sz) = cells
def j1 {α : Type} (m : Bool) (r : Rp α) (T : TypeId) (l : Option Nat) (cap : Nat) (xs : List α) (w : World) (S : SH) : Prop :=
 ∃ cells, RawAt w T r.sz l cap xs.length cells ∧ rcs r S cells xs ∧ ∀ b, l = some b → S b = if m then some (.cells cells.toArray T (0, 0)) else none
theorem RawAt.lt {w : World} {T : TypeId} {sz b cap n : Nat} {cells : List Value} (h : RawAt w T sz (some b) cap n cells) : b < w.heap.size := by
 obtain ⟨cur, h1, _⟩ := h
 exact (Array.getElem?_eq_some_iff.1 h1).1
theorem RawAt.ext {w w' : World} {T : TypeId} {sz cap n : Nat} {l : Option Nat} {cells : List Value} (h : RawAt w T sz l cap n cells) (k : ∀ b, l = some b → w'.heap[b]? = w.heap[b]?) : RawAt w' T sz l cap n cells := by
 cases l with
 | none => exact h
 | some b =>
  obtain ⟨cur, h1, h2⟩ := h
  exact ⟨cur, by rw [k b rfl]; exact h1, h2⟩
def d6 {α : Type} (m : Bool) (r : Rp α) (T : TypeId) (l : Option Nat) (cap : Nat) (xs : List α) : OE where
 fp := fun k => l = some k
 p := j1 m r T l cap xs
 here := by
  intro w S h k hk
  subst hk
  obtain ⟨cells, h1, _⟩ := h
  exact h1.lt
 kept := by
  intro C w w' S S' h k hC
  obtain ⟨cells, h1, h2, h3⟩ := h
  refine ⟨cells, h1.ext fun b hb => ?_, iV k.keep h2, fun b hb => ?_⟩
  ·subst hb; exact k.heap b h1.lt (hC b rfl)
  ·subst hb; rw [k.old b h1.lt (hC b rfl)]; exact h3 b rfl
abbrev arr {α : Type} (r : Rp α) (T : TypeId) (l : Option Nat) (cap : Nat) (xs : List α) : OE := d6 false r T l cap xs
abbrev tip {α : Type} (r : Rp α) (T : TypeId) (l : Option Nat) (cap : Nat) (xs : List α) : OE := d6 true r T l cap xs
def app {α : Type} (xs ys : List α) : Option (List α) := if xs.length + ys.length ≤ 68719476736 then some (xs ++ ys) else none
theorem app_some {α : Type} {xs ys zs : List α} (h : app xs ys = some zs) : zs = xs ++ ys ∧ xs.length + ys.length ≤ 68719476736 := by
 unfold app at h
 split at h
 ·exact ⟨by simpa using h.symm, by assumption⟩
 ·cases h
theorem run_append_room_row {P : Program} {w : World} {t tx ty e : TypeId} {i : TypeInfo} (ht : P.underlying t = some (.slice e)) (hi : P.info? e = some i) {g sLen sCap : Nat} {cur : Array Value} (hg : w.heap[g]? = some (.cells cur e (0, 0)))
  {x : Value} {n : Nat} {news : List Value} (hs : Src P i.size tx x n news w) (hroom : sLen + n ≤ sCap) (hfit : sLen * i.size + news.length ≤ cur.size) :
  (Builtin.append_ #[t, tx] ty #[.slice (some ⟨g, 0, none⟩) sLen sCap, x]).run P w =
   .ok (.slice (some ⟨g, 0, none⟩) (sLen + n) sCap) (w.setRow g (cur.toList.take (sLen * i.size) ++ news ++ cur.toList.drop (sLen * i.size + news.length)).toArray) := by
 have hst := run_storeCells_at P g (sLen * i.size) e news 0 cur w hg (by simpa using hfit) hs.one
 simp only [Nat.add_zero] at hst
 rcases hs.kind with ⟨e', hk⟩ | hk <;> simp [Builtin.append_, run_underlying ht, run_underlying hk, sizeOf, typeInfo, hi, hs.len, hroom, hs.cells, Addr.add_lit, hst]
structure Grown (l : Option Nat) (w w' : World) : Prop where
 os : w'.os = w.os
 tape : w'.tape = w.tape
 output : w'.output = w.output
 drawn : w.drawn ≤ w'.drawn
 size : w.heap.size ≤ w'.heap.size
 heap : ∀ k, k < w.heap.size → l ≠ some k → w'.heap[k]? = w.heap[k]?
theorem run_append_raw {P : Program} {T t t' ty : TypeId} {sz bytes : Nat} {agg : Bool} {z : List Value} {l : Option Nat} {cap n m : Nat} {cells news : List Value} {w : World} {x : Value}
  (ti : TI P T sz bytes agg z) (hz : Nat.beq z.length sz = true) (h0 : Nat.blt 0 sz = true) (h128 : Nat.ble bytes 2048 = true) (ht : P.underlying t = some (.slice T))
  (h : RawAt w T sz l cap n cells) (hs : Src P sz t' x m news w) (hlen : n + m ≤ 68719476736) :
  ∃ l' cap' w', (Builtin.append_ #[t, t'] ty #[aD l cap n, x]).run P w = .ok (aD l' cap' (n + m)) w' ∧ RawAt w' T sz l' cap' (n + m) (cells ++ news) ∧ Grown l w w' ∧ (∀ b, l' = some b → l = some b ∨ w.heap.size ≤ b) ∧ (∀ b, l = some b → l' ≠ some b → w'.heap[b]? = w.heap[b]?) := by
 obtain ⟨i, zv, hi, h1, h2, h3, h4⟩ := ti.get
 have h128' := Nat.le_of_ble_eq_true h128
 have h0' : 0 < sz := by simpa [Nat.blt_eq] using h0
 have hz2 : z.length = sz := Nat.eq_of_beq_eq_true hz
 subst h1
 have hnl := hs.newsLen
 have hbytes : (n + m) * i.bytes ≤ 140737488355328 := Nat.le_trans (Nat.mul_le_mul hlen (by omega : i.bytes ≤ 2048)) (by omega)
 by_cases hm : m = 0
 ·subst hm
  have hn0 : news = [] := List.eq_nil_of_length_eq_zero (by simpa using hnl)
  subst hn0
  refine ⟨l, cap, w, ?_, by simpa using h, ⟨rfl, rfl, rfl, Nat.le_refl _, Nat.le_refl _, fun _ _ _ => rfl⟩, fun b hb => .inl hb, fun b _ _ => rfl⟩
  cases l with
  | none =>
   obtain ⟨rfl, _⟩ := h
   exact run_append_nothing w t t' ty T i ht hi none 0 0 (Nat.le_refl _) _ hs
  | some b =>
   obtain ⟨cur, _, hle, _⟩ := h
   exact run_append_nothing w t t' ty T i ht hi (some ⟨b, 0, none⟩) n cap hle _ hs
 have fits : ∀ old, old < n + m → Builtin.nextslicecap (n + m) old * i.bytes ≤ 281474976710656 := fun old ho => growslice_fits ho hbytes
 -- a new row
 have fresh : ∀ (base : Option Addr) (olds : List Value), aD l cap n = .slice base n cap → olds = cells → cap < n + m → (Builtin.firstCells i.size n (.slice base n cap)).run P w.drew = .ok olds.toArray w.drew → cells.length = n * i.size →
   ∃ l' cap' w', (Builtin.append_ #[t, t'] ty #[aD l cap n, x]).run P w = .ok (aD l' cap' (n + m)) w' ∧ RawAt w' T i.size l' cap' (n + m) (cells ++ news) ∧ Grown l w w' ∧ (∀ b, l' = some b → l = some b ∨ w.heap.size ≤ b) ∧ (∀ b, l = some b → l' ≠ some b → w'.heap[b]? = w.heap[b]?) := by
  intro base olds hv he hg hf hcl
  subst he
  have hr := run_append_grow_src (P := P) w t t' ty T i zv ht hi h3 base n cap olds hf x m news hs hg (by omega) (fits cap hg)
  have hge := grownCap_ge w (n + m) cap T
  rw [← hv] at hr
  refine ⟨some w.heap.size, grownCap w (n + m) cap T, _, hr, ⟨_, heap_alloc_new w.drew _, hge, grownCap_le_maxLen _ _ _ _ (by simp only [maxLen]; omega), ?_, ?_⟩, ⟨rfl, rfl, rfl, Nat.le_succ _, by simp, fun k hk _ => ?_⟩, fun b hb => .inr (Nat.le_of_eq (Option.some.inj hb)), fun b hb _ => ?_⟩
  ·have : (Builtin.zeroCells zv.cells (grownCap w (n + m) cap T - (n + m))).size = (grownCap w (n + m) cap T - (n + m)) * i.size := by
    rw [size_zeroCells, h4]; simp [hz2]
   simp only [Array.size_append, List.size_toArray, List.length_append, hcl, hnl, this]
   rw [← Nat.add_mul, ← Nat.add_mul]
   congr 1; omega
  ·have hl2 : (olds ++ news).length = (n + m) * i.size := by rw [List.length_append, hcl, hnl, Nat.add_mul]
   rw [Array.toList_append, List.take_append_of_le_length (by simp only [List.toList_toArray]; omega)]
   simp only [List.toList_toArray]
   exact List.take_of_length_le (by omega)
  ·exact eo (w := w.drew) hk
  ·cases l with
   | none => cases hb
   | some b0 =>
    have hb' : b0 = b := Option.some.inj hb
    subst hb'
    exact eo (w := w.drew) (RawAt.lt h)
 cases l with
 | none =>
  obtain ⟨rfl, rfl⟩ := h
  have := run_append_grow_src (P := P) w t t' ty T i zv ht hi h3 none 0 0 [] (run_firstCells_none w.drew i.size 0 0 0) x m news hs (by omega) (by omega) (fits 0 (by omega))
  have hge := grownCap_ge w (0 + m) 0 T
  refine ⟨some w.heap.size, grownCap w (0 + m) 0 T, _, this, ⟨_, heap_alloc_new w.drew _, hge, grownCap_le_maxLen _ _ _ _ (by simp only [maxLen]; omega), ?_, ?_⟩, ⟨rfl, rfl, rfl, Nat.le_succ _, by simp, fun k hk _ => ?_⟩, fun b hb => .inr (Nat.le_of_eq (Option.some.inj hb)), fun b hb => (by cases hb)⟩
  ·have : (Builtin.zeroCells zv.cells (grownCap w (0 + m) 0 T - (0 + m))).size = (grownCap w (0 + m) 0 T - (0 + m)) * i.size := by
    rw [size_zeroCells, h4]; simp [hz2]
   simp only [Array.size_append, List.size_toArray, List.nil_append, hnl, this]
   rw [← Nat.add_mul]
   congr 1; omega
  ·rw [Array.toList_append, List.take_append_of_le_length (by simp [hnl])]
   simp only [List.nil_append, Nat.zero_add]
   exact List.take_of_length_le (by omega)
  ·exact eo (w := w.drew) hk
 | some b =>
  obtain ⟨cur, hb, hle, hmax, hcs, hct⟩ := h
  have hcl : cells.length = n * i.size := by
   rw [← hct, List.length_take, Array.length_toList, hcs]
   exact Nat.min_eq_left (Nat.mul_le_mul_right _ hle)
  by_cases hroom : n + m ≤ cap
  ·have hfit : n * i.size + news.length ≤ cur.size := by rw [hnl, hcs, ← Nat.add_mul]; exact Nat.mul_le_mul_right _ hroom
   have hr := run_append_room_row (t := t) (tx := t') (ty := ty) ht hi hb hs hroom hfit
   refine ⟨some b, cap, _, hr, ⟨_, setRow_heap w b cur _ T _ hb, hroom, hmax, ?_, ?_⟩, ⟨rfl, rfl, rfl, Nat.le_refl _, by simp [World.setRow], fun k hk hkb => setRow_other w b k _ (fun e => hkb (by rw [e]))⟩, fun b' hb' => .inl hb', fun b' hb' hne => absurd hb' hne⟩
   ·simp only [List.size_toArray, List.length_append, List.length_take, List.length_drop, Array.length_toList]
    omega
   ·rw [hct, Nat.add_mul, ← hnl, ← hcl, show cells.length + news.length = (cells ++ news).length from by simp]
    exact List.take_left
  ·refine fresh (some ⟨b, 0, none⟩) cells rfl rfl (by omega) (run_firstCells_some w.drew i.size n ⟨b, 0, none⟩ n cap cells hcl fun j v hv => ?_) hcl
   have hj : j < cells.length := (List.getElem?_eq_some_iff.1 hv).1
   have hcell : w.cell? ⟨b, j, none⟩ = cur[j]? := cell_in hb j
   rw [cG]
   show w.cell? ⟨b, 0 + j, none⟩ = _
   rw [Nat.zero_add, hcell]
   rw [← hct, List.getElem?_take_of_lt (by omega)] at hv
   simpa using hv
theorem src_of_data {P : Program} {α : Type} {r : Rp α} {ys : List α} {w : World} {S : SH} {v : Value} {t' e' : TypeId} (ht : P.underlying t' = some (.slice e')) (hs : Sat w S) (hv : (tD (rSl r) ys).p S v) : ∃ news, Src P r.sz t' v ys.length news w ∧ rcs r S news ys := by
 obtain ⟨ad, c2, rfl, hcap, hmax, hsl⟩ := gb.1 hv
 rcases hsl with rfl | ⟨b, off, c, U, fr, e1, e2, e3⟩
 ·refine ⟨[], ?_, rfl⟩
  cases ad with
  | none => exact .ofNil w ht c2
  | some a => exact .ofSlice w ht a 0 c2 [] (by simp) (fun j u hu => by simp at hu) (fun u hu => by cases hu)
 ·subst e1
  obtain ⟨c', h4, h5⟩ := hs.part e2 (gk e3)
  refine ⟨_, .ofSlice w ht ⟨b, off, none⟩ ys.length c2 _ (gk e3) (fun j u hu => ?_) (rcs_one e3), e3⟩
  rw [cG, cell_in h4]
  rw [← h5] at hu
  have hj : j < ys.length * r.sz := by
   have := (List.getElem?_eq_some_iff.1 hu).1
   simp at this; omega
  rw [List.getElem?_take_of_lt hj, List.getElem?_drop] at hu
  simpa using hu
def dG (s : Str) : List Int := s.map fun b => (b.toNat : Int)
theorem rcs_bytes {S : SH} : ∀ s : Str, rcs (rI .u8) S (s.map fun b => Value.int .u8 b.toNat) (dG s)
 | [] => rfl
 | b :: s => ⟨[.int .u8 b.toNat], _, rfl, rfl, rcs_bytes s⟩
theorem src_of_str {P : Program} {s : Str} {w : World} {S : SH} {v : Value} {t' : TypeId} (ht : P.underlying t' = some .string) (hv : (tD rS s).p S v) : ∃ news, Src P (rI .u8).sz t' v (dG s).length news w ∧ rcs (rI .u8) S news (dG s) := by
 have e := iS.1 hv
 subst e
 refine ⟨_, ?_, rcs_bytes s⟩
 have := Src.ofString (P := P) w ht ⟨s.toArray⟩
 have e1 : (ByteArray.mk s.toArray).size = (dG s).length := by simp [ByteArray.size, dG]
 rw [e1] at this
 simpa [byteCells, rI] using this
theorem run_arr_append {P : Program} {mm : Bool} {α : Type} {r : Rp α} {T t t' ty : TypeId} {sz bytes : Nat} {agg : Bool} {z : List Value} {l : Option Nat} {cap : Nat} {xs ys zs : List α} {base : Nat} {B : Nat → Prop} {w : World} {S : SH} {v : Value} {news : List Value}
  (ti : TI P T sz bytes agg z) (hsz : r.sz = sz) (hz : Nat.beq z.length sz = true) (h0 : Nat.blt 0 sz = true) (h128 : Nat.ble bytes 2048 = true) (ht : P.underlying t = some (.slice T))
  (hs : Sat w S) (h : (d6 mm r T l cap xs).holds base B w S) (hb : base ≤ w.heap.size) (hsrc : Src P r.sz t' v ys.length news w) (hrc : rcs r S news ys) (hz' : app xs ys = some zs) :
  ∃ l' cap' w' S', (Builtin.append_ #[t, t'] ty #[aD l cap xs.length, v]).run P w = .ok (aD l' cap' zs.length) w' ∧ Ext (fun k => l = some k) w S w' S' ∧ Sat w' S' ∧ (d6 mm r T l' cap' zs).holds base B w' S' ∧ (∀ b, l' = some b → l = some b ∨ w.heap.size ≤ b) := by
 subst hsz
 obtain ⟨rfl, hlen⟩ := app_some hz'
 obtain ⟨⟨cells, h1, h2, h3⟩, hbase⟩ := h
 obtain ⟨l', cap', w', hr, hraw, hg, hnew, hold⟩ := run_append_raw (ty := ty) ti hz h0 h128 ht h1 hsrc hlen
 have hrc' : rcs r S (cells ++ news) (xs ++ ys) := rcs_append h2 hrc
 -- what stood settled stands
 have hsat0 : ∀ k o, S k = some o → ∃ o', w'.heap[k]? = some o' ∧ ole o o' := fun k o hk => by
  have hlt := hs.lt hk
  by_cases hkl : l = some k
  ·obtain ⟨o', e1, e2⟩ := hs k o hk
   by_cases hkl' : l' = some k
   ·subst hkl'
    subst hkl
    have h3' := h3 k rfl
    cases mm with
    | false => rw [h3'] at hk; cases hk
    | true =>
     rw [h3'] at hk
     cases hk
     obtain ⟨cur', g1, g2, g3, g4, g5⟩ := hraw
     refine ⟨_, g1, ?_⟩;refine ⟨news ++ cur'.toList.drop ((xs.length + ys.length) * r.sz), ?_⟩
     congr 1
     apply Array.ext'
     rw [← List.append_assoc, ← g5, List.take_append_drop]
   ·rw [hold k hkl hkl']; exact hs k o hk
  ·rw [hg.heap k hlt hkl]; exact hs k o hk
 have hsat : Sat w' S := ⟨hsat0, hs.gl, hs.tb⟩
 have hSn : ∀ b, l' = some b → l ≠ some b → S b = none := fun b hb' hne => by
  cases hq : S b with
  | none => rfl
  | some q =>
   have := hs.lt hq
   rcases hnew b hb' with h | h
   ·exact absurd h hne
   ·omega
 have hbase' : ∀ k, l' = some k → base ≤ k ∨ B k := fun k hk => by
  rcases hnew k hk with h | h
  ·exact hbase k h
  ·exact .inl (by omega)
 have hz2 : (xs ++ ys).length = xs.length + ys.length := List.length_append
 cases mm with
 | false =>
  refine ⟨l', cap', w', S, by rw [hz2]; exact hr, ⟨hg.os, hg.tape, hg.output, hg.drawn, hg.size, fun k hk hkb => hg.heap k hk hkb, SH.le_refl _, fun _ _ _ => rfl⟩, hsat, ⟨⟨cells ++ news, by rw [hz2]; exact hraw, hrc', fun b hb' => ?_⟩, hbase'⟩, hnew⟩
  by_cases hlb : l = some b
  ·exact h3 b hlb
  ·exact hSn b hb' hlb
 | true =>
  cases l' with
  | none =>
   refine ⟨none, cap', w', S, by rw [hz2]; exact hr, ⟨hg.os, hg.tape, hg.output, hg.drawn, hg.size, fun k hk hkb => hg.heap k hk hkb, SH.le_refl _, fun _ _ _ => rfl⟩, hsat, ⟨⟨cells ++ news, by rw [hz2]; exact hraw, hrc', fun b hb' => (by cases hb')⟩, hbase'⟩, hnew⟩
  | some g =>
   have hq3 : ∀ q, S g = some q → ole q (.cells (cells ++ news).toArray T (0, 0)) := fun q hq => by
    by_cases hlb : l = some g
    ·have h4 : S g = some (.cells cells.toArray T (0, 0)) := h3 g hlb
     rw [h4] at hq
     cases hq
     exact ⟨news, by simp⟩
    ·rw [hSn g rfl hlb] at hq; cases hq
   have hle : gy S (S.set g (.cells (cells ++ news).toArray T (0, 0))) := SH.le_set hq3
   obtain ⟨cur', g1, g2, g3, g4, g5⟩ := hraw
   refine ⟨some g, cap', w', S.set g (.cells (cells ++ news).toArray T (0, 0)), by rw [hz2]; exact hr, ⟨hg.os, hg.tape, hg.output, hg.drawn, hg.size, fun k hk hkb => hg.heap k hk hkb, hle, fun k hk hkb => fU _ _ ?_⟩, hsat.set g1 ?_ hq3, ⟨⟨cells ++ news, by rw [hz2]; exact ⟨cur', g1, g2, g3, g4, g5⟩, iV hle hrc', fun b hb' => ?_⟩, hbase'⟩, hnew⟩
   ·rintro rfl
    rcases hnew k rfl with h | h
    ·exact hkb h
    ·omega
   ·refine ⟨cur'.toList.drop ((xs.length + ys.length) * r.sz), ?_⟩
    congr 1
    apply Array.ext'
    rw [← g5, List.take_append_drop]
   ·have hb2 : g = b := Option.some.inj hb'
    subst hb2
    exact eT _ _ _
end Go.Proofs.YtegigakgcnhiaaaGreatDoor

namespace Go.Proofs.YtegigakgcnhiaaaGreatDoor
open Go

theorem apart_symm {e f : OE} (h : e.apart f) : f.apart e := fun b hb he => h b he hb
theorem Own.swap {base : Nat} {B : Nat → Prop} {w : World} {S : SH} {e f : OE} {O : List OE} (h : Own base B w S (e :: f :: O)) : Own base B w S (f :: e :: O) := by
 obtain ⟨h1, h2, h3, h4, h5⟩ := h
 refine ⟨h3, ?_, h1, ?_, h5⟩
 ·intro g hg
  rcases List.mem_cons.1 hg with rfl | hg
  ·exact apart_symm (h2 _ (List.mem_cons_self ..))
  ·exact h4 g hg
 ·intro g hg
  exact h2 g (List.mem_cons_of_mem _ hg)
theorem Own.cong {base : Nat} {B : Nat → Prop} {w : World} {S : SH} {e : OE} {O O' : List OE} (h : Own base B w S (e :: O)) (k : Own base B w S O → Own base B w S O') (hm : ∀ f ∈ O', f ∈ O) : Own base B w S (e :: O') :=
 ⟨h.1, fun f hf => h.2.1 f (hm f hf), k h.2.2⟩
theorem i8 {base : Nat} {B : Nat → Prop} {w : World} {S : SH} {a b c : OE} {O : List OE} (h : Own base B w S (a :: b :: c :: O)) : Own base B w S (c :: a :: b :: O) :=
 (Own.cong h Own.swap (fun f hf => by simp only [List.mem_cons] at hf ⊢; rcases hf with h | h | h <;> simp [h])).swap
theorem i7 {base : Nat} {B : Nat → Prop} {w : World} {S : SH} {a b c d : OE} {O : List OE} (h : Own base B w S (a :: b :: c :: d :: O)) : Own base B w S (d :: a :: b :: c :: O) :=
 (Own.cong h i8 (fun f hf => by simp only [List.mem_cons] at hf ⊢; rcases hf with h | h | h | h <;> simp [h])).swap
section
variable {E : En} {O : List OE} {G : Ctx} {a : Act} {w : World} {S : SH}
theorem St.own_map {O' : List OE} (h : St E O G a w S) (k : Own E.base E.B w S O → Own E.base E.B w S O') : St E O' G a w S := ⟨h.ext, h.sat, k h.own, h.facts⟩
theorem St.base_le (h : St E O G a w S) : E.base ≤ w.heap.size := h.ext.size
theorem St.drop {e : OE} (h : St E (e :: O) G a w S) : St E O G a w S := h.own_map fun h => h.2.2
theorem St.fresh {α : Type} (mm : Bool) (r : Rp α) (T : TypeId) (h : St E O G a w S) : St E (d6 mm r T none 0 [] :: O) G a w S :=
 h.own_map fun h => by refine ⟨⟨⟨[], ⟨rfl, rfl⟩, rfl, fun b hb => (by cases hb)⟩, fun k hk => ?_⟩, fun f _ b hb => ?_, h⟩ <;> (first | cases hk | cases hb)
theorem settle_ext {e : OE} {b : Nat} {o o' : Obj} (h : St E (e :: O) G a w S) (hb : e.fp b) (ho : w.heap[b]? = some o') (hoo : ole o o') (hn : S b = none) : St E O G a w (S.set b o) ∧ gy S (S.set b o) ∧ Ext (fun k => k = b) w S w (S.set b o) ∧ Sat w (S.set b o) := by
 have hbase := h.own.1.2 b hb
 have hle : gy S (S.set b o) := SH.le_set fun q hq => (by rw [hn] at hq; cases hq)
 have hsat : Sat w (S.set b o) := h.sat.set ho hoo fun q hq => by rw [hn] at hq; cases hq
 have hext : Ext (fun k => k = b) w S w (S.set b o) := ⟨rfl, rfl, rfl, Nat.le_refl _, Nat.le_refl _, fun _ _ _ => rfl, hle, fun k _ hk => fU _ _ hk⟩
 refine ⟨⟨h.ext.step hext fun c hc => by subst hc; exact hbase, hsat, h.own.2.2.ext hext fun f hf c hc hm => ?_, h.facts.mono hle⟩, hle, hext, hsat⟩
 subst hm
 exact h.own.2.1 f hf c hb hc
def tO {α : Type} (r : Rp α) (l : Option Nat) (cap : Nat) (xs : List α) : Ty where
 p := fun S v => v = aD l cap xs.length ∧ (tD (rSl r) xs).p S v
 mono := fun h ⟨h1, h2⟩ => ⟨h1, Ty.mono _ h h2⟩
theorem tO_v {N : Fr} {G : Ctx} {x : Operand} {α : Type} {r : Rp α} {l : Option Nat} {cap : Nat} {xs : List α} (h : aA N G x (tO r l cap xs)) : aA N G x (tV (aD l cap xs.length)) := fun S a hf => (h S a hf).1
theorem tO_d {N : Fr} {G : Ctx} {x : Operand} {α : Type} {r : Rp α} {l : Option Nat} {cap : Nat} {xs : List α} (h : aA N G x (tO r l cap xs)) : aA N G x (tD (rSl r) xs) := fun S a hf => (h S a hf).2
theorem d8 {α : Type} {r : Rp α} {T : TypeId} {l : Option Nat} {cap : Nat} {xs : List α} {w : World} {S : SH} (h : j1 true r T l cap xs w S) : (tD (rSl r) xs).p S (aD l cap xs.length) := by
 obtain ⟨cells, h1, h2, h3⟩ := h
 cases l with
 | none =>
  have hx : xs = [] := List.eq_nil_of_length_eq_zero h1.1
  subst hx
  exact tSl_nil
 | some b =>
  obtain ⟨cur, g1, g2, g3, g4, g5⟩ := h1
  refine gb.2 ⟨_, cap, rfl, g2, g3, .inr ⟨b, 0, cells.toArray, T, (0, 0), rfl, h3 b rfl, ?_⟩⟩
  have := gk h2
  rw [List.drop_zero, List.take_of_length_le (by simp [this])]
  exact h2
theorem St.freeze {α : Type} {r : Rp α} {T : TypeId} {l : Option Nat} {cap : Nat} {xs : List α} (h : St E (arr r T l cap xs :: O) G a w S) :
  ∃ S', St E (tip r T l cap xs :: O) G a w S' := by
 obtain ⟨⟨cells, h1, h2, h3⟩, hbase⟩ := h.own.1
 cases l with
 | none => exact ⟨S, h.ext, h.sat, ⟨⟨⟨cells, h1, h2, fun b hb => (by cases hb)⟩, hbase⟩, h.own.2⟩, h.facts⟩
 | some b =>
  obtain ⟨cur, g1, g2, g3, g4, g5⟩ := h1
  have hoo : ole (.cells cells.toArray T (0, 0)) (.cells cur T (0, 0)) := by
   refine ⟨cur.toList.drop (xs.length * r.sz), ?_⟩
   congr 1
   apply Array.ext'
   rw [← g5, List.take_append_drop]
  obtain ⟨h8, hle, _, _⟩ := settle_ext h rfl g1 hoo (h3 b rfl)
  refine ⟨_, h8.ext, h8.sat, ⟨⟨⟨cells, ⟨cur, g1, g2, g3, g4, g5⟩, iV hle h2, fun b' hb' => ?_⟩, hbase⟩, h.own.2.1, h8.own⟩, h8.facts⟩
  have hb2 : b = b' := Option.some.inj hb'
  subst hb2
  exact eT _ _ _
theorem St.settle {α : Type} {mm : Bool} {r : Rp α} {T : TypeId} {l : Option Nat} {cap : Nat} {xs : List α} (h : St E (d6 mm r T l cap xs :: O) G a w S) :
  ∃ S', St E O G a w S' ∧ (tD (rSl r) xs).p S' (aD l cap xs.length) := by
 cases mm with
 | true => exact ⟨S, h.drop, d8 h.own.1.1⟩
 | false =>
  obtain ⟨S', h1⟩ := h.freeze
  exact ⟨S', h1.drop, d8 h1.own.1.1⟩
end

section
variable {E : En} {O : List OE} {G : Ctx} {Q : Exit → Act → World → Prop} {ops : Array Oper} {rest : List Oper} {c : Code} {e : Exit}
theorem facts_cons {N : Fr} {S : SH} {a : Act} {k : Nat} {t : Ty} (h : Facts N S a G) (hk : t.p S (a.tmps.getD k undef)) : Facts N S a ((k, t) :: G) :=
 ⟨h.size, h.defers, fun j u hj => by
  unfold look at hj
  by_cases hb : Nat.beq k j = true
  ·rw [hb] at hj
   have := Nat.eq_of_beq_eq_true hb
   subst this
   rw [← show t = u from by simpa using hj]; exact hk
  ·rw [Bool.not_eq_true] at hb
   rw [hb] at hj
   exact h.at_ j u hj⟩
theorem St.cons {a : Act} {w : World} {S : SH} {k : Nat} {t : Ty} (h : St E O G a w S) (hk : t.p S (a.tmps.getD k undef)) : St E O ((k, t) :: G) a w S := ⟨h.ext, h.sat, h.own, facts_cons h.facts hk⟩
theorem St.settleAt {a : Act} {w : World} {S : SH} {α : Type} {mm : Bool} {r : Rp α} {T : TypeId} {l : Option Nat} {cap n : Nat} {xs : List α} {k : Nat} (h : St E (d6 mm r T l cap xs :: O) G a w S) (hk : look G k = some (tV (aD l cap n))) (hn : n = xs.length) :
  ∃ S', St E O ((k, tD (rSl r) xs) :: G) a w S' := by
 subst hn
 have hv : a.tmps.getD k undef = aD l cap xs.length := h.facts.at_ k _ hk
 obtain ⟨S', h1, h2⟩ := h.settle
 exact ⟨S', h1.cons (by rw [hv]; exact h2)⟩
theorem St.tipAt {a : Act} {w : World} {S : SH} {α : Type} {r : Rp α} {T : TypeId} {l : Option Nat} {cap n : Nat} {xs : List α} {k : Nat} (h : St E (tip r T l cap xs :: O) G a w S) (hk : look G k = some (tV (aD l cap n))) (hn : n = xs.length) :
  St E (tip r T l cap xs :: O) ((k, tO r l cap xs) :: G) a w S := by
 subst hn
 have hv : a.tmps.getD k undef = aD l cap xs.length := h.facts.at_ k _ hk
 exact h.cons ⟨hv, by rw [hv]; exact d8 h.own.1.1⟩
theorem RG.settle {α : Type} {mm : Bool} {r : Rp α} {T : TypeId} {l : Option Nat} {cap n : Nat} {xs : List α} (k : Nat) (hk : look G k = some (tV (aD l cap n))) (h : RG E ops Q rest O ((k, tD (rSl r) xs) :: G)) (hn : n = xs.length := by rfl) : RG E ops Q rest (d6 mm r T l cap xs :: O) G :=
 fun a w _ st => let ⟨S', st'⟩ := st.settleAt hk hn; h a w S' st'
theorem CG.settle {α : Type} {mm : Bool} {r : Rp α} {T : TypeId} {l : Option Nat} {cap n : Nat} {xs : List α} (k : Nat) (hk : look G k = some (tV (aD l cap n))) (h : CG E Q c O ((k, tD (rSl r) xs) :: G)) (hn : n = xs.length := by rfl) : CG E Q c (d6 mm r T l cap xs :: O) G :=
 fun a w _ st => let ⟨S', st'⟩ := st.settleAt hk hn; h a w S' st'
theorem AT.settle {α : Type} {mm : Bool} {r : Rp α} {T : TypeId} {l : Option Nat} {cap n : Nat} {xs : List α} (k : Nat) (hk : look G k = some (tV (aD l cap n))) (h : AT E Q e O ((k, tD (rSl r) xs) :: G)) (hn : n = xs.length := by rfl) : AT E Q e (d6 mm r T l cap xs :: O) G :=
 fun a w _ st => let ⟨S', st'⟩ := st.settleAt hk hn; h a w S' st'
theorem RG.fresh {α : Type} (mm : Bool) (r : Rp α) (T : TypeId) (h : RG E ops Q rest (d6 mm r T none 0 [] :: O) G) : RG E ops Q rest O G := fun a w S st => h a w S (st.fresh mm r T)
theorem CG.fresh {α : Type} (mm : Bool) (r : Rp α) (T : TypeId) (h : CG E Q c (d6 mm r T none 0 [] :: O) G) : CG E Q c O G := fun a w S st => h a w S (st.fresh mm r T)
theorem RG.drop {f : OE} (h : RG E ops Q rest O G) : RG E ops Q rest (f :: O) G := fun a w S st => h a w S st.drop
theorem CG.drop {f : OE} (h : CG E Q c O G) : CG E Q c (f :: O) G := fun a w S st => h a w S st.drop
theorem AT.drop {f : OE} (h : AT E Q e O G) : AT E Q e (f :: O) G := fun a w S st => h a w S st.drop
theorem cL {x y : OE} (h : RG E ops Q rest (y :: x :: O) G) : RG E ops Q rest (x :: y :: O) G := fun a w S st => h a w S (st.own_map Own.swap)
theorem CG.front1 {x y : OE} (h : CG E Q c (y :: x :: O) G) : CG E Q c (x :: y :: O) G := fun a w S st => h a w S (st.own_map Own.swap)
theorem bl {x y : OE} (h : AT E Q e (y :: x :: O) G) : AT E Q e (x :: y :: O) G := fun a w S st => h a w S (st.own_map Own.swap)
theorem er {x y z : OE} (h : RG E ops Q rest (z :: x :: y :: O) G) : RG E ops Q rest (x :: y :: z :: O) G := fun a w S st => h a w S (st.own_map i8)
theorem CG.front2 {x y z : OE} (h : CG E Q c (z :: x :: y :: O) G) : CG E Q c (x :: y :: z :: O) G := fun a w S st => h a w S (st.own_map i8)
theorem iN {x y z : OE} (h : AT E Q e (z :: x :: y :: O) G) : AT E Q e (x :: y :: z :: O) G := fun a w S st => h a w S (st.own_map i8)
theorem gP {x y z u : OE} (h : RG E ops Q rest (u :: x :: y :: z :: O) G) : RG E ops Q rest (x :: y :: z :: u :: O) G := fun a w S st => h a w S (st.own_map i7)
theorem CG.front3 {x y z u : OE} (h : CG E Q c (u :: x :: y :: z :: O) G) : CG E Q c (x :: y :: z :: u :: O) G := fun a w S st => h a w S (st.own_map i7)
theorem dw {x y z u : OE} (h : AT E Q e (u :: x :: y :: z :: O) G) : AT E Q e (x :: y :: z :: u :: O) G := fun a w S st => h a w S (st.own_map i7)
theorem LG.settle {α : Type} {mm : Bool} {r : Rp α} {T : TypeId} {l : Option Nat} {cap n : Nat} {xs : List α} (k : Nat) (hk : look G k = some (tV (aD l cap n))) (h : LG E Q c O ((k, tD (rSl r) xs) :: G)) (hn : n = xs.length := by rfl) : LG E Q c (d6 mm r T l cap xs :: O) G :=
 fun a w _ st => let ⟨S', st'⟩ := st.settleAt hk hn; h a w S' st'
theorem LG.fresh {α : Type} (mm : Bool) (r : Rp α) (T : TypeId) (h : LG E Q c (d6 mm r T none 0 [] :: O) G) : LG E Q c O G := fun a w S st => h a w S (st.fresh mm r T)
theorem LG.drop {f : OE} (h : LG E Q c O G) : LG E Q c (f :: O) G := fun a w S st => h a w S st.drop
theorem fh {x y : OE} (h : LG E Q c (y :: x :: O) G) : LG E Q c (x :: y :: O) G := fun a w S st => h a w S (st.own_map Own.swap)
theorem LG.front2 {x y z : OE} (h : LG E Q c (z :: x :: y :: O) G) : LG E Q c (x :: y :: z :: O) G := fun a w S st => h a w S (st.own_map i8)
theorem LG.front3 {x y z u : OE} (h : LG E Q c (u :: x :: y :: z :: O) G) : LG E Q c (x :: y :: z :: u :: O) G := fun a w S st => h a w S (st.own_map i7)
theorem RG.freeze {α : Type} {r : Rp α} {T : TypeId} {l : Option Nat} {cap : Nat} {xs : List α} (h : RG E ops Q rest (tip r T l cap xs :: O) G) : RG E ops Q rest (arr r T l cap xs :: O) G := fun a w _ st => let ⟨S', st'⟩ := st.freeze; h a w S' st'
theorem RG.tipAt {α : Type} {r : Rp α} {T : TypeId} {l : Option Nat} {cap n : Nat} {xs : List α} (k : Nat) (hk : look G k = some (tV (aD l cap n))) (h : RG E ops Q rest (tip r T l cap xs :: O) ((k, tO r l cap xs) :: G)) (hn : n = xs.length := by rfl) : RG E ops Q rest (tip r T l cap xs :: O) G := fun a w S st => h a w S (st.tipAt hk hn)
theorem CG.freeze {α : Type} {r : Rp α} {T : TypeId} {l : Option Nat} {cap : Nat} {xs : List α} (h : CG E Q c (tip r T l cap xs :: O) G) : CG E Q c (arr r T l cap xs :: O) G := fun a w _ st => let ⟨S', st'⟩ := st.freeze; h a w S' st'
theorem CG.tipAt {α : Type} {r : Rp α} {T : TypeId} {l : Option Nat} {cap n : Nat} {xs : List α} (k : Nat) (hk : look G k = some (tV (aD l cap n))) (h : CG E Q c (tip r T l cap xs :: O) ((k, tO r l cap xs) :: G)) (hn : n = xs.length := by rfl) : CG E Q c (tip r T l cap xs :: O) G := fun a w S st => h a w S (st.tipAt hk hn)
theorem AT.freeze {α : Type} {r : Rp α} {T : TypeId} {l : Option Nat} {cap : Nat} {xs : List α} (h : AT E Q e (tip r T l cap xs :: O) G) : AT E Q e (arr r T l cap xs :: O) G := fun a w _ st => let ⟨S', st'⟩ := st.freeze; h a w S' st'
theorem AT.tipAt {α : Type} {r : Rp α} {T : TypeId} {l : Option Nat} {cap n : Nat} {xs : List α} (k : Nat) (hk : look G k = some (tV (aD l cap n))) (h : AT E Q e (tip r T l cap xs :: O) ((k, tO r l cap xs) :: G)) (hn : n = xs.length := by rfl) : AT E Q e (tip r T l cap xs :: O) G := fun a w S st => h a w S (st.tipAt hk hn)
theorem LG.freeze {α : Type} {r : Rp α} {T : TypeId} {l : Option Nat} {cap : Nat} {xs : List α} (h : LG E Q c (tip r T l cap xs :: O) G) : LG E Q c (arr r T l cap xs :: O) G := fun a w _ st => let ⟨S', st'⟩ := st.freeze; h a w S' st'
theorem LG.tipAt {α : Type} {r : Rp α} {T : TypeId} {l : Option Nat} {cap n : Nat} {xs : List α} (k : Nat) (hk : look G k = some (tV (aD l cap n))) (h : LG E Q c (tip r T l cap xs :: O) ((k, tO r l cap xs) :: G)) (hn : n = xs.length := by rfl) : LG E Q c (tip r T l cap xs :: O) G := fun a w S st => h a w S (st.tipAt hk hn)
theorem aC {α : Type} {r : Rp α} {xs : List α} {k : Nat} (hk : look G k = some (tD (rSl r) xs)) (h : xs.length ≤ maxLen → CG E Q c O G) : CG E Q c O G := fun a w S st => by
 obtain ⟨_, _, _, h1, h2, _⟩ := gb.1 (st.facts.at_ k _ hk)
 exact h (Nat.le_trans h1 h2) a w S st

section
variable {d : Nat} {ty : TypeId} {pos : String} {after : Array Edge}
theorem St.append {a : Act} {w : World} {S : SH} {mm : Bool} {α : Type} {r : Rp α} {T t t' ty : TypeId} {sz bytes : Nat} {agg : Bool} {z : List Value} {l : Option Nat} {cap : Nat} {xs ys zs : List α} {v : Value} {news : List Value} (ti : TI E.P T sz bytes agg z) (hsz : r.sz = sz) (hz : Nat.beq z.length sz = true) (h0 : Nat.blt 0 sz = true) (h128 : Nat.ble bytes 2048 = true)
  (ht : E.P.underlying t = some (.slice T)) (st : St E (d6 mm r T l cap xs :: O) G a w S) (hsrc : Src E.P r.sz t' v ys.length news w) (hrc : rcs r S news ys) (happ : app xs ys = some zs) :
  ∃ l' cap' w' S', (Builtin.append_ #[t, t'] ty #[aD l cap xs.length, v]).run E.P w = .ok (aD l' cap' zs.length) w' ∧ St E (d6 mm r T l' cap' zs :: O) G a w' S' := by
 obtain ⟨l', cap', w', S', hr, hext, hsat, hh, hnew⟩ := run_arr_append (ty := ty) ti hsz hz h0 h128 ht st.sat st.own.1 st.base_le hsrc hrc happ
 refine ⟨l', cap', w', S', hr, st.ext.step hext fun b hb => st.own.1.2 b hb, hsat, ⟨hh, fun f hf b hb hfb => ?_, st.own.2.2.ext hext fun f hf b hb hbl => st.own.2.1 f hf b hbl hb⟩, st.facts.mono hext.keep⟩
 rcases hnew b hb with h | h
 ·exact st.own.2.1 f hf b h hfb
 ·have := f.here (Own.mem st.own.2.2 f hf).1 b hfb
  omega
theorem St.put {a : Act} {w : World} {S : SH} {d : Nat} {v : Value} {t : Ty} (h : St E O G a w S) (hd : Nat.blt d E.N.n = true) (hv : t.p S v) : St E O ((d, t) :: G) (a.put (some d) v) w S := ⟨h.ext, h.sat, h.own, h.facts.put hd hv⟩
theorem RG.appendG {α : Type} {r : Rp α} {T t t' : TypeId} {sz bytes : Nat} {agg : Bool} {z : List Value} {mm : Bool} {l : Option Nat} {cap n : Nat} {xs ys zs : List α} {x y : Operand} {u : Nat → Option Nat → Ty} (ti : TI E.P T sz bytes agg z) (hsz : r.sz = sz) (hz : Nat.beq z.length sz = true) (h0 : Nat.blt 0 sz = true) (h128 : Nat.ble bytes 2048 = true)
  (ht : E.P.underlying t = some (.slice T)) (hd : Nat.blt d E.N.n = true) (hx : aA E.N G x (tV (aD l cap n))) (hy : ∀ a w S, St E (d6 mm r T l cap xs :: O) G a w S → ∃ news, Src E.P r.sz t' (a.eval y) ys.length news w ∧ rcs r S news ys) (happ : app xs ys = some zs)
  (hu : ∀ l' cap' w0 S, (d6 mm r T l' cap' zs).p w0 S → (u cap' l').p S (aD l' cap' zs.length))
  (k : ∀ l' cap', RG E ops Q rest (d6 mm r T l' cap' zs :: O) ((d, u cap' l') :: G)) (hn : n = xs.length) :
  RG E ops Q (⟨some d, .call ⟨.builtin .append, #[x, y], #[t, t']⟩, ty, pos, after, none⟩ :: rest) (d6 mm r T l cap xs :: O) G := .of rfl fun a w S st => by
 subst hn
 have h1 : a.eval x = aD l cap xs.length := hx S a st.facts
 obtain ⟨news, h2, h3⟩ := hy a w S st
 obtain ⟨l', cap', w', S', hr, st'⟩ := st.append (ty := ty) ti hsz hz h0 h128 ht h2 h3 happ
 have hrun : (execOp a.eval ⟨some d, .call ⟨.builtin .append, #[x, y], #[t, t']⟩, ty, pos, after, none⟩).run E.P w = .ok (.value (aD l' cap' zs.length)) w' := by
  simp [execOp, resolve, invoke, builtin, h1, hr]
 refine ⟨fun c h => (by cases h), ?_⟩
 rw [hrun]
 exact k l' cap' _ _ S' (st'.put hd (hu l' cap' w' S' st'.own.1.1))
theorem RG.append {α : Type} {r : Rp α} {T t t' : TypeId} {sz bytes : Nat} {agg : Bool} {z : List Value} {l : Option Nat} {cap n : Nat} {xs ys zs : List α} {x y : Operand} (ti : TI E.P T sz bytes agg z) (hsz : r.sz = sz) (hz : Nat.beq z.length sz = true) (h0 : Nat.blt 0 sz = true) (h128 : Nat.ble bytes 2048 = true)
  (ht : E.P.underlying t = some (.slice T)) (ht' : t' = t) (hd : Nat.blt d E.N.n = true) (hx : aA E.N G x (tV (aD l cap n))) (hy : aA E.N G y (tD (rSl r) ys)) (happ : app xs ys = some zs)
  (k : ∀ l' cap', RG E ops Q rest (arr r T l' cap' zs :: O) ((d, tV (aD l' cap' zs.length)) :: G)) (hn : n = xs.length := by rfl) :
  RG E ops Q (⟨some d, .call ⟨.builtin .append, #[x, y], #[t, t']⟩, ty, pos, after, none⟩ :: rest) (arr r T l cap xs :: O) G := by
 subst ht'
 exact RG.appendG (u := fun cap' l' => tV (aD l' cap' zs.length)) ti hsz hz h0 h128 ht hd hx (fun a w S st => src_of_data ht st.sat (hy S a st.facts)) happ (fun _ _ _ _ _ => rfl) k hn
theorem RG.appendT {α : Type} {r : Rp α} {T t t' : TypeId} {sz bytes : Nat} {agg : Bool} {z : List Value} {l : Option Nat} {cap : Nat} {xs ys zs : List α} {x y : Operand} (ti : TI E.P T sz bytes agg z) (hsz : r.sz = sz) (hz : Nat.beq z.length sz = true) (h0 : Nat.blt 0 sz = true) (h128 : Nat.ble bytes 2048 = true)
  (ht : E.P.underlying t = some (.slice T)) (ht' : t' = t) (hd : Nat.blt d E.N.n = true) (hx : aA E.N G x (tO r l cap xs)) (hy : aA E.N G y (tD (rSl r) ys)) (happ : app xs ys = some zs)
  (k : ∀ l' cap', RG E ops Q rest (tip r T l' cap' zs :: O) ((d, tO r l' cap' zs) :: G)) :
  RG E ops Q (⟨some d, .call ⟨.builtin .append, #[x, y], #[t, t']⟩, ty, pos, after, none⟩ :: rest) (tip r T l cap xs :: O) G := by
 subst ht'
 exact RG.appendG (u := fun cap' l' => tO r l' cap' zs) ti hsz hz h0 h128 ht hd (tO_v hx) (fun a w S st => src_of_data ht st.sat (hy S a st.facts)) happ (fun _ _ _ _ h => ⟨rfl, d8 h⟩) k rfl
theorem RG.appendST {T t t' : TypeId} {bytes : Nat} {agg : Bool} {z : List Value} {l : Option Nat} {cap : Nat} {xs zs : List Int} {s : Str} {x y : Operand} (ti : TI E.P T 1 bytes agg z) (hz : Nat.beq z.length 1 = true) (h128 : Nat.ble bytes 2048 = true)
  (ht : E.P.underlying t = some (.slice T)) (ht' : E.P.underlying t' = some .string) (hd : Nat.blt d E.N.n = true) (hx : aA E.N G x (tO (rI .u8) l cap xs)) (hy : aA E.N G y (tD rS s)) (happ : app xs (dG s) = some zs)
  (k : ∀ l' cap', RG E ops Q rest (tip (rI .u8) T l' cap' zs :: O) ((d, tO (rI .u8) l' cap' zs) :: G)) :
  RG E ops Q (⟨some d, .call ⟨.builtin .append, #[x, y], #[t, t']⟩, ty, pos, after, none⟩ :: rest) (tip (rI .u8) T l cap xs :: O) G :=
 RG.appendG (r := rI .u8) (u := fun cap' l' => tO (rI .u8) l' cap' zs) ti rfl hz rfl h128 ht hd (tO_v hx) (fun a w S st => src_of_str ht' (hy S a st.facts)) happ (fun _ _ _ _ h => ⟨rfl, d8 h⟩) k rfl
end
end
end Go.Proofs.YtegigakgcnhiaaaGreatDoor

namespace Go.Proofs.YtegigakgcnhiaaaGreatDoor
open Go

theorem foldl_splice (off : Nat) : ∀ (cs : List Value) (k : Nat) (pre mid post : List Value), mid.length = cs.length → pre.length = off + k →
  (cs.zipIdx k).foldl (fun (a : Array Value) x => a.setIfInBounds (off + x.2) x.1) (pre ++ mid ++ post).toArray = (pre ++ cs ++ post).toArray
 | [], k, pre, mid, post, hm, _ => by
  have : mid = [] := List.eq_nil_of_length_eq_zero hm
  subst this; simp
 | c :: cs, k, pre, mid, post, hm, hp => by
  cases mid with
  | nil => simp at hm
  | cons m mid =>
   simp only [List.zipIdx_cons, List.foldl_cons]
   have h1 : (pre ++ (m :: mid) ++ post).toArray.setIfInBounds (off + k) c = ((pre ++ [c]) ++ mid ++ post).toArray := by
    rw [← hp]
    simp
   rw [h1, foldl_splice off cs (k + 1) (pre ++ [c]) mid post (by simpa using hm) (by simp; omega)]
   simp
theorem splice_cells (v : Value) (off : Nat) (pre mid post : List Value) (hm : mid.length = v.cells.size) (hp : pre.length = off) :
  v.cells.zipIdx.foldl (fun cs (x : Value × Nat) => cs.setIfInBounds (off + x.2) x.1) (pre ++ mid ++ post).toArray = (pre ++ v.cells.toList ++ post).toArray := by
 have := foldl_splice off v.cells.toList 0 pre mid post (by simpa using hm) (by simpa using hp)
 rw [← this, ← Array.foldl_toList]
 simp [Array.toList_zipIdx]
theorem jG {α : Type} {r : Rp α} {S : SH} {cs : List Value} {x : α} (h : r.rc S cs x) : (r.val cs).cells = cs.toArray := by
 unfold Rp.val
 cases ha : r.agg with
 | true => simp [Value.cells]
 | false =>
  have hl := r.len h
  rw [r.sc ha] at hl
  match cs, hl with
  | [c], _ =>
   have := r.one h c (by simp)
   cases c <;> simp_all [Value.cells, Value.oneCell']
def enumV : Nat → List Value → List (Nat × Value)
 | _, [] => []
 | k, v :: vs => (k, v) :: enumV (k + 1) vs
theorem fill_all {α : Type} {r : Rp α} {S : SH} : ∀ (ys : List α) (vs : List Value) (k : Nat) (pre zs : List Value), Tys S (ys.map (tD r)) vs → pre.length = k * r.sz → zs.length = ys.length * r.sz →
  ∃ cs, rcs r S cs ys ∧ Instr.fill (fun i => some (i * r.sz, r.sz)) (pre ++ zs).toArray (enumV k vs) = some (pre ++ cs).toArray
 | [], [], k, pre, zs, _, _, hz => by
  have : zs = [] := List.eq_nil_of_length_eq_zero (by simpa using hz)
  subst this
  exact ⟨[], rfl, by simp [enumV, Instr.fill]⟩
 | y :: ys, v :: vs, k, pre, zs, ⟨⟨c, e, hc⟩, h2⟩, hp, hz => by
  have hl := r.len hc
  have hz' : r.sz ≤ zs.length := by rw [hz, List.length_cons, Nat.add_mul]; omega
  have e1 : zs = zs.take r.sz ++ zs.drop r.sz := (List.take_append_drop _ _).symm
  have hcells : v.cells = c.toArray := by rw [e]; exact jG hc
  obtain ⟨cs, h3, h4⟩ := fill_all ys vs (k + 1) (pre ++ c) (zs.drop r.sz) h2 (by rw [List.length_append, hp, hl, Nat.add_mul]; omega) (by rw [List.length_drop, hz, List.length_cons, Nat.add_mul]; omega)
  refine ⟨c ++ cs, ⟨c, cs, rfl, hc, h3⟩, ?_⟩
  have hs : v.cells.size = r.sz := by rw [hcells]; simpa using hl
  have hcond : ¬ ((v.cells.size ≠ r.sz) ∨ (k * r.sz + v.cells.size > (pre ++ zs).toArray.size)) := by
   simp [hs]; omega
  have h5 := splice_cells v (k * r.sz) pre (zs.take r.sz) (zs.drop r.sz) (by simp [hs]; omega) hp
  rw [List.append_assoc, ← e1] at h5
  simp only [enumV, Instr.fill]
  rw [if_neg (by simpa using hcond)]
  rw [h5, hcells]
  simpa using h4
def enumO : Nat → List Operand → List (Nat × Operand)
 | _, [] => []
 | k, v :: vs => (k, v) :: enumO (k + 1) vs
theorem enumO_map (ρ : Operand → Value) : ∀ (k : Nat) (xs : List Operand), (enumO k xs).map (fun x => (x.1, ρ x.2)) = enumV k (xs.map ρ)
 | _, [] => rfl
 | k, x :: xs => by simp [enumO, enumV, enumO_map ρ (k + 1) xs]

section
variable {E : En} {O : List OE} {G : Ctx} {dst : Option Tmp} {ty : TypeId} {pos : String} {after : Array Edge} {g : Option (Nat × Bool)}
theorem run_buildSlice {P : Program} {α : Type} {r : Rp α} {ys : List α} {xs : List Operand} {ρ : Operand → Value} {t T : TypeId} {n sz bytes : Nat} {agg : Bool} {z : List Value} {S : SH} (ht : P.underlying t = some (.slice T)) (ti : TI P T sz bytes agg z) (hsz : r.sz = sz)
  (hn : n = ys.length) (hb : Nat.ble (n * sz) 16777216 = true) (hx : Tys S (ys.map (tD r)) (xs.map ρ)) (w : World) :
  ∃ cs, rcs r S cs ys ∧ (Instr.buildSlice t n ((enumO 0 xs).toArray.map fun x => (x.1, ρ x.2))).run P w = .ok (.slice (some ⟨w.heap.size, 0, none⟩) n n) (w.alloc (.cells cs.toArray T (0, 0))) := by
 subst hsz
 have hb' := Nat.le_of_ble_eq_true hb
 obtain ⟨zv, hzr, _⟩ := ti.zero w
 obtain ⟨cs, hc, hfill⟩ := fill_all ys (xs.map ρ) 0 [] ((Array.range (n * r.sz)).map (fun i => (if n * r.sz = 0 then #[] else zv.cells)[i % (if n * r.sz = 0 then #[] else zv.cells).size]!)).toList hx (by simp) (by simp [hn])
 refine ⟨cs, hc, ?_⟩
 have hparts : ((enumO 0 xs).toArray.map fun x => (x.1, ρ x.2)).toList = enumV 0 (xs.map ρ) := by simp [enumO_map]
 simp only [List.nil_append, Array.toArray_toList] at hfill
 have hle : ¬ (n * r.sz > 2 ^ 24) := by omega
 by_cases hn0 : n * r.sz = 0
 ·simp only [hn0, if_true] at hfill
  simp only [Instr.buildSlice, Sem.run_bind, run_underlying ht, Result.andThen_ok, ti.sizeOf, Sem.run_ite, hn0, if_true, Sem.run_pure, hparts, hfill]
  simp [newRow]
 ·simp only [hn0, if_false] at hfill
  simp only [Instr.buildSlice, Sem.run_bind, run_underlying ht, Result.andThen_ok, ti.sizeOf, Sem.run_ite, hle, if_false, hn0, Sem.run_pure, hzr, hparts, hfill]
  simp [newRow]
theorem aO {α : Type} {r : Rp α} {ys : List α} {xs : List Operand} {parts : List (Nat × Operand)} {t T : TypeId} {n sz bytes : Nat} {agg : Bool} {z : List Value} (ht : E.P.underlying t = some (.slice T)) (ti : TI E.P T sz bytes agg z) (hsz : r.sz = sz) (h0 : Nat.blt 0 sz = true)
  (hp : parts = enumO 0 xs) (hn : n = ys.length) (hb : Nat.ble (n * sz) 16777216 = true) (hx : HasTys E.N G xs (ys.map (tD r))) : OpOK E O G ⟨dst, .buildSlice t n parts.toArray, ty, pos, after, g⟩ (tD (rSl r) ys) :=
 .of_run fun a w S hs _ hf => by
  obtain ⟨cs, hc, hr⟩ := run_buildSlice ht ti hsz hn hb (hx.tys hf) w
  subst hsz
  have hb' := Nat.le_of_ble_eq_true hb
  have h0' : 0 < r.sz := by simpa [Nat.blt_eq] using h0
  have hnle : n ≤ n * r.sz := Nat.le_mul_of_pos_right n h0'
  obtain ⟨he, hs'⟩ := jA (w := w) (.cells cs.toArray T (0, 0)) hs
  have hcl := gk hc
  refine ⟨.slice (some ⟨w.heap.size, 0, none⟩) n n, _, _, ?_, he, hs', gb.2 ⟨_, n, by rw [hn], by omega, by simp only [maxLen]; omega, .inr ⟨w.heap.size, 0, cs.toArray, T, (0, 0), rfl, by simp [SH.set], ?_⟩⟩⟩
  ·subst hp
   simp only [execOp, Sem.run_bind, hr, Result.andThen_ok, Sem.run_pure]
  ·have : rcs r (S.set w.heap.size (.cells cs.toArray T (0, 0))) cs ys := iV he.keep hc
   simpa [← hcl] using this
theorem aS {α : Type} {r : Rp α} {v : α} {x : Operand} {T : TypeId} (hx : aA E.N G x (tD r v)) : OpOK E O G ⟨dst, .box T x, ty, pos, after, g⟩ (aF r v) :=
 .of_run fun a w S hs _ hf => by
  obtain ⟨cs, hv, hc⟩ := hx S a hf
  obtain ⟨he, hs'⟩ := jA (w := w) (.cells cs.toArray T (0, 0)) hs
  refine ⟨.pointer (some ⟨w.heap.size, 0, none⟩), _, _, ?_, he, hs', w.heap.size, 0, cs.toArray, T, (0, 0), rfl, by simp [SH.set], ?_⟩
  ·simp [execOp, Instr.box, newVar, newRow, hv, jG hc]
  ·have := r.mono he.keep hc
   have hl := r.len hc
   simpa [← hl] using this
end
end Go.Proofs.YtegigakgcnhiaaaGreatDoor

namespace Go.Proofs.YtegigakgcnhiaaaGreatDoor
open Go

def bj (c : Bool) (t : Ty) : Ty where
 p := fun S v => if c = true then t.p S v else v = undef
 mono := fun h k => by
  split
  ·rename_i hc; rw [if_pos hc] at k; exact t.mono h k
  ·rename_i hc; rw [if_neg hc] at k; exact k
section
variable {E : En} {O : List OE} {G : Ctx} {Q : Exit → Act → World → Prop} {ops : Array Oper} {rest : List Oper}
theorem htO {N : Fr} {k : Nat} {c : Bool} {t : Ty} (h : look G k = some (bj c t)) (hc : c = true) : aA N G (.tmp k) t := fun _ _ hF => by
 have h2 : if c = true then t.p _ (Act.eval _ (.tmp k)) else _ = undef := hF.at_ k _ h
 rw [if_pos hc] at h2; exact h2
def ju (c b : Bool) : Ty := bj c (tD rB b)
theorem jt {k : Nat} {b : Bool} (h : look G k = some (tD rB b)) : aA E.N G (.tmp k) (ju true b) := fun _ _ hF => by
 have h2 : (tD rB b).p _ (Act.eval _ (.tmp k)) := hF.at_ k _ h
 simp only [ju, bj, if_true]
 exact h2
theorem guard_opt {k : Nat} {c b : Bool} (h : look G k = some (bj c (tD rB b))) : aA E.N G (.tmp k) (ju c b) := fun _ _ hF => hF.at_ k _ h
theorem wanted_iff {o : Oper} {j gs : Nat} {pol c b : Bool} {S : SH} {a : Act} (hg : o.guard = some (j, pol)) (hj : (ops[j]?).bind (·.dst) = some gs) (hn : gs < a.tmps.size) (hv : (ju c b).p S (a.tmps.getD gs undef)) :
  Region.wanted o (yielded ops a.tmps) = (c && (b == pol)) := by
 have hget : a.tmps[gs]? = some (a.tmps.getD gs undef) := by
  rw [Array.getD_eq_getD_getElem?, Array.getElem?_eq_getElem hn]; rfl
 unfold Region.wanted
 rw [hg]
 simp only [yielded, hj, Option.bind_some, hget]
 cases c with
 | true =>
  have : a.tmps.getD gs undef = .bool b := db.1 (by simpa [ju, bj] using hv)
  rw [this]
  cases b <;> cases pol <;> rfl
 | false =>
  have : a.tmps.getD gs undef = undef := by simpa [ju, bj] using hv
  rw [this]
  cases pol <;> rfl
theorem RG.opG {d j gs : Nat} {pol c b : Bool} {op : Op} {ty : TypeId} {pos : String} {after : Array Edge} {t : Ty} (hj : (ops[j]?).bind (·.dst) = some gs) (hgs : Nat.blt gs E.N.n = true) (hg : aA E.N G (.tmp gs) (ju c b)) (hd : Nat.blt d E.N.n = true)
  (h : (c && (b == pol)) = true → OpOK E O G ⟨some d, op, ty, pos, after, some (j, pol)⟩ t) (k : RG E ops Q rest O ((d, bj (c && (b == pol)) t) :: G)) :
  RG E ops Q (⟨some d, op, ty, pos, after, some (j, pol)⟩ :: rest) O G := fun a w S st => by
 have hgs' : gs < a.tmps.size := by rw [st.facts.size]; simpa [Nat.blt_eq] using hgs
 have hw := wanted_iff (o := ⟨some d, op, ty, pos, after, some (j, pol)⟩) rfl hj hgs' (hg S a st.facts)
 refine wpListIn_step fun K hK => ?_
 rw [hw]
 by_cases hc : (c && (b == pol)) = true
 ·rw [if_pos hc]
  refine eX (fun a' w' ⟨v, S', ha, he, hs, hv⟩ => ?_) (h hc a w S st.sat st.own st.facts)
  subst ha
  refine hK _ _ (k _ _ _ (st.step he hs hd ?_))
  simpa only [bj, hc, if_true] using hv
 ·rw [if_neg hc]
  refine ⟨fun _ _ => trivial, hK _ _ (k _ _ S (st.step (Ext.refl _ _ _) st.sat hd ?_))⟩
  show if _ then _ else _
  rw [if_neg hc]
end

structure Nd where
 slot : Nat
 ty : Ty
 src : Option Nat
def OpG (E : En) (O : List OE) (ops : Array Oper) (need : Ctx) (o : Oper) (t : Ty) : Prop :=
 ∀ a w S, Sat w S → Own E.base E.B w S O → Facts E.N S a need →
  if Region.wanted o (yielded ops a.tmps) then opWp E.P o a w (fun a' w' => ∃ v S', a' = a.put o.dst v ∧ Ext noB w S w' S' ∧ Sat w' S' ∧ t.p S' v) else t.p S undef
def ex : List Nd → Ctx
 | [] => []
 | n :: l => (n.slot, n.ty) :: ex l
def waits (o : Oper) (j : Nat) : Bool := o.after.toList.any fun e => Nat.beq e.on j && Region.binds .any e
def j7 (l : List Oper) (o : Oper) (i : Nat) (n : Nd) : Bool :=
 match n.src with
 | some j => (match l[j]? with | some p => (match p.dst with | some d => Nat.beq d n.slot | none => false) | none => false) && waits o j
 | none => l.all fun p => (match p.dst with | some d => !(Nat.beq d n.slot) | none => true) || waits p i
def NdOK (G : Ctx) (ts : List Ty) (n : Nd) : Prop :=
 match n.src with
 | some j => ts[j]? = some n.ty
 | none => look G n.slot = some n.ty
def NdsOK (G : Ctx) (ts : List Ty) : List Nd → Prop
 | [] => True
 | n :: l => NdOK G ts n ∧ NdsOK G ts l
theorem NdsOK.mem {G : Ctx} {ts : List Ty} : ∀ {l : List Nd}, NdsOK G ts l → ∀ n ∈ l, NdOK G ts n
 | _ :: _, ⟨h, _⟩, _, .head _ => h
 | _ :: _, ⟨_, h⟩, _, .tail _ hm => NdsOK.mem h _ hm
def dstN (o : Oper) : Nat := o.dst.getD 0
def cV (i : Nat) (o : Oper) : Bool := o.after.toList.all fun e => !(Region.binds .any e) || Nat.blt e.on i
def DR (E : En) (O : List OE) (G : Ctx) (l : List Oper) (ts : List Ty) : Nat → List Oper → Prop
 | _, [] => True
 | i, o :: rest => (∃ (needs : List Nd) (t : Ty), ts[i]? = some t ∧ NdsOK G ts needs ∧ (needs.all (j7 l o i)) = true ∧ cV i o = true ∧ OpG E O l.toArray (ex needs) o t) ∧ DR E O G l ts (i + 1) rest
def j8 (N : Nat) : List Nat → List Oper → Bool
 | _, [] => true
 | seen, o :: rest => (match o.dst with | some d => Nat.blt d N && !(seen.any (Nat.beq d)) && j8 N (d :: seen) rest | none => false)
def DRAt (E : En) (O : List OE) (G : Ctx) (l : List Oper) (ts : List Ty) (i : Nat) (o : Oper) : Prop :=
 ∃ (needs : List Nd) (t : Ty), ts[i]? = some t ∧ NdsOK G ts needs ∧ (needs.all (j7 l o i)) = true ∧ cV i o = true ∧ OpG E O l.toArray (ex needs) o t
theorem DR.get {E : En} {O : List OE} {G : Ctx} {l : List Oper} {ts : List Ty} (r : List Oper) : ∀ (k : Nat), DR E O G l ts k r → ∀ (j : Nat) (o : Oper), r[j]? = some o → DRAt E O G l ts (k + j) o := by
 induction r with
 | nil => intro k _ j o h; simp at h
 | cons p r ih =>
  intro k h j o ho
  cases j with
  | zero => simp at ho; subst ho; exact h.1
  | succ j =>
   have := ih (k + 1) h.2 j o (by simpa using ho)
   rwa [show k + 1 + j = k + (j + 1) from by omega] at this
theorem slotsB_spec {N : Nat} (l : List Oper) : ∀ (seen : List Nat), j8 N seen l = true →
  (∀ o : Oper, o ∈ l → ∃ d, o.dst = some d ∧ d < N ∧ d ∉ seen) ∧ ∀ (i j : Nat) (o p : Oper), l[i]? = some o → l[j]? = some p → o.dst = p.dst → i = j := by
 induction l with
 | nil => exact fun _ _ => ⟨fun _ h => (by cases h), fun _ _ _ _ h => (by simp at h)⟩
 | cons o l ih =>
  intro seen h
  unfold j8 at h
  cases hd : o.dst with
  | none => rw [hd] at h; cases h
  | some d =>
   rw [hd] at h
   simp only [Bool.and_eq_true, Bool.not_eq_true'] at h
   obtain ⟨⟨h1, h2⟩, h3⟩ := h
   have h2' : d ∉ seen := fun hm => by
    rw [List.any_eq_false] at h2
    exact h2 d hm (by simp)
   obtain ⟨ih1, ih2⟩ := ih _ h3
   refine ⟨fun q hq => ?_, fun i j q p hi hj hdp => ?_⟩
   ·rcases List.mem_cons.1 hq with rfl | hq
    ·exact ⟨d, hd, by simpa [Nat.blt_eq] using h1, h2'⟩
    ·obtain ⟨d', e1, e2, e3⟩ := ih1 q hq
     exact ⟨d', e1, e2, fun hm => e3 (List.mem_cons_of_mem _ hm)⟩
   ·cases i with
    | zero =>
     cases j with
     | zero => rfl
     | succ j =>
      simp at hi hj
      subst hi
      obtain ⟨d', e1, _, e3⟩ := ih1 p (List.mem_of_getElem? hj)
      rw [hd, e1] at hdp
      have e4 : d = d' := by simpa using hdp
      exact absurd (by rw [e4]; exact List.mem_cons_self ..) e3
    | succ i =>
     cases j with
     | zero =>
      simp at hi hj
      subst hj
      obtain ⟨d', e1, _, e3⟩ := ih1 q (List.mem_of_getElem? hi)
      rw [hd, e1] at hdp
      have e4 : d' = d := by simpa using hdp
      exact absurd (by rw [e4]; exact List.mem_cons_self ..) e3
     | succ j => rw [ih2 i j q p (by simpa using hi) (by simpa using hj) hdp]

structure DJ (E : En) (O : List OE) (G : Ctx) (l : List Oper) (ts : List Ty) (done : Array Bool) (a : Act) (w : World) (S : SH) : Prop where
 ext : Ext E.B E.w0 E.S0 w S
 sat : Sat w S
 own : Own E.base E.B w S O
 size : a.tmps.size = E.N.n
 defers : a.defers = E.N.ds
 dsz : done.size = l.length
 down : ∀ j o, l[j]? = some o → done.getD j false = true → ∀ e ∈ o.after, Region.binds .any e = true → done.getD e.on false = true
 old : ∀ k t, look G k = some t → (∀ j o, l[j]? = some o → done.getD j false = true → o.dst ≠ some k) → t.p S (a.tmps.getD k undef)
 new : ∀ j o d t, l[j]? = some o → done.getD j false = true → o.dst = some d → ts[j]? = some t → t.p S (a.tmps.getD d undef)
theorem DJ.need {E : En} {O : List OE} {G : Ctx} {l : List Oper} {ts : List Ty} {done : Array Bool} {a : Act} {w : World} {S : SH} (h : DJ E O G l ts done a w S) {i : Nat} {o : Oper} (hi : l[i]? = some o) (hun : done.getD i true = false)
  (hwait : ∀ e ∈ o.after, Region.binds .any e = true → done.getD e.on false = true) {needs : List Nd} (h1 : NdsOK G ts needs) (h2 : (needs.all (j7 l o i)) = true) : Facts E.N S a (ex needs) := by
 have hlt : i < done.size := by rw [h.dsz]; exact (List.getElem?_eq_some_iff.1 hi).1
 have hun' : done.getD i false = false := by
  simp [hlt] at hun ⊢; exact hun
 refine ⟨h.size, h.defers, ?_⟩
 have key : ∀ n ∈ needs, n.ty.p S (a.tmps.getD n.slot undef) := by
  intro n hn
  have hs := List.all_eq_true.1 h2 n hn
  have ho := h1.mem n hn
  unfold j7 at hs
  unfold NdOK at ho
  cases hsrc : n.src with
  | some j =>
   rw [hsrc] at hs ho
   simp only [Bool.and_eq_true] at hs
   obtain ⟨hs1, hs2⟩ := hs
   cases hj : l[j]? with
   | none => rw [hj] at hs1; cases hs1
   | some p =>
    rw [hj] at hs1
    cases hd : p.dst with
    | none => simp only [hd] at hs1; cases hs1
    | some d =>
     simp only [hd] at hs1
     have hd' := Nat.eq_of_beq_eq_true hs1
     subst hd'
     have hdone : done.getD j false = true := by
      unfold waits at hs2
      obtain ⟨e, he0, hb⟩ := List.any_eq_true.1 hs2
      have he : e ∈ o.after := by simpa using he0
      simp only [Bool.and_eq_true] at hb
      have := hwait e he hb.2
      rwa [Nat.eq_of_beq_eq_true hb.1] at this
     exact h.new j p n.slot n.ty hj hdone hd ho
  | none =>
   rw [hsrc] at hs ho
   refine h.old _ _ ho fun j p hj hdone hd => ?_
   have := List.all_eq_true.1 hs p (List.mem_of_getElem? hj)
   simp only [hd, Nat.beq_refl, Bool.not_true, Bool.false_or] at this
   unfold waits at this
   obtain ⟨e, he0, hb⟩ := List.any_eq_true.1 this
   have he : e ∈ p.after := by simpa using he0
   simp only [Bool.and_eq_true] at hb
   have h3 := h.down j p hj hdone e he hb.2
   rw [Nat.eq_of_beq_eq_true hb.1] at h3
   rw [h3] at hun'
   cases hun'
 clear h1 h2
 intro k t hk
 induction needs with
 | nil => simp [ex, look] at hk
 | cons n needs ih =>
  unfold ex look at hk
  by_cases hb : Nat.beq n.slot k = true
  ·rw [hb] at hk
   have := Nat.eq_of_beq_eq_true hb
   subst this
   have e : n.ty = t := by simpa using hk
   rw [← e]
   exact key n (List.mem_cons_self ..)
  ·rw [Bool.not_eq_true] at hb
   rw [hb] at hk
   exact ih (fun m hm => key m (List.mem_cons_of_mem _ hm)) hk
def outG : List Oper → List Ty → Ctx → Ctx
 | o :: l, t :: ts, G => (dstN o, t) :: outG l ts G
 | _, _, G => G
theorem look_outG {G : Ctx} (l : List Oper) : ∀ (ts : List Ty) (k : Nat) (t : Ty), (∀ o : Oper, o ∈ l → o.dst ≠ none) → ts.length = l.length → look (outG l ts G) k = some t →
  (∃ (j : Nat) (o : Oper), l[j]? = some o ∧ o.dst = some k ∧ ts[j]? = some t) ∨ (look G k = some t ∧ ∀ o : Oper, o ∈ l → o.dst ≠ some k) := by
 induction l with
 | nil =>
  intro ts k t _ hl h
  have : ts = [] := List.eq_nil_of_length_eq_zero (by simpa using hl)
  subst this
  exact .inr ⟨h, fun _ h => (by cases h)⟩
 | cons o l ih =>
  intro ts k t hne hl h
  cases ts with
  | nil => simp at hl
  | cons u ts =>
   unfold outG look at h
   by_cases hb : Nat.beq (dstN o) k = true
   ·rw [hb] at h
    have hk := Nat.eq_of_beq_eq_true hb
    refine .inl ⟨0, o, rfl, ?_, by simpa using h⟩
    cases hd : o.dst with
    | none => exact absurd hd (hne o (List.mem_cons_self ..))
    | some d => simp only [dstN, hd, Option.getD_some] at hk; rw [hk]
   ·rw [Bool.not_eq_true] at hb
    rw [hb] at h
    rcases ih ts k t (fun p hp => hne p (List.mem_cons_of_mem _ hp)) (by simpa using hl) h with ⟨j, p, h1, h2, h3⟩ | ⟨h1, h2⟩
    ·exact .inl ⟨j + 1, p, by simpa using h1, h2, by simpa using h3⟩
    ·refine .inr ⟨h1, fun p hp hd => ?_⟩
     rcases List.mem_cons.1 hp with rfl | hp
     ·simp [dstN, hd] at hb
     ·exact h2 p hp hd
theorem gR {a : Act} {d k : Nat} {v : Value} (hd : d < a.tmps.size) : (a.put (some d) v).tmps.getD k undef = if d = k then v else a.tmps.getD k undef := by
 by_cases h : d = k
 ·subst h; simp [Act.put, Array.getD_eq_getD_getElem?, hd]
 ·simp [Act.put, Array.getD_eq_getD_getElem?, h]
theorem DJ.step {E : En} {O : List OE} {G : Ctx} {l : List Oper} {ts : List Ty} {done : Array Bool} {a : Act} {w w' : World} {S S' : SH} (h : DJ E O G l ts done a w S) (hsl : j8 E.N.n [] l = true) {i : Nat} {o : Oper} {t : Ty} {v : Value} (hi : l[i]? = some o)
  (hwait : ∀ e ∈ o.after, Region.binds .any e = true → done.getD e.on false = true) (ht : ts[i]? = some t) (hun : done.getD i true = false)
  (hext : Ext noB w S w' S') (hsat : Sat w' S') (hv : t.p S' v) : DJ E O G l ts (done.setIfInBounds i true) (a.put o.dst v) w' S' := by
 obtain ⟨hs1, hs2⟩ := slotsB_spec l [] hsl
 obtain ⟨d, hd, hdN, _⟩ := hs1 o (List.mem_of_getElem? hi)
 have hda : d < a.tmps.size := by rw [h.size]; exact hdN
 have hlt : i < done.size := by rw [h.dsz]; exact (List.getElem?_eq_some_iff.1 hi).1
 have hset : ∀ j, (done.setIfInBounds i true).getD j false = true → j = i ∨ done.getD j false = true := fun j hj => by
  by_cases hij : i = j
  ·exact .inl hij.symm
  ·rw [getD_set_ne false hij] at hj; exact .inr hj
 have hseti : (done.setIfInBounds i true).getD i false = true := by simp [hlt]
 have hun' : done.getD i false = false := by simp [hlt] at hun ⊢; exact hun
 refine ⟨h.ext.step0 hext, hsat, h.own.ext0 hext, ?_, ?_, by simp [h.dsz], fun j p hj hdone e he hb => ?_, fun k u hk hno => ?_, fun j p d' u hj hdone hd' hu => ?_⟩
 ·rw [hd]; simp [Act.put, h.size]
 ·rw [hd]; exact h.defers
 ·rcases hset j hdone with rfl | hj'
  ·rw [hi] at hj
   have : o = p := by simpa using hj
   subst this
   exact getD_set_true (hwait e he hb)
  ·exact getD_set_true (h.down j p hj hj' e he hb)
 ·have hne : d ≠ k := fun e => hno i o hi hseti (by rw [hd, e])
  rw [hd, gR hda, if_neg hne]
  exact u.mono hext.keep (h.old k u hk fun j p hj hdone => hno j p hj (getD_set_true hdone))
 ·rw [hd, gR hda]
  rcases hset j hdone with rfl | hj'
  ·rw [hi] at hj
   have : o = p := by simpa using hj
   subst this
   rw [hd] at hd'
   have : d = d' := by simpa using hd'
   subst this
   rw [if_pos rfl]
   rw [ht] at hu
   have : t = u := by simpa using hu
   subst this
   exact hv
  ·have hne : d ≠ d' := fun e => by
    subst e
    have := hs2 i j o p hi hj (by rw [hd, hd'])
    subst this
    rw [hj'] at hun'; cases hun'
   rw [if_neg hne]
   exact u.mono hext.keep (h.new j p d' u hj hj' hd' hu)
theorem all_done {l : List Oper} {done : Array Bool} (hsz : done.size = l.length) (hedge : ∀ i o, l[i]? = some o → cV i o = true) (hr : Region.ready .any l.toArray done = []) : ∀ n i, i < n → i < l.length → done.getD i false = true
 | 0, i, h, _ => by omega
 | n + 1, i, h, hi => by
  have ih := all_done hsz hedge hr n
  by_cases hd : done.getD i true = true
  ·have : i < done.size := by omega
   simp [this] at hd ⊢; exact hd
  ·exfalso
   have hmem : i ∈ Region.ready .any l.toArray done := by
    rw [mem_ready]
    refine ⟨by simpa using hd, l[i], by simp [hi], fun e he hb => ?_⟩
    have := hedge i l[i] (by simp [hi])
    unfold cV at this
    have := List.all_eq_true.1 this e (by simpa using he)
    simp only [hb, Bool.not_true, Bool.false_or, Nat.blt_eq] at this
    exact ih e.on (by omega) (by omega)
   rw [hr] at hmem
   cases hmem
def eA (done : Array Bool) : Nat := done.toList.countP (· == false)
theorem iQ {done : Array Bool} {i : Nat} (h : done.getD i true = false) : eA (done.setIfInBounds i true) + 1 = eA done := by
 have hlt : i < done.size := by
  rcases Nat.lt_or_ge i done.size with h' | h'
  ·exact h'
  ·simp [Array.getElem?_eq_none h'] at h
 have hv : done[i] = false := by simpa [hlt] using h
 unfold eA
 rw [Array.toList_setIfInBounds, List.countP_set (by simpa using hlt)]
 have h2 : (done.toList[i]'(by simpa using hlt)) = false := by simpa using hv
 have hpos : 0 < done.toList.countP (· == false) := List.countP_pos_iff.2 ⟨done.toList[i]'(by simpa using hlt), List.getElem_mem _, by rw [h2]; rfl⟩
 rw [h2, if_pos (show (false == false) = true from rfl), if_neg (show ¬ ((true == false) = true) by decide)]
 omega
theorem wpAny_draw {E : En} {O : List OE} {G : Ctx} {l : List Oper} {ts : List Ty} {Q : Exit → Act → World → Prop} (hsl : j8 E.N.n [] l = true) (hd : DR E O G l ts 0 l)
  (hQ : ∀ done a w S, DJ E O G l ts done a w S → (∀ i, i < l.length → done.getD i false = true) → Q .normal a w) :
  ∀ (fuel : Nat) (done : Array Bool) (a : Act) (w : World) (S : SH), eA done = fuel → DJ E O G l ts done a w S → wpAnyIn (fw E.r) 0 E.P .any l.toArray Q fuel done a w := by
 have hedge : ∀ i o, l[i]? = some o → cV i o = true := fun i o hi => by
  obtain ⟨_, _, _, _, _, h, _⟩ := DR.get l 0 hd i o hi
  simpa using h
 have fin : ∀ done a w S, DJ E O G l ts done a w S → Region.ready .any l.toArray done = [] → Q .normal a w := fun done a w S h hr =>
  hQ done a w S h fun i hi => all_done h.dsz hedge hr (i + 1) i (by omega) hi
 intro fuel
 induction fuel with
 | zero =>
  intro done a w S hu h
  have hr : Region.ready .any l.toArray done = [] := by
   cases hr : Region.ready .any l.toArray done with
   | nil => rfl
   | cons i r =>
    have hm : i ∈ Region.ready .any l.toArray done := by rw [hr]; exact List.mem_cons_self ..
    have := iQ (mem_ready.1 hm).1
    omega
  exact ⟨hr, fin done a w S h hr⟩
 | succ fuel ih =>
  intro done a w S hu h
  refine ⟨fin done a w S h, fun i hi => ?_⟩
  obtain ⟨hun, o, ho, hwait⟩ := mem_ready.1 hi
  have ho' : l[i]? = some o := by simpa using ho
  obtain ⟨needs, t, h1, h2, h3, _, h5⟩ := DR.get l 0 hd i o ho'
  rw [Nat.zero_add] at h1 h3
  have hF := h.need ho' hun hwait h2 h3
  have h6 := h5 a w S h.sat h.own hF
  have hu' : eA (done.setIfInBounds i true) = fuel := by have := iQ hun; omega
  unfold wpOpIn
  rw [ho]
  show if _ then _ else _
  by_cases hw : Region.wanted o (yielded l.toArray a.tmps) = true
  ·rw [if_pos hw] at h6 ⊢
   refine eX (fun a' w' ⟨v, S', ha, he, hs, hv⟩ => ?_) h6
   subst ha
   exact ih _ _ _ S' hu' (h.step hsl ho' hwait h1 hun he hs hv)
  ·rw [if_neg hw] at h6 ⊢
   exact ⟨fun _ _ => trivial, ih _ _ _ S hu' (h.step hsl ho' hwait h1 hun (Ext.refl _ _ _) h.sat h6)⟩
section
variable {E : En} {O : List OE} {G : Ctx} {Q : Exit → Act → World → Prop}
theorem cn {id : Nat} {l : List Oper} {ts : List Ty} (hm : E.P.follows .mixedOrders = true) (hsl : j8 E.N.n [] l = true) (hlen : ts.length = l.length) (hd : DR E O G l ts 0 l) (k : AT E Q .normal O (outG l ts G)) :
  CG E Q (.region id l.toArray true) O G := fun a w S st => by
 refine wpIn_region_any hm ?_
 obtain ⟨he, hs⟩ := Ext.draw (w := w) st.sat
 refine wpAny_draw hsl hd (fun done a w S h hall => k a w S ⟨h.ext, h.sat, h.own, h.size, h.defers, fun j t hj => ?_⟩) _ _ _ _ S ?_
  ⟨st.ext.step0 he, hs, st.own.ext0 he, st.facts.size, st.facts.defers, by simp, fun j o hj hdone => ?_, fun k t hk _ => st.facts.at_ k t hk, fun j o d t hj hdone => ?_⟩
 ·obtain ⟨hs1, _⟩ := slotsB_spec l [] hsl
  rcases look_outG l ts j t (fun o ho e => by obtain ⟨d, hd, _⟩ := hs1 o ho; rw [hd] at e; cases e) hlen hj with ⟨i, o, h1, h2, h3⟩ | ⟨h1, h2⟩
  ·exact h.new i o j t h1 (hall i (List.getElem?_eq_some_iff.1 h1).1) h2 h3
  ·exact h.old j t h1 fun i o ho _ => h2 o (List.mem_of_getElem? ho)
 ·unfold eA; rw [Array.toList_replicate, List.countP_replicate]; simp
 ·simp [Array.getElem?_replicate] at hdone
  split at hdone <;> simp at hdone
 ·simp [Array.getElem?_replicate] at hdone
  split at hdone <;> simp at hdone
theorem af {ops : Array Oper} {need : Ctx} {o : Oper} {t : Ty} (hg : o.guard = none) (h : OpOK E O need o t) : OpG E O ops need o t := fun a w S hs ho hf => by
 have : Region.wanted o (yielded ops a.tmps) = true := by unfold Region.wanted; rw [hg]
 rw [this, if_pos rfl]
 exact h a w S hs ho hf
theorem OpG.guarded {l : List Oper} {need : Ctx} {o : Oper} {t : Ty} {j gs : Nat} {pol c b : Bool} (hg : o.guard = some (j, pol)) (hj : ((l.toArray)[j]?).bind (·.dst) = some gs) (hgs : Nat.blt gs E.N.n = true) (hb : aA E.N need (.tmp gs) (ju c b))
  (h : (c && (b == pol)) = true → OpOK E O need o t) : OpG E O l.toArray need o (bj (c && (b == pol)) t) := fun a w S hs ho hf => by
 have hw := wanted_iff (ops := l.toArray) hg hj (by rw [hf.size]; simpa [Nat.blt_eq] using hgs) (hb S a hf)
 rw [hw]
 by_cases hc : (c && (b == pol)) = true
 ·rw [if_pos hc]
  refine e9 (fun a' w' ⟨v, S', ha, he, hs, hv⟩ => ⟨v, S', ha, he, hs, ?_⟩) (h hc a w S hs ho hf)
  show if _ then _ else _
  rw [if_pos hc]; exact hv
 ·rw [if_neg hc]
  show if _ then _ else _
  rw [if_neg hc]
end
end Go.Proofs.YtegigakgcnhiaaaGreatDoor

namespace Go.Proofs.YtegigakgcnhiaaaGreatDoor
open Go
section
variable {E : En} {O : List OE} {G : Ctx} {Q : Exit → Act → World → Prop}
theorem CG.bjoin0 {id : Nat} {c : Code} {Z : Prop} {Of : List OE} {Gf : Ctx} (hK : Z → AT E Q .normal (Of) (Gf))
  (h : (Z → AT E Q .normal (Of) (Gf)) → CG E (Exit.inBlock id Q) c O G) : CG E Q (.block id c) O G := CG.block (h hK)
theorem d7 {c : Code} {α0 : Type} {Z : Nat → α0 → Prop} {Of : α0 → List OE} {Gf : α0 → Ctx} (h0 : ∀ x0, Z 0 x0 → False)
  (h : ∀ n, (∀ x0, Z n x0 → LG E Q c (Of x0) (Gf x0)) → ∀ x0, Z (n + 1) x0 → LG E Q c (Of x0) (Gf x0)) : ∀ n, ∀ x0, Z n x0 → LG E Q c (Of x0) (Gf x0)
 | 0 => fun x0 hz => (h0 x0 hz).elim
 | n + 1 => h n (d7 h0 h n)
theorem bf {c : Code} {β : Type} {α0 : Type} {Z : List β → α0 → Prop} {Of : List β → α0 → List OE} {Gf : List β → α0 → Ctx} (h0 : ∀ x0, Z [] x0 → LG E Q c (Of [] x0) (Gf [] x0))
  (h : ∀ b l, (∀ x0, Z l x0 → LG E Q c (Of l x0) (Gf l x0)) → ∀ x0, Z (b :: l) x0 → LG E Q c (Of (b :: l) x0) (Gf (b :: l) x0)) : ∀ l, ∀ x0, Z l x0 → LG E Q c (Of l x0) (Gf l x0)
 | [] => h0
 | b :: l => h b l (bf h0 h l)
theorem LG.nat1 {c : Code} {α0 : Type} {Z : Nat → α0 → Prop} {Of : Nat → α0 → List OE} {Gf : Nat → α0 → Ctx} (h0 : ∀ x0, Z 0 x0 → LG E Q c (Of 0 x0) (Gf 0 x0))
  (h : ∀ n, (∀ x0, Z n x0 → LG E Q c (Of n x0) (Gf n x0)) → ∀ x0, Z (n + 1) x0 → LG E Q c (Of (n + 1) x0) (Gf (n + 1) x0)) : ∀ n, ∀ x0, Z n x0 → LG E Q c (Of n x0) (Gf n x0)
 | 0 => h0
 | n + 1 => h n (LG.nat1 h0 h n)
theorem CG.bjoin1 {id : Nat} {c : Code} {α0 : Type} {Z : α0 → Prop} {Of : α0 → List OE} {Gf : α0 → Ctx} (hK : ∀ x0, Z x0 → AT E Q .normal (Of x0) (Gf x0))
  (h : (∀ x0, Z x0 → AT E Q .normal (Of x0) (Gf x0)) → CG E (Exit.inBlock id Q) c O G) : CG E Q (.block id c) O G := CG.block (h hK)
theorem j4 {x y : Code} {α0 : Type} {Z : α0 → Prop} {Of : α0 → List OE} {Gf : α0 → Ctx} (hK : ∀ x0, Z x0 → CG E Q y (Of x0) (Gf x0))
  (h : (∀ x0, Z x0 → AT E (Exit.then (y.wpIn (fw E.r) 0 E.P Q) Q) .normal (Of x0) (Gf x0)) → CG E (Exit.then (y.wpIn (fw E.r) 0 E.P Q) Q) x O G) : CG E Q (.seq x y) O G := CG.seq (h (fun x0 => fun hz => hK x0 hz))
theorem LG.ind2 {c : Code} {α0 α1 : Type} {Z : Nat → α0 → α1 → Prop} {Of : α0 → α1 → List OE} {Gf : α0 → α1 → Ctx} (h0 : ∀ x0 x1, Z 0 x0 x1 → False)
  (h : ∀ n, (∀ x0 x1, Z n x0 x1 → LG E Q c (Of x0 x1) (Gf x0 x1)) → ∀ x0 x1, Z (n + 1) x0 x1 → LG E Q c (Of x0 x1) (Gf x0 x1)) : ∀ n, ∀ x0 x1, Z n x0 x1 → LG E Q c (Of x0 x1) (Gf x0 x1)
 | 0 => fun x0 x1 hz => (h0 x0 x1 hz).elim
 | n + 1 => h n (LG.ind2 h0 h n)
theorem ii {c : Code} {β : Type} {α0 α1 : Type} {Z : List β → α0 → α1 → Prop} {Of : List β → α0 → α1 → List OE} {Gf : List β → α0 → α1 → Ctx} (h0 : ∀ x0 x1, Z [] x0 x1 → LG E Q c (Of [] x0 x1) (Gf [] x0 x1))
  (h : ∀ b l, (∀ x0 x1, Z l x0 x1 → LG E Q c (Of l x0 x1) (Gf l x0 x1)) → ∀ x0 x1, Z (b :: l) x0 x1 → LG E Q c (Of (b :: l) x0 x1) (Gf (b :: l) x0 x1)) : ∀ l, ∀ x0 x1, Z l x0 x1 → LG E Q c (Of l x0 x1) (Gf l x0 x1)
 | [] => h0
 | b :: l => h b l (ii h0 h l)
theorem LG.nat2 {c : Code} {α0 α1 : Type} {Z : Nat → α0 → α1 → Prop} {Of : Nat → α0 → α1 → List OE} {Gf : Nat → α0 → α1 → Ctx} (h0 : ∀ x0 x1, Z 0 x0 x1 → LG E Q c (Of 0 x0 x1) (Gf 0 x0 x1))
  (h : ∀ n, (∀ x0 x1, Z n x0 x1 → LG E Q c (Of n x0 x1) (Gf n x0 x1)) → ∀ x0 x1, Z (n + 1) x0 x1 → LG E Q c (Of (n + 1) x0 x1) (Gf (n + 1) x0 x1)) : ∀ n, ∀ x0 x1, Z n x0 x1 → LG E Q c (Of n x0 x1) (Gf n x0 x1)
 | 0 => h0
 | n + 1 => h n (LG.nat2 h0 h n)
theorem j2 {c : Code} {β : Type} {α0 α1 α2 : Type} {Z : List β → α0 → α1 → α2 → Prop} {Of : List β → α0 → α1 → α2 → List OE} {Gf : List β → α0 → α1 → α2 → Ctx} (h0 : ∀ x0 x1 x2, Z [] x0 x1 x2 → LG E Q c (Of [] x0 x1 x2) (Gf [] x0 x1 x2))
  (h : ∀ b l, (∀ x0 x1 x2, Z l x0 x1 x2 → LG E Q c (Of l x0 x1 x2) (Gf l x0 x1 x2)) → ∀ x0 x1 x2, Z (b :: l) x0 x1 x2 → LG E Q c (Of (b :: l) x0 x1 x2) (Gf (b :: l) x0 x1 x2)) : ∀ l, ∀ x0 x1 x2, Z l x0 x1 x2 → LG E Q c (Of l x0 x1 x2) (Gf l x0 x1 x2)
 | [] => h0
 | b :: l => h b l (j2 h0 h l)
theorem LG.nat3 {c : Code} {α0 α1 α2 : Type} {Z : Nat → α0 → α1 → α2 → Prop} {Of : Nat → α0 → α1 → α2 → List OE} {Gf : Nat → α0 → α1 → α2 → Ctx} (h0 : ∀ x0 x1 x2, Z 0 x0 x1 x2 → LG E Q c (Of 0 x0 x1 x2) (Gf 0 x0 x1 x2))
  (h : ∀ n, (∀ x0 x1 x2, Z n x0 x1 x2 → LG E Q c (Of n x0 x1 x2) (Gf n x0 x1 x2)) → ∀ x0 x1 x2, Z (n + 1) x0 x1 x2 → LG E Q c (Of (n + 1) x0 x1 x2) (Gf (n + 1) x0 x1 x2)) : ∀ n, ∀ x0 x1 x2, Z n x0 x1 x2 → LG E Q c (Of n x0 x1 x2) (Gf n x0 x1 x2)
 | 0 => h0
 | n + 1 => h n (LG.nat3 h0 h n)
theorem CG.sjoin3 {x y : Code} {α0 α1 α2 : Type} {Z : α0 → α1 → α2 → Prop} {Of : α0 → α1 → α2 → List OE} {Gf : α0 → α1 → α2 → Ctx} (hK : ∀ x0 x1 x2, Z x0 x1 x2 → CG E Q y (Of x0 x1 x2) (Gf x0 x1 x2))
  (h : (∀ x0 x1 x2, Z x0 x1 x2 → AT E (Exit.then (y.wpIn (fw E.r) 0 E.P Q) Q) .normal (Of x0 x1 x2) (Gf x0 x1 x2)) → CG E (Exit.then (y.wpIn (fw E.r) 0 E.P Q) Q) x O G) : CG E Q (.seq x y) O G := CG.seq (h (fun x0 x1 x2 => fun hz => hK x0 x1 x2 hz))
theorem LG.ind4 {c : Code} {α0 α1 α2 α3 : Type} {Z : Nat → α0 → α1 → α2 → α3 → Prop} {Of : α0 → α1 → α2 → α3 → List OE} {Gf : α0 → α1 → α2 → α3 → Ctx} (h0 : ∀ x0 x1 x2 x3, Z 0 x0 x1 x2 x3 → False)
  (h : ∀ n, (∀ x0 x1 x2 x3, Z n x0 x1 x2 x3 → LG E Q c (Of x0 x1 x2 x3) (Gf x0 x1 x2 x3)) → ∀ x0 x1 x2 x3, Z (n + 1) x0 x1 x2 x3 → LG E Q c (Of x0 x1 x2 x3) (Gf x0 x1 x2 x3)) : ∀ n, ∀ x0 x1 x2 x3, Z n x0 x1 x2 x3 → LG E Q c (Of x0 x1 x2 x3) (Gf x0 x1 x2 x3)
 | 0 => fun x0 x1 x2 x3 hz => (h0 x0 x1 x2 x3 hz).elim
 | n + 1 => h n (LG.ind4 h0 h n)
theorem i9 {c : Code} {β : Type} {α0 α1 α2 α3 : Type} {Z : List β → α0 → α1 → α2 → α3 → Prop} {Of : List β → α0 → α1 → α2 → α3 → List OE} {Gf : List β → α0 → α1 → α2 → α3 → Ctx} (h0 : ∀ x0 x1 x2 x3, Z [] x0 x1 x2 x3 → LG E Q c (Of [] x0 x1 x2 x3) (Gf [] x0 x1 x2 x3))
  (h : ∀ b l, (∀ x0 x1 x2 x3, Z l x0 x1 x2 x3 → LG E Q c (Of l x0 x1 x2 x3) (Gf l x0 x1 x2 x3)) → ∀ x0 x1 x2 x3, Z (b :: l) x0 x1 x2 x3 → LG E Q c (Of (b :: l) x0 x1 x2 x3) (Gf (b :: l) x0 x1 x2 x3)) : ∀ l, ∀ x0 x1 x2 x3, Z l x0 x1 x2 x3 → LG E Q c (Of l x0 x1 x2 x3) (Gf l x0 x1 x2 x3)
 | [] => h0
 | b :: l => h b l (i9 h0 h l)
theorem CG.sjoin4 {x y : Code} {α0 α1 α2 α3 : Type} {Z : α0 → α1 → α2 → α3 → Prop} {Of : α0 → α1 → α2 → α3 → List OE} {Gf : α0 → α1 → α2 → α3 → Ctx} (hK : ∀ x0 x1 x2 x3, Z x0 x1 x2 x3 → CG E Q y (Of x0 x1 x2 x3) (Gf x0 x1 x2 x3))
  (h : (∀ x0 x1 x2 x3, Z x0 x1 x2 x3 → AT E (Exit.then (y.wpIn (fw E.r) 0 E.P Q) Q) .normal (Of x0 x1 x2 x3) (Gf x0 x1 x2 x3)) → CG E (Exit.then (y.wpIn (fw E.r) 0 E.P Q) Q) x O G) : CG E Q (.seq x y) O G := CG.seq (h (fun x0 x1 x2 x3 => fun hz => hK x0 x1 x2 x3 hz))
theorem LG.list5 {c : Code} {β : Type} {α0 α1 α2 α3 α4 : Type} {Z : List β → α0 → α1 → α2 → α3 → α4 → Prop} {Of : List β → α0 → α1 → α2 → α3 → α4 → List OE} {Gf : List β → α0 → α1 → α2 → α3 → α4 → Ctx} (h0 : ∀ x0 x1 x2 x3 x4, Z [] x0 x1 x2 x3 x4 → LG E Q c (Of [] x0 x1 x2 x3 x4) (Gf [] x0 x1 x2 x3 x4))
  (h : ∀ b l, (∀ x0 x1 x2 x3 x4, Z l x0 x1 x2 x3 x4 → LG E Q c (Of l x0 x1 x2 x3 x4) (Gf l x0 x1 x2 x3 x4)) → ∀ x0 x1 x2 x3 x4, Z (b :: l) x0 x1 x2 x3 x4 → LG E Q c (Of (b :: l) x0 x1 x2 x3 x4) (Gf (b :: l) x0 x1 x2 x3 x4)) : ∀ l, ∀ x0 x1 x2 x3 x4, Z l x0 x1 x2 x3 x4 → LG E Q c (Of l x0 x1 x2 x3 x4) (Gf l x0 x1 x2 x3 x4)
 | [] => h0
 | b :: l => h b l (LG.list5 h0 h l)
theorem LG.nat5 {c : Code} {α0 α1 α2 α3 α4 : Type} {Z : Nat → α0 → α1 → α2 → α3 → α4 → Prop} {Of : Nat → α0 → α1 → α2 → α3 → α4 → List OE} {Gf : Nat → α0 → α1 → α2 → α3 → α4 → Ctx} (h0 : ∀ x0 x1 x2 x3 x4, Z 0 x0 x1 x2 x3 x4 → LG E Q c (Of 0 x0 x1 x2 x3 x4) (Gf 0 x0 x1 x2 x3 x4))
  (h : ∀ n, (∀ x0 x1 x2 x3 x4, Z n x0 x1 x2 x3 x4 → LG E Q c (Of n x0 x1 x2 x3 x4) (Gf n x0 x1 x2 x3 x4)) → ∀ x0 x1 x2 x3 x4, Z (n + 1) x0 x1 x2 x3 x4 → LG E Q c (Of (n + 1) x0 x1 x2 x3 x4) (Gf (n + 1) x0 x1 x2 x3 x4)) : ∀ n, ∀ x0 x1 x2 x3 x4, Z n x0 x1 x2 x3 x4 → LG E Q c (Of n x0 x1 x2 x3 x4) (Gf n x0 x1 x2 x3 x4)
 | 0 => h0
 | n + 1 => h n (LG.nat5 h0 h n)
end
theorem bs {α : Type _} {β : Type _} {x : Option α} {k : α → Option β} {r : β} (h : x.bind k = some r) : ∃ y, x = some y ∧ k y = some r := by
 cases x with
 | none => cases h
 | some y => exact ⟨y, rfl, h⟩
theorem ct {β : Type _} {b : Bool} {x y : Option β} {r : β} (h : (if b = true then x else y) = some r) (hb : b = true) : x = some r := by rwa [if_pos hb] at h
theorem cf {β : Type _} {b : Bool} {x y : Option β} {r : β} (h : (if b = true then x else y) = some r) (hb : b = false) : y = some r := by rwa [if_neg (by rw [hb]; decide)] at h
theorem so {β : Type _} {x r : β} (h : some x = some r) : x = r := by simpa using h
theorem og {α β : Type} [Inhabited α] {b : Bool} {x : Option α} {k : α → Option β} {d : Option β} {r : β} (h : (if b = true then x.bind k else d) = some r) : ∃ y, (b = true → x = some y ∧ k y = some r) ∧ (b = false → d = some r) := by
 cases b with
 | true => obtain ⟨y, h1, h2⟩ := bs (ct h rfl); exact ⟨y, fun _ => ⟨h1, h2⟩, fun e => (by cases e)⟩
 | false => exact ⟨default, fun e => (by cases e), fun _ => cf h rfl⟩

def fi {α β : Type} (p : Rp α) (q : Rp β) : Rp (α × β) where
 sz := p.sz + q.sz
 agg := true
 rc := fun S cs x => ∃ a b, cs = a ++ b ∧ p.rc S a x.1 ∧ q.rc S b x.2
 mono := fun h ⟨a, b, e, h1, h2⟩ => ⟨a, b, e, p.mono h h1, q.mono h h2⟩
 len := fun ⟨a, b, e, h1, h2⟩ => by rw [e, List.length_append, p.len h1, q.len h2]
 one := fun ⟨a, b, e, h1, h2⟩ c hc => by
  rw [e] at hc
  rcases List.mem_append.1 hc with h | h
  ·exact p.one h1 c h
  ·exact q.one h2 c h
 sc := fun h => by cases h
def iW {α β : Type} (p : Rp α) (f : β → α) : Rp β where
 sz := p.sz
 agg := true
 rc := fun S cs x => p.rc S cs (f x)
 mono := fun h k => p.mono h k
 len := fun h => p.len h
 one := fun h => p.one h
 sc := fun h => by cases h
theorem dn {α β : Type} {p : Rp α} {f : β → α} : Fld (iW p f) 0 p f := fun S cs x h => by
 have h' : p.rc S cs (f x) := h
 have hl := p.len h'
 rw [List.drop_zero, ← hl, List.take_length]; exact h'
theorem iE {α β γ : Type} {p : Rp α} {q : Rp β} {r : Rp γ} {off : Nat} {get : γ → α × β} (h : Fld r off (fi p q) get) : Fld r off p (fun x => (get x).1) := fun S cs x k => by
 obtain ⟨a, b, e, h1, h2⟩ := h S cs x k
 have hl := p.len h1
 have hl2 := q.len h2
 have : (cs.drop off).take p.sz = a := by
  have e2 := congrArg (List.take p.sz) e
  rw [List.take_take, Nat.min_eq_left (by show p.sz ≤ p.sz + q.sz; omega), ← hl, List.take_left] at e2
  rw [← hl]; exact e2
 rw [this]; exact h1
theorem fK {α β γ : Type} {p : Rp α} {q : Rp β} {r : Rp γ} {off off' : Nat} {get : γ → α × β} (h : Fld r off (fi p q) get) (ho : off' = off + p.sz) : Fld r off' q (fun x => (get x).2) := fun S cs x k => by
 obtain ⟨a, b, e, h1, h2⟩ := h S cs x k
 have hl := p.len h1
 have hl2 := q.len h2
 have : (cs.drop off').take q.sz = b := by
  have e2 := congrArg (List.drop p.sz) e
  rw [List.drop_take, List.drop_drop, ← hl, List.drop_left] at e2
  rw [ho, ← hl, ← e2]
  congr 1
  show q.sz = p.sz + q.sz - a.length
  omega
 rw [this]; exact h2
end Go.Proofs.YtegigakgcnhiaaaGreatDoor

namespace Go.Proofs.YtegigakgcnhiaaaGreatDoor
open Go

section
variable {E : En} {O : List OE} {G : Ctx} {Q : Exit → Act → World → Prop} {ops : Array Oper} {rest : List Oper}
theorem aw {d j gs : Nat} {b : Bool} {op : Op} {ty : TypeId} {pos : String} {after : Array Edge} {t : Ty} (hj : (ops[j]?).bind (·.dst) = some gs) (hgs : Nat.blt gs E.N.n = true) (hg : look G gs = some (tD rB b)) (hd : Nat.blt d E.N.n = true)
  (h : b = true → OpOK E O G ⟨some d, op, ty, pos, after, some (j, true)⟩ t) (k : RG E ops Q rest O ((d, bj b t) :: G)) : RG E ops Q (⟨some d, op, ty, pos, after, some (j, true)⟩ :: rest) O G := by
 have e : (true && (b == true)) = b := by cases b <;> rfl
 exact RG.opG hj hgs (jt hg) hd (by rw [e]; exact h) (by rw [e]; exact k)
theorem aE {d j gs : Nat} {b : Bool} {op : Op} {ty : TypeId} {pos : String} {after : Array Edge} {t : Ty} (hj : (ops[j]?).bind (·.dst) = some gs) (hgs : Nat.blt gs E.N.n = true) (hg : look G gs = some (tD rB b)) (hd : Nat.blt d E.N.n = true)
  (h : (!b) = true → OpOK E O G ⟨some d, op, ty, pos, after, some (j, false)⟩ t) (k : RG E ops Q rest O ((d, bj (!b) t) :: G)) : RG E ops Q (⟨some d, op, ty, pos, after, some (j, false)⟩ :: rest) O G := by
 have e : (true && (b == false)) = !b := by cases b <;> rfl
 exact RG.opG hj hgs (jt hg) hd (by rw [e]; exact h) (by rw [e]; exact k)
theorem eU {d j gs : Nat} {c b : Bool} {op : Op} {ty : TypeId} {pos : String} {after : Array Edge} {t : Ty} (hj : (ops[j]?).bind (·.dst) = some gs) (hgs : Nat.blt gs E.N.n = true) (hg : look G gs = some (bj c (tD rB b))) (hd : Nat.blt d E.N.n = true)
  (h : (c && !b) = true → OpOK E O G ⟨some d, op, ty, pos, after, some (j, false)⟩ t) (k : RG E ops Q rest O ((d, bj (c && !b) t) :: G)) : RG E ops Q (⟨some d, op, ty, pos, after, some (j, false)⟩ :: rest) O G := by
 have e : (c && (b == false)) = (c && !b) := by cases b <;> rfl
 exact RG.opG hj hgs (guard_opt hg) hd (by rw [e]; exact h) (by rw [e]; exact k)
theorem cX {l : List Oper} {need : Ctx} {o : Oper} {t : Ty} {j gs : Nat} {b : Bool} (hg : o.guard = some (j, true)) (hj : ((l.toArray)[j]?).bind (·.dst) = some gs) (hgs : Nat.blt gs E.N.n = true) (hb : look need gs = some (tD rB b))
  (h : b = true → OpOK E O need o t) : OpG E O l.toArray need o (bj b t) := by
 have e : (true && (b == true)) = b := by cases b <;> rfl
 have := OpG.guarded (t := t) hg hj hgs (jt (E := E) hb) (by rw [e]; exact h)
 rwa [e] at this
theorem cA {l : List Oper} {need : Ctx} {o : Oper} {t : Ty} {j gs : Nat} {b : Bool} (hg : o.guard = some (j, false)) (hj : ((l.toArray)[j]?).bind (·.dst) = some gs) (hgs : Nat.blt gs E.N.n = true) (hb : look need gs = some (tD rB b))
  (h : (!b) = true → OpOK E O need o t) : OpG E O l.toArray need o (bj (!b) t) := by
 have e : (true && (b == false)) = !b := by cases b <;> rfl
 have := OpG.guarded (t := t) hg hj hgs (jt (E := E) hb) (by rw [e]; exact h)
 rwa [e] at this
theorem b8 {l : List Oper} {need : Ctx} {o : Oper} {t : Ty} {j gs : Nat} {c b : Bool} (hg : o.guard = some (j, true)) (hj : ((l.toArray)[j]?).bind (·.dst) = some gs) (hgs : Nat.blt gs E.N.n = true) (hb : look need gs = some (bj c (tD rB b)))
  (h : (c && b) = true → OpOK E O need o t) : OpG E O l.toArray need o (bj (c && b) t) := by
 have e : (c && (b == true)) = (c && b) := by cases b <;> rfl
 have := OpG.guarded (t := t) hg hj hgs (guard_opt (E := E) hb) (by rw [e]; exact h)
 rwa [e] at this
theorem andi {a b : Bool} (h : a = true) (k : b = true) : (a && b) = true := by rw [h, k]; rfl
theorem fV {a : Bool} (h : a = false) : (!a) = true := by rw [h]; rfl
theorem aL {c : Operand} {x y : Code} {b : Bool} (hb : aA E.N G c (tD rB b)) (h : b = true) (hx : CG E Q x O G) : CG E Q (.cond c x y) O G := CG.cond hb (fun _ => hx) (fun e => by rw [h] at e; cases e)
theorem aM {c : Operand} {x y : Code} {b : Bool} (hb : aA E.N G c (tD rB b)) (h : b = false) (hy : CG E Q y O G) : CG E Q (.cond c x y) O G := CG.cond hb (fun e => by rw [h] at e; cases e) (fun _ => hy)
end
theorem og2 {α β : Type} [Inhabited α] {b : Bool} {x : Option α} {k : α → Option β} {r : β} (h : b = true → x.bind k = some r) : ∃ y, b = true → x = some y ∧ k y = some r := by
 cases b with
 | true => obtain ⟨y, h1, h2⟩ := bs (h rfl); exact ⟨y, fun _ => ⟨h1, h2⟩⟩
 | false => exact ⟨default, fun e => (by cases e)⟩
def nz (n : Int) : Option Unit := if n = 0 then none else some ()
theorem nz_some {n : Int} {u : Unit} (h : nz n = some u) : n ≠ 0 := fun e => by rw [e] at h; cases h

section
variable {E : En} {O : List OE} {G : Ctx} {dst : Option Tmp} {ty : TypeId} {pos : String} {after : Array Edge} {g : Option (Nat × Bool)}
theorem aT {c x : Operand} {b q : Bool} (hc : aA E.N G c (tD rB b)) (hx : b = true → aA E.N G x (tD rB q)) : OpOK E O G ⟨dst, .pick c x (.const (.bool false)), ty, pos, after, g⟩ (tD rB (b && q)) := by
 refine ok_pick hc (fun h => ?_) (fun h => ?_)
 ·subst h; exact hx rfl
 ·subst h; exact hB
theorem cH {c x : Operand} {b q : Bool} (hc : aA E.N G c (tD rB b)) (hx : b = false → aA E.N G x (tD rB q)) : OpOK E O G ⟨dst, .pick c (.const (.bool true)) x, ty, pos, after, g⟩ (tD rB (b || q)) := by
 refine ok_pick hc (fun h => ?_) (fun h => ?_)
 ·subst h; exact hB
 ·subst h; exact hx rfl
theorem bw {c x : Operand} {b q t : Bool} (hc : aA E.N G c (tD rB b)) (hx : b = true → aA E.N G x (tD rB q)) (e1 : b = true → some q = some t) (e0 : b = false → some false = some t) : OpOK E O G ⟨dst, .pick c x (.const (.bool false)), ty, pos, after, g⟩ (tD rB t) := by
 refine ok_pick hc (fun h => ?_) (fun h => ?_)
 ·rw [← so (e1 h)]; exact hx h
 ·rw [← so (e0 h)]; exact hB
theorem bX {c x : Operand} {b q t : Bool} (hc : aA E.N G c (tD rB b)) (hx : b = false → aA E.N G x (tD rB q)) (e1 : (!b) = true → some q = some t) (e0 : (!b) = false → some true = some t) : OpOK E O G ⟨dst, .pick c (.const (.bool true)) x, ty, pos, after, g⟩ (tD rB t) := by
 refine ok_pick hc (fun h => ?_) (fun h => ?_)
 ·rw [← so (e0 (by rw [h]; rfl))]; exact hB
 ·rw [← so (e1 (by rw [h]; rfl))]; exact hx h
theorem bE {ts : List Ty} {x : Operand} {i : Nat} {t : Ty} (hi : ts[i]? = some t) (hx : aA E.N G x (tT ts)) : OpOK E O G ⟨dst, .extract x i, ty, pos, after, g⟩ t :=
 .of_pure fun a w S _ _ hf => by
  obtain ⟨vs, h1, h2⟩ := hx S a hf
  obtain ⟨v, h3, h4⟩ := h2.at_ i t hi
  exact ⟨v, by simp [execOp, h1, Instr.extract, h3], h4⟩
theorem ok_max2 {x y : Operand} {k : IntKind} {m n : Int} {ats : Array TypeId} (hx : aA E.N G x (tD (rI k) m)) (hy : aA E.N G y (tD (rI k) n)) : OpOK E O G ⟨dst, .call ⟨.builtin .max, #[x, y], ats⟩, ty, pos, after, g⟩ (tD (rI k) (max m n)) :=
 .of_pure fun a w S _ _ hf => by
  have h1 : a.eval x = .int k m := bD.1 (hx S a hf)
  have h2 : a.eval y = .int k n := bD.1 (hy S a hf)
  refine ⟨.int k (if n > m then n else m), by simp [execOp, resolve, invoke, builtin, Builtin.max_, Builtin.max2, h1, h2], bD.2 ?_⟩
  congr 1
  rw [Int.max_def]
  split <;> split <;> omega
def cU (P : Program) {α β : Type} (args : α → List Ty) (res : β → Ty) (f : α → Option β) : Ty where
 p := fun S v => ∃ fid cap, v = .func (.func fid) #[] cap ∧ an P fid = true ∧ ∀ x y, f x = some y → ∀ w S' vs, gy S S' → Sat w S' → Tys S' (args x) vs →
  Calls P fid (vs.toArray ++ cap) w fun e w' => ∃ v S'', e = .returned v ∧ Ext noB w S' w' S'' ∧ Sat w' S'' ∧ (res y).p S'' v
 mono := fun h ⟨f, cap, e, hc, k⟩ => ⟨f, cap, e, hc, fun x y hxy w S' vs hle => k x y hxy w S' vs (SH.le_trans h hle)⟩
theorem hFn {N : Fr} {P : Program} {α β : Type} {args : α → List Ty} {res : β → Ty} {f : α → Option β} {fid : FuncId} (hc : an P fid = true) (hs : ∀ x y, f x = some y → Spec P fid (args x) (res y)) : aA N G (.func fid) (cU P args res f) := fun S a _ =>
 ⟨fid, #[], rfl, hc, fun x y h w S' vs _ hsat hv => by simpa using hs x y h w S' vs hsat hv⟩
theorem Tys.append {S : SH} : ∀ {ts us : List Ty} {vs ws : List Value}, Tys S ts vs → Tys S us ws → Tys S (ts ++ us) (vs ++ ws)
 | [], _, [], _, _, h => h
 | _ :: _, _, _ :: _, _, ⟨h1, h2⟩, h => ⟨h1, Tys.append h2 h⟩
theorem jq {α β : Type} {args : α → List Ty} {res : β → Ty} {f : α → Option β} {fid : FuncId} {caps : List Operand} {cts : List Ty} (hc : an E.P fid = true) (hcap : HasTys E.N G caps cts)
  (hs : ∀ x y, f x = some y → Spec E.P fid (args x ++ cts) (res y)) : OpOK E O G ⟨dst, .makeFunc (.func fid) #[] caps.toArray, ty, pos, after, g⟩ (cU E.P args res f) :=
 .of_pure fun a w S _ _ hf => by
  refine ⟨.func (.func fid) #[] (caps.map a.eval).toArray, by simp [execOp, Instr.makeFunc], fid, _, rfl, hc, fun x y h w' S' vs hle hsat hv => ?_⟩
  have hcv := (hcap.tys hf).mono hle
  simpa using hs x y h w' S' _ hsat (hv.append hcv)
theorem dj {α β : Type} {args : α → List Ty} {res : β → Ty} {f : α → Option β} {fo : Operand} {x : α} {y : β} {xs : List Operand} {ats : Array TypeId} (hfo : aA E.N G fo (cU E.P args res f)) (h : f x = some y) (hx : HasTys E.N G xs (args x)) :
  OpOK E O G ⟨dst, .call ⟨.value fo, xs.toArray, ats⟩, ty, pos, after, g⟩ (res y) := fun a w S hS _ hF => by
 obtain ⟨fid, cap, e, hc, hs⟩ := hfo S a hF
 have hr : (execOp a.eval ⟨dst, .call ⟨.value fo, xs.toArray, ats⟩, ty, pos, after, g⟩).run E.P w = .ok (.enter fid ((xs.map a.eval).toArray ++ cap)) w := by
  simp [execOp, resolve, e, Deferred.ofValue, invoke, cl hc]
 refine ⟨fun c h => (by cases h), ?_⟩
 rw [hr]
 exact (hs x y h w S _ (SH.le_refl _) hS (hx.tys hF)).mono fun e w' ⟨v, S', he, h1, h2, h3⟩ => ⟨v, he, v, S', rfl, h1, h2, h3⟩
end
theorem Spec.of {P : Program} {f : FuncId} {fn : Func} {c : Code} {ts : List Ty} {t : Ty} {N : Nat} (hf : P.funcs[f]? = some fn) (hb : fn.body = some c) (hN : fn.ntmps = N) (hn : Nat.ble ts.length N = true)
  (h : ∀ w0 S0, CG ⟨P, ⟨N, []⟩, noB, w0, S0, none⟩ (bodyPost P fn (endQ ⟨P, ⟨N, []⟩, noB, w0, S0, none⟩ t)) c [] (jr 0 ts)) : Spec P f ts t := by
 subst hN
 exact Spec.of_code hf hb (Nat.le_of_ble_eq_true hn) h
theorem nn {α : Type _} {r : α} (h : (none : Option α) = some r) : False := by cases h
theorem hVn {N : Fr} {G : Ctx} : aA N G (.const (.slice none 0 0)) (tV (aD none 0 0)) := fun _ _ _ => rfl
def bp : Nat := 2 ^ 64
section
variable {E : En} {O : List OE} {G : Ctx} {dst : Option Tmp} {ty : TypeId} {pos : String} {after : Array Edge} {g : Option (Nat × Bool)}
theorem oslV_shape (l : Option Nat) (cap n : Nat) (h : l = none → n = 0) : ∃ a c, aD l cap n = .slice a n c := by
 cases l with
 | none => rw [h rfl]; exact ⟨none, 0, rfl⟩
 | some b => exact ⟨_, cap, rfl⟩
theorem ok_lenO {α : Type} {mm : Bool} {r : Rp α} {T : TypeId} {l : Option Nat} {cap n : Nat} {xs : List α} {x : Operand} {t e : TypeId} (ht : E.P.underlying t = some (.slice e)) (hm : d6 mm r T l cap xs ∈ O) (hx : aA E.N G x (tV (aD l cap n))) (hn : n = xs.length := by rfl) :
  OpOK E O G ⟨dst, .call ⟨.builtin .len, #[x], #[t]⟩, ty, pos, after, g⟩ (tD (rI .i64) (n : Int)) :=
 .of_pure fun a w S _ ho hf => by
  have h1 : a.eval x = aD l cap n := hx S a hf
  have h2 := (ho.mem _ hm).1
  obtain ⟨ad, c, h3⟩ := oslV_shape l cap n (fun e => by subst e; obtain ⟨_, h4, _⟩ := h2; rw [hn]; exact h4.1)
  refine ⟨.int .i64 n, ?_, bD.2 rfl⟩
  simp [execOp, resolve, invoke, builtin, Builtin.len_, run_underlying ht, h1, h3, goInt]
end
end Go.Proofs.YtegigakgcnhiaaaGreatDoor

namespace Go.Proofs.YtegigakgcnhiaaaGreatDoor
open Go

structure EqD (P : Program) {α : Type} [DecidableEq α] (t : TypeId) (r : Rp α) : Prop where
 guard : P.eqGuardType P.depth t = false
 run : ∀ (S : SH) (cs ds : List Value) (x y : α) (d : Nat) (w : World), r.rc S cs x → r.rc S ds y → (Op.equalIn (d + 20) t (r.val cs) (r.val ds)).run P w = .ok (decide (x = y)) w
section
variable {E : En} {O : List OE} {G : Ctx} {dst : Option Tmp} {ty : TypeId} {pos : String} {after : Array Edge} {g : Option (Nat × Bool)}
theorem eqGuard_agg {P : Program} {t : TypeId} (h : P.eqGuardType P.depth t = false) {op : BinOp} {x y : Operand} {u v : Array Value} {w : World} : (eqGuard op t x y (.agg u) (.agg v)).run P w = .ok () w := by
 unfold eqGuard
 cases op <;> first | rfl | simp [h]
theorem iq {α : Type} {r : Rp α} (h : r.agg = true) (cs : List Value) : r.val cs = .agg cs.toArray := by unfold Rp.val; rw [if_pos h]
theorem ok_eqlD {α : Type} [DecidableEq α] {r : Rp α} {xt yt : TypeId} {x y : Operand} {m n : α} (he : EqD E.P xt r) (hx : aA E.N G x (tD r m)) (hy : aA E.N G y (tD r n)) (ha : r.agg = true := by rfl) : OpOK E O G ⟨dst, .binOp .eql xt x y yt, ty, pos, after, g⟩ (tD rB (decide (m = n))) :=
 .of_pure fun a w S _ _ hf => by
  obtain ⟨cs, h1, h2⟩ := hx S a hf
  obtain ⟨ds, h3, h4⟩ := hy S a hf
  refine ⟨.bool (decide (m = n)), ?_, db.2 rfl⟩
  have hr := he.run S cs ds m n 9980 w h2 h4
  have hg := @eqGuard_agg E.P xt he.guard .eql x y cs.toArray ds.toArray w
  rw [iq ha, iq ha] at hr
  simp only [execOp, h1, h3, iq ha, Sem.run_bind, hg, Result.andThen_ok, binOp, Op.equal, Op.maxDepth]
  rw [show (10000 : Nat) = 9980 + 20 from rfl, hr]
  simp
theorem ok_neqD {α : Type} [DecidableEq α] {r : Rp α} {xt yt : TypeId} {x y : Operand} {m n : α} (he : EqD E.P xt r) (hx : aA E.N G x (tD r m)) (hy : aA E.N G y (tD r n)) (ha : r.agg = true := by rfl) : OpOK E O G ⟨dst, .binOp .neq xt x y yt, ty, pos, after, g⟩ (tD rB (!decide (m = n))) :=
 .of_pure fun a w S _ _ hf => by
  obtain ⟨cs, h1, h2⟩ := hx S a hf
  obtain ⟨ds, h3, h4⟩ := hy S a hf
  refine ⟨.bool (!decide (m = n)), ?_, db.2 rfl⟩
  have hr := he.run S cs ds m n 9980 w h2 h4
  have hg := @eqGuard_agg E.P xt he.guard .neq x y cs.toArray ds.toArray w
  rw [iq ha, iq ha] at hr
  simp only [execOp, h1, h3, iq ha, Sem.run_bind, hg, Result.andThen_ok, binOp, Op.equal, Op.maxDepth]
  rw [show (10000 : Nat) = 9980 + 20 from rfl, hr]
  simp
end
end Go.Proofs.YtegigakgcnhiaaaGreatDoor

