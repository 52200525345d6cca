/- Facts of this claim: W52, W53, W44, W55, W15, W54. -/
import Derived.Test.YtegigakgcnhiaaaGreatDoorLdV3
import Derived.Test.YtegigakgcnhiaaaGreatDoorLdV2
import Derived.Shelf.SlSortCmp.NoneTotal
import Derived.Test.YtegigakgcnhiaaaGreatDoorLdV1
import Derived.Shelf.Unicode.CaseTo
import Derived.Shelf.Unicode.DecodeSlow
namespace Go.Proofs.YtegigakgcnhiaaaGreatDoor
open Go

section
variable {E : En} {O : List OE} {G : Ctx} {dst : Option Tmp} {ty : TypeId} {pos : String} {after : Array Edge} {g : Option (Nat × Bool)}
theorem osl_one (l : Option Nat) (c n : Nat) : (aD l c n).oneCell' = true := by cases l <;> rfl
theorem ok_loadH {α : Type} {r : Rp α} {y : α} {v : Value} {T U : TypeId} {b bytes : Nat} {z : List Value} {p : Operand} (ti : TI E.P U 1 bytes true z) (hsz : r.sz = 1) (hag : r.agg = true) (hr : ∀ S cs, r.rc S cs y → cs = [v]) (hm : bx r T b y ∈ O) (hp : aA E.N G p (tV (aR b 0))) :
  OpOK E O G ⟨dst, .load U p, ty, pos, after, g⟩ (tV (.agg #[v])) := (dP (q := r) (get := fun x => x) ti hsz hag fe hm hp).imp fun S u h => by
 obtain ⟨cs, h1, h2⟩ := h
 show u = _
 rw [h1, hr S cs h2, Rp.val, if_pos hag]
theorem hH {N : Fr} {α : Type} {r : Rp α} {y : α} {v : Value} {x : Operand} (hag : r.agg = true) (hr : ∀ S, r.rc S [v] y) (h : aA N G x (tV (.agg #[v]))) : aA N G x (tD r y) := fun S a hf => ⟨[v], by rw [Rp.val, if_pos hag]; exact h S a hf, hr S⟩
theorem ok_fieldH {α : Type} {r : Rp α} {y : α} {v : Value} {T ft : TypeId} {i bytes : Nat} {z : List Value} {x : Operand} (hT : fieldT E.P T i = some (ft, 0)) (ti : TI E.P ft 1 bytes false z) (hag : r.agg = true) {get : α → Value} (hq : Fld r 0 rV get) (hg : get y = v) (hr : ∀ S, r.rc S [v] y) (hx : aA E.N G x (tV (.agg #[v]))) :
  OpOK E O G ⟨dst, .field T x i, ty, pos, after, g⟩ (tV v) := (ok_field (q := rV) (get := get) hT ti rfl rfl hag hq (hH hag hr hx)).imp fun S u h => by
 rw [hg] at h
 exact (j5.1 h).1
theorem ok_loadVx {v : Value} {T U : TypeId} {b bytes : Nat} {z : List Value} {p : Operand} (ti : TI E.P U 1 bytes false z) (hm : bx rV T b v ∈ O) (hp : aA E.N G p (tV (aR b 0))) : OpOK E O G ⟨dst, .load U p, ty, pos, after, g⟩ (tV v) :=
 (dP (q := rV) (get := fun x => x) ti rfl rfl fe hm hp).imp fun _ _ h => (j5.1 h).1
theorem ok_nilN {l : Option Nat} {o : Nat} {p : Operand} (hl : ∀ w S, Own E.base E.B w S O → ∃ b, l = some b) (hp : aA E.N G p (tV (cB l o))) : OpOK E O G ⟨dst, .nilCheck p, ty, pos, after, g⟩ (tV (cB l o)) :=
 .of_pure fun a w S _ ho hF => by
  have h1 : a.eval p = cB l o := hp S a hF
  obtain ⟨b, rfl⟩ := hl w S ho
  exact ⟨cB (some b) o, by simp [execOp, h1, cB, aR], rfl⟩
end
end Go.Proofs.YtegigakgcnhiaaaGreatDoor

namespace Go.Proofs.YtegigakgcnhiaaaGreatDoor
open Go

section
variable {P : Program} {N : Nat} {w0 : World} {S0 : SH} {fn : Func} {O1 O : List OE} {G : Ctx} {ι : Type} {t : ι → Ty} {O2 : ι → List OE}
theorem AT.retMH {k b : Nat} {T T' : TypeId} {α : Type} {r : Rp α} {x : α} {v : Value} {bytes : Nat} {z : List Value} {O' : List OE} (hr : fn.results = #[.cell k T]) (ti : TI P T 1 bytes true z) (hsz : r.sz = 1) (hag : r.agg = true) (hx : ∀ S cs, r.rc S cs x → cs = [v]) (hk : look G k = some (tV (aR b 0))) (i : ι) (hO : O' = O2 i) (ht : t i = tV (.agg #[v])) :
  AT ⟨P, ⟨N, []⟩, fpB O1, w0, S0, none⟩ (bodyPost P fn (endM ⟨P, ⟨N, []⟩, fpB O1, w0, S0, none⟩ O1 t O2)) .ret (bx r T' b x :: O') G := fun a w S st => by
 have h1 : a.tmps.getD k undef = aR b 0 := st.facts.at_ k _ hk
 obtain ⟨⟨⟨hn, c, h2, h3⟩, _⟩, _, _⟩ := st.own
 have st2 : St ⟨P, ⟨N, []⟩, fpB O1, w0, S0, none⟩ O' G a w S := st.own_map fun h => h.2.2
 refine ⟨st.facts.defers, .agg #[v], ?_, endM_of st2 rfl i hO (by rw [ht]; rfl)⟩
 have h4 : r.rc S ((c.toList.drop 0).take r.sz) x := by
  have hl := r.len h3
  rw [List.drop_zero, List.take_of_length_le (by omega)]; exact h3
 have hl := bP ti h2 hsz hag h4
 have hv : r.val ((c.toList.drop 0).take r.sz) = .agg #[v] := by
  rw [hx S _ h4, Rp.val, if_pos hag]
 rw [hv] at hl
 have h1' : a.tmps[k]?.getD undef = Value.pointer (some ⟨b, 0, none⟩) := by simpa [Array.getD_eq_getD_getElem?, aR] using h1
 simp [results, hr, h1', asAddr, hl]
end
section
variable {E : En} {O : List OE} {G : Ctx} {Q : Exit → Act → World → Prop} {ops : Array Oper} {rest : List Oper} {c : Code}
theorem hMv {N : Fr} {x : Operand} {b : Nat} (h : aA N G x (tV (ie b))) : aA N G x (tD rV (ie b)) := fun S a hf => j5.2 ⟨h S a hf, rfl⟩
theorem AT.own_map {e : Exit} {O' : List OE} (h : ∀ {base B w S}, Own base B w S O → Own base B w S O') (k : AT E Q e O' G) : AT E Q e O G := fun a w S st => k a w S (st.own_map h)
theorem CG.own_map {O' : List OE} (h : ∀ {base B w S}, Own base B w S O → Own base B w S O') (k : CG E Q c O' G) : CG E Q c O G := fun a w S st => k a w S (st.own_map h)
theorem RG.own_map {O' : List OE} (h : ∀ {base B w S}, Own base B w S O → Own base B w S O') (k : RG E ops Q rest O' G) : RG E ops Q rest O G := fun a w S st => k a w S (st.own_map h)
theorem LG.own_map {O' : List OE} (h : ∀ {base B w S}, Own base B w S O → Own base B w S O') (k : LG E Q c O' G) : LG E Q c O G := fun a w S st => k a w S (st.own_map h)
end
end Go.Proofs.YtegigakgcnhiaaaGreatDoor

namespace Go.Proofs.YtegigakgcnhiaaaGreatDoor
open Go

def ltF {α : Type} (cmp : α × α → Option Int) (x y : α) : Bool :=
 match cmp (x, y) with
 | some c => decide (c < 0)
 | none => false
def insF {α : Type} (lt : α → α → Bool) (x : α) : List α → List α
 | [] => [x]
 | y :: ys => if lt y x then y :: insF lt x ys else x :: y :: ys
def isort {α : Type} (lt : α → α → Bool) : List α → List α
 | [] => []
 | x :: xs => insF lt x (isort lt xs)
structure Good {α : Type} (cmp : α × α → Option Int) (xs : List α) : Prop where
 len : xs.length ≤ 1099511627776
 tot : ∀ x ∈ xs, ∀ y ∈ xs, (cmp (x, y)).isSome = true
 irr : ∀ x ∈ xs, ltF cmp x x = false
 tr : ∀ x ∈ xs, ∀ y ∈ xs, ∀ z ∈ xs, ltF cmp x y = true → ltF cmp y z = true → ltF cmp x z = true
 anti : ∀ x ∈ xs, ∀ y ∈ xs, ltF cmp x y = false → ltF cmp y x = false → x = y
def goodB {α : Type} [DecidableEq α] (cmp : α × α → Option Int) (xs : List α) : Bool :=
 decide (xs.length ≤ 1099511627776) && xs.all (fun x => xs.all fun y => (cmp (x, y)).isSome) && xs.all (fun x => !ltF cmp x x) &&
  xs.all (fun x => xs.all fun y => xs.all fun z => !(ltF cmp x y && ltF cmp y z) || ltF cmp x z) && xs.all (fun x => xs.all fun y => ltF cmp x y || ltF cmp y x || decide (x = y))
theorem good_iff {α : Type} [DecidableEq α] {cmp : α × α → Option Int} {xs : List α} : goodB cmp xs = true ↔ Good cmp xs := by
 unfold goodB
 simp only [Bool.and_eq_true, List.all_eq_true, Bool.or_eq_true, Bool.not_eq_true', decide_eq_true_eq, Bool.and_eq_false_imp]
 constructor
 ·rintro ⟨⟨⟨⟨h1, h2⟩, h3⟩, h4⟩, h5⟩
  refine ⟨h1, h2, h3, fun x hx y hy z hz a b => ?_, fun x hx y hy a b => ?_⟩
  ·rcases h4 x hx y hy z hz with h | h
   ·rw [h a] at b; cases b
   ·exact h
  ·rcases h5 x hx y hy with (h | h) | h
   ·rw [h] at a; cases a
   ·rw [h] at b; cases b
   ·exact h
 ·rintro ⟨h1, h2, h3, h4, h5⟩
  refine ⟨⟨⟨⟨h1, h2⟩, h3⟩, fun x hx y hy z hz => ?_⟩, fun x hx y hy => ?_⟩
  ·cases h6 : ltF cmp x y with
   | false => exact .inl (fun h => by cases h)
   | true =>
    cases h7 : ltF cmp y z with
    | false => exact .inl (fun _ => rfl)
    | true => exact .inr (h4 x hx y hy z hz h6 h7)
  ·cases h6 : ltF cmp x y with
   | true => exact .inl (.inl rfl)
   | false =>
    cases h7 : ltF cmp y x with
    | true => exact .inl (.inr rfl)
    | false => exact .inr (h5 x hx y hy h6 h7)
def sortF {α : Type} [DecidableEq α] (cmp : α × α → Option Int) (xs : List α) : Option (List α) := if goodB cmp xs then some (isort (ltF cmp) xs) else none
theorem sortF_some {α : Type} [DecidableEq α] {cmp : α × α → Option Int} {xs ys : List α} (h : sortF cmp xs = some ys) : Good cmp xs ∧ ys = isort (ltF cmp) xs := by
 unfold sortF at h
 split at h
 ·exact ⟨good_iff.1 (by assumption), by simpa using h.symm⟩
 ·cases h
theorem sortF_good {α : Type} [DecidableEq α] {cmp : α × α → Option Int} {xs : List α} (h : Good cmp xs) : sortF cmp xs = some (isort (ltF cmp) xs) := if_pos (good_iff.2 h)
end Go.Proofs.YtegigakgcnhiaaaGreatDoor

namespace Go.Proofs.YtegigakgcnhiaaaGreatDoor
open Go

theorem insF_perm {α : Type} (lt : α → α → Bool) (x : α) : ∀ l : List α, (insF lt x l).Perm (x :: l)
 | [] => .refl _
 | y :: ys => by
  unfold insF
  split
  ·exact ((insF_perm lt x ys).cons y).trans (.swap ..)
  ·exact .refl _
theorem ky {α : Type} (lt : α → α → Bool) : ∀ l : List α, (isort lt l).Perm l
 | [] => .refl _
 | x :: xs => (insF_perm lt x _).trans ((ky lt xs).cons x)
theorem Good.ntr {α : Type} {cmp : α × α → Option Int} {xs : List α} (h : Good cmp xs) {x y z : α} (hx : x ∈ xs) (hy : y ∈ xs) (hz : z ∈ xs) (h1 : ltF cmp x y = false) (h2 : ltF cmp y z = false) : ltF cmp x z = false := by
 cases h3 : ltF cmp x z with
 | false => rfl
 | true =>
  cases h4 : ltF cmp y x with
  | true => rw [h.tr y hy x hx z hz h4 h3] at h2; cases h2
  | false =>
   have := h.anti x hx y hy h1 h4
   subst this
   rw [h3] at h2; cases h2
theorem Good.asym {α : Type} {cmp : α × α → Option Int} {xs : List α} (h : Good cmp xs) {x y : α} (hx : x ∈ xs) (hy : y ∈ xs) (h1 : ltF cmp x y = true) : ltF cmp y x = false := by
 cases h3 : ltF cmp y x with
 | false => rfl
 | true => have := h.tr x hx y hy x hx h1 h3; rw [h.irr x hx] at this; cases this
theorem insF_sorted {α : Type} {cmp : α × α → Option Int} {xs : List α} (h : Good cmp xs) {x : α} (hx : x ∈ xs) : ∀ l : List α, (∀ y ∈ l, y ∈ xs) → l.Pairwise (fun a b => ltF cmp b a = false) → (insF (ltF cmp) x l).Pairwise (fun a b => ltF cmp b a = false)
 | [], _, _ => List.pairwise_singleton _ _
 | y :: ys, hm, hp => by
  have hy := hm y (List.mem_cons_self ..)
  rw [List.pairwise_cons] at hp
  unfold insF
  split
  ·rename_i hlt
   rw [List.pairwise_cons]
   refine ⟨fun z hz => ?_, insF_sorted h hx ys (fun z hz => hm z (List.mem_cons_of_mem _ hz)) hp.2⟩
   rcases List.mem_cons.1 ((insF_perm _ x ys).mem_iff.1 hz) with e | e
   ·subst e; exact h.asym hy hx hlt
   ·exact hp.1 z e
  ·rename_i hlt
   rw [Bool.not_eq_true] at hlt
   refine List.pairwise_cons.2 ⟨fun z hz => ?_, List.pairwise_cons.2 hp⟩
   rcases List.mem_cons.1 hz with e | e
   ·subst e; exact hlt
   ·exact h.ntr (hm z hz) hy hx (hp.1 z e) hlt
theorem kx {α : Type} {cmp : α × α → Option Int} {xs : List α} (h : Good cmp xs) : ∀ l : List α, (∀ y ∈ l, y ∈ xs) → (isort (ltF cmp) l).Pairwise (fun a b => ltF cmp b a = false)
 | [], _ => List.Pairwise.nil
 | x :: ys, hm => insF_sorted h (hm x (List.mem_cons_self ..)) _ (fun y hy => hm y (List.mem_cons_of_mem _ ((ky _ ys).mem_iff.1 hy))) (kx h ys fun y hy => hm y (List.mem_cons_of_mem _ hy))
end Go.Proofs.YtegigakgcnhiaaaGreatDoor

namespace Go.Proofs.YtegigakgcnhiaaaGreatDoor
open Go Go.Sort Go.Shelf

structure Elt {α : Type} (r : Rp α) (S : SH) (XS : List α) : Type where
 v : Value
 x : α
 h : r.rc S [v] x
 m : x ∈ XS
theorem elts {α : Type} {r : Rp α} (h1 : r.sz = 1) {S : SH} {XS : List α} : ∀ {xs : List α} {cs : List Value}, rcs r S cs xs → (∀ x ∈ xs, x ∈ XS) → ∃ d : List (Elt r S XS), d.map Elt.v = cs ∧ d.map Elt.x = xs
 | [], cs, h, _ => ⟨[], by rw [show cs = [] from h]; rfl, rfl⟩
 | x :: xs, cs, ⟨a, b, e, h2, h3⟩, hm => by
  obtain ⟨d, e1, e2⟩ := elts h1 h3 fun y hy => hm y (List.mem_cons_of_mem _ hy)
  have hl := r.len h2
  rw [h1] at hl
  obtain ⟨v, rfl⟩ := List.length_eq_one_iff.1 hl
  exact ⟨⟨v, x, h2, hm x (List.mem_cons_self ..)⟩ :: d, by rw [e, List.map_cons, e1]; rfl, by rw [List.map_cons, e2]⟩
theorem elts_back {α : Type} {r : Rp α} {S : SH} {XS : List α} : ∀ d : List (Elt r S XS), rcs r S (d.map Elt.v) (d.map Elt.x)
 | [] => rfl
 | p :: d => ⟨[p.v], _, rfl, p.h, elts_back d⟩
theorem heap_grow_lt {w : World} {os : Array Obj} {k : Nat} (h : k < w.heap.size) : (grow w os).heap[k]? = w.heap[k]? := by
 unfold grow; exact Array.getElem?_append_left h
theorem heap_putRow {α : Type} [Inhabited α] {enc : α → Value} {w : World} {b off : Nat} {d : Array α} {k : Nat} (h : k ≠ b) : (putRow enc w b off d).heap[k]? = w.heap[k]? := by
 unfold putRow mapBlock
 rw [Array.getElem?_modify, if_neg (Ne.symm h)]
theorem kz {α : Type} [Inhabited α] {enc : α → Value} {w : World} {b off m : Nat} {d : Array α} {os : Array Obj} {k : Nat} (hk : k < w.heap.size) (h : k ≠ b) : (sortWorld enc w b off m d os).heap[k]? = w.heap[k]? := by
 unfold sortWorld
 rw [heap_grow_lt (by rw [size_putRow]; exact hk), heap_putRow h]; rfl
theorem heap_sort_eq {α : Type} [Inhabited α] {enc : α → Value} {w : World} {b off m : Nat} {d : Array α} {os : Array Obj} {c : Array Value} {T : TypeId} {fr : Nat × Nat} (h : w.heap[b]? = some (.cells c T fr)) :
  (sortWorld enc w b off m d os).heap[b]? = some (.cells (putCells enc off d c) T fr) := by
 have hlt := (Array.getElem?_eq_some_iff.1 h).1
 unfold sortWorld
 rw [heap_grow_lt (by rw [size_putRow]; exact hlt)]
 unfold putRow mapBlock
 rw [Array.getElem?_modify, if_pos rfl]
 show Option.map _ (w.heap[b]?) = _
 rw [h]; rfl
theorem putCells_take {α : Type} [Inhabited α] {enc : α → Value} {d : Array α} {c : Array Value} (h : d.size ≤ c.size) : (putCells enc 0 d c).toList.take d.size = d.toList.map enc := by
 apply List.ext_getElem?
 intro k
 by_cases hk : k < d.size
 ·rw [List.getElem?_take_of_lt hk]
  have hc : k < c.size := by omega
  simp [putCells, hc, hk]
 ·rw [List.getElem?_eq_none (by simp; omega), List.getElem?_eq_none (by simp; omega)]
theorem ext_grown {w w' : World} {S S' : SH} (h : Ext noB w S w' S') : ∃ q os, w' = grow (w.drewN q) os := by
 refine ⟨w'.drawn - w.drawn, w'.heap.extract w.heap.size w'.heap.size, ?_⟩
 obtain ⟨hp, t, dr, os, out⟩ := w'
 have h1 : hp = w.heap ++ hp.extract w.heap.size hp.size := by
  apply Array.ext_getElem?
  intro k
  have hs := h.size
  simp only at hs
  by_cases hk : k < w.heap.size
  ·rw [Array.getElem?_append_left hk]; exact h.heap k hk (fun h => h)
  ·rw [Array.getElem?_append_right (by omega), Array.getElem?_extract]
   split
   ·congr 1; omega
   ·rename_i hlt
    rw [Array.getElem?_eq_none]; omega
 have h2 := h.os; have h3 := h.tape; have h4 := h.output; have h5 := h.drawn
 simp only at h2 h3 h4 h5
 subst h2 h3 h4
 unfold grow World.drewN
 simp only
 congr 1
 omega

theorem sort_arr {P : Program} {ρ : Ren} (L : SlLaysF.n6 P ρ) {α : Type} [DecidableEq α] {r : Rp α} (hag : r.agg = false) {T : TypeId} {l : Option Nat} {cap : Nat} {xs ys : List α} {w : World} {S : SH} {fv : Value} {cmp : α × α → Option Int}
  (hs : Sat w S) (h : (arr r T l cap xs).p w S) (hfv : (cU P (fun p : α × α => [tD r p.1, tD r p.2]) (tD (rI .i64)) cmp).p S fv) (hy : sortF cmp xs = some ys) :
  Calls P (ρ.f 6) #[aD l cap xs.length, fv] w fun e w' => e = .returned (.tuple #[]) ∧ Ext (fun k => l = some k) w S w' S ∧ Sat w' S ∧ (arr r T l cap ys).p w' S ∧ ys.length = xs.length := by
 obtain ⟨hG, hys⟩ := sortF_some hy
 have hperm : ys.Perm xs := by rw [hys]; exact ky _ xs
 have hlen := hperm.length_eq
 have none' : xs = [] → Calls P (ρ.f 6) #[aD l cap xs.length, fv] w fun e w' => e = .returned (.tuple #[]) ∧ Ext (fun k => l = some k) w S w' S ∧ Sat w' S ∧ (arr r T l cap ys).p w' S ∧ ys.length = xs.length := by
  intro hx
  subst hx
  have e : ys = [] := by rw [hys]; rfl
  subst e
  cases l with
  | none => exact (AnyF.slices_SortFunc_none (P := P) (ρ := ρ) { L with } none 0 fv w).mono fun _ _ ⟨h1, h2⟩ => by subst h2; exact ⟨h1, Ext.refl _ _ _, hs, h, rfl⟩
  | some b => exact (AnyF.slices_SortFunc_none (P := P) (ρ := ρ) { L with } (some ⟨b, 0, none⟩) cap fv w).mono fun _ _ ⟨h1, h2⟩ => by subst h2; exact ⟨h1, Ext.refl _ _ _, hs, h, rfl⟩
 cases l with
 | none => exact none' (List.eq_nil_of_length_eq_zero (by obtain ⟨_, h4, _⟩ := h; exact h4.1))
 | some b =>
  obtain ⟨cells0, ⟨cur, hb, hle, hmax, hcs, hct⟩, hrc, hno0⟩ := h
  have hno : S b = none := hno0 b rfl
  subst hct
  have h1 := r.sc hag
  rw [h1, Nat.mul_one] at hcs hrc
  obtain ⟨d, hd1, hd2⟩ := elts h1 hrc (fun x hx => hx)
  have hdl : d.length = xs.length := by have := congrArg List.length hd2; simpa using this
  cases hxs : xs with
  | nil => rw [← hxs]; exact none' hxs
  | cons x0 xs0 =>
  rw [← hxs]
  have hne : 0 < d.length := by rw [hdl, hxs]; simp
  haveI : Inhabited (Elt r S xs) := ⟨d[0]⟩
  obtain ⟨g, cb, rfl, hcal, hsp⟩ := hfv
  let enc : Elt r S xs → Value := Elt.v
  let cf : Elt r S xs → Elt r S xs → Int := fun p q => (cmp (p.x, q.x)).getD 0
  have hcf : ∀ p q, cmp (p.x, q.x) = some (cf p q) := fun p q => by
   have := hG.tot _ p.m _ q.m
   obtain ⟨c, hc⟩ := Option.isSome_iff_exists.1 this
   show _ = some ((cmp (p.x, q.x)).getD 0)
   rw [hc]; rfl
  have hlt : ∀ p q, ltOf cf p q = ltF cmp p.x q.x := fun p q => by
   unfold ltOf ltF; rw [hcf p q]
  have hO : SWO (ltOf cf) := ⟨fun x => by rw [hlt]; exact hG.irr _ x.m, fun x y z a b => by rw [hlt] at *; exact hG.tr _ x.m _ y.m _ z.m a b, fun x y z a b => by rw [hlt] at *; exact hG.ntr x.m y.m z.m a b⟩
  have hblk := (Array.getElem?_eq_some_iff.1 hb).1
  have hcmp : CmpLays1 P g cb enc cf b 0 d.toArray.size w := by
   intro m os dk hdk x y
   have hsat : Sat (sortWorld enc w b 0 m dk os) S := hs.same fun k o hk => by
    have hkb : k ≠ b := fun e => by subst e; rw [hno] at hk; cases hk
    exact kz (hs.lt hk) hkb
   have := hsp (x.x, y.x) _ (hcf x y) _ S [x.v, y.v] (SH.le_refl _) hsat ⟨⟨_, by unfold Rp.val; rw [hag]; rfl, x.h⟩, ⟨_, by unfold Rp.val; rw [hag]; rfl, y.h⟩, trivial⟩
   refine this.mono fun e w' ⟨v, S'', he, hext, _, hv⟩ => ⟨by rw [he, bD.1 hv], ext_grown hext⟩
  have hsz : d.toArray.size = xs.length := by simpa using hdl
  have hH : Holds enc w b 0 d.toArray := by
   intro j hj
   have hj' : j < d.length := by simpa using hj
   have hc : cur[j]? = some (enc d.toArray[j]!) := by
    have : (cur.toList.take xs.length)[j]? = some (enc d.toArray[j]!) := by
     rw [← hd1, List.getElem?_map, getElem!_pos d.toArray j hj]
     simp [hj', enc]
    rw [List.getElem?_take_of_lt (by omega)] at this
    simpa using this
   refine ⟨by simp [World.cell?, hb, hc], ?_⟩
   simp [World.frozen?, hb]
  have hcall := Any.slices_SortFunc L enc (fun p => r.one p.h _ (List.mem_singleton_self _)) cf hO g cb b 0 cap d.toArray w (fun args w => cl hcal args w) hcmp hH hblk (by rw [hsz]; have := hG.len; omega)
  rw [hsz] at hcall
  refine hcall.mono fun e w' ⟨he, d', n, os, ⟨hp1, _, hp2⟩, hso, hw⟩ => ?_
  have hd's : d'.size = xs.length := by rw [hp1, hsz]
  have hp3 : d'.toList.Perm d := by
   have e1 : d'.extract 0 xs.length = d' := by rw [← hd's]; exact Array.extract_size
   have e2 : d.toArray.extract 0 xs.length = d.toArray := by rw [← hsz]; exact Array.extract_size
   rw [e1, e2] at hp2
   simpa using hp2
  have hyd : ys = d'.toList.map Elt.x := by
   have hp4 : (d'.toList.map Elt.x).Perm xs := by have := hp3.map Elt.x; rwa [hd2] at this
   refine List.Perm.eq_of_pairwise (le := fun a b => ltF cmp b a = false) ?_ ?_ ?_ (hperm.trans hp4.symm)
   ·intro a c ha hc h5 h6
    exact hG.anti a (hperm.mem_iff.1 ha) c (hp4.mem_iff.1 hc) h6 h5
   ·rw [hys]; exact kx hG xs fun y hy => hy
   ·rw [List.pairwise_iff_getElem]
    intro i j hi hj hij
    have hj' : j < d'.size := by simpa using hj
    have := hso i j (Nat.zero_le _) hij (by omega)
    rw [hlt, getElem!_pos d' j hj', getElem!_pos d' i (by omega)] at this
    simpa using this
  subst hw
  refine ⟨he, ⟨rfl, rfl, rfl, Nat.le_add_right _ _, ?_, fun k hk hkb => kz hk (fun e => hkb (by rw [e])), SH.le_refl _, fun _ _ _ => rfl⟩, hs.same fun k o hk => ?_, ⟨_, ⟨_, heap_sort_eq hb, by omega, hmax, ?_, rfl⟩, ?_, hno0⟩, hlen⟩
  ·unfold sortWorld; rw [size_grow, size_putRow]; exact Nat.le_add_right _ _
  ·have hkb : k ≠ b := fun e => by subst e; rw [hno] at hk; cases hk
   exact kz (hs.lt hk) hkb
  ·simp [putCells, h1, hcs]
  ·rw [h1, Nat.mul_one, hlen, ← hd's, putCells_take (by omega), hyd]
   exact elts_back d'.toList

section
variable {E : En} {O : List OE} {G : Ctx} {Q : Exit → Act → World → Prop} {ops : Array Oper} {rest : List Oper} {d : Nat} {ty : TypeId} {pos : String} {after : Array Edge}
theorem RG.sortO {ρ : Ren} (L : SlLaysF.n6 E.P ρ) {f : FuncId} (hf : ρ.f 6 = f) (hc : an E.P f = true) {α : Type} [DecidableEq α] {r : Rp α} (hag : r.agg = false) {T : TypeId} {l : Option Nat} {cap n : Nat} {xs ys : List α} {cmp : α × α → Option Int} {x y : Operand} {ats : Array TypeId}
  (hy' : sortF cmp xs = some ys) (hx : aA E.N G x (tV (aD l cap n))) (hn : n = xs.length) (hy : aA E.N G y (cU E.P (fun p : α × α => [tD r p.1, tD r p.2]) (tD (rI .i64)) cmp)) (hd : Nat.blt d E.N.n = true)
  (k : ys.length = n → RG E ops Q rest (arr r T l cap ys :: O) ((d, tAny) :: G)) : RG E ops Q (⟨some d, .call ⟨.value (.func f), #[x, y], ats⟩, ty, pos, after, none⟩ :: rest) (arr r T l cap xs :: O) G := .of rfl fun a w S st => by
 subst hf
 subst hn
 have h1 : a.eval x = aD l cap xs.length := hx S a st.facts
 have hr : (execOp a.eval ⟨some d, .call ⟨.value (.func (ρ.f 6)), #[x, y], ats⟩, ty, pos, after, none⟩).run E.P w = .ok (.enter (ρ.f 6) #[aD l cap xs.length, a.eval y]) w := by
  have e0 : a.eval (.func (ρ.f 6)) = .func (.func (ρ.f 6)) #[] #[] := rfl
  simp [execOp, resolve, e0, h1, Deferred.ofValue, invoke, cl hc]
 refine ⟨fun c h => (by cases h), ?_⟩
 rw [hr]
 refine (sort_arr L hag st.sat st.own.1.1 (hy S a st.facts) hy').mono fun e w' ⟨he, hext, hsat, hp, hlen⟩ => ⟨_, he, ?_⟩
 have hfp : ∀ g ∈ O, ∀ b, g.fp b → ¬ (l = some b) := fun g hg b hb hl => st.own.2.1 g hg b hl hb
 refine k hlen _ _ S ⟨st.ext.step hext (fun c hc => st.own.1.2 c hc), hsat, ⟨⟨hp, st.own.1.2⟩, st.own.2.1, st.own.2.2.ext hext hfp⟩, ?_⟩;exact (st.facts.mono hext.keep).put hd trivial
theorem RG.relen {n m : Nat} {l : Option Nat} {cap : Nat} (hl : m = n) (s : Nat) (hs : look G s = some (tV (aD l cap n))) (k : RG E ops Q rest O ((s, tV (aD l cap m)) :: G)) : RG E ops Q rest O G := by
 subst hl
 exact fun a w S st => k a w S ⟨st.ext, st.sat, st.own, ⟨st.facts.size, st.facts.defers, fun j t h => by
  unfold look at h
  by_cases hb : Nat.beq s j = true
  ·rw [hb] at h
   have := Nat.eq_of_beq_eq_true hb
   subst this
   have e : tV (aD l cap m) = t := by simpa using h
   rw [← e]; exact st.facts.at_ s _ hs
  ·rw [Bool.not_eq_true] at hb
   rw [hb] at h
   exact st.facts.at_ j t h⟩⟩
end
end Go.Proofs.YtegigakgcnhiaaaGreatDoor

namespace Go.Proofs.YtegigakgcnhiaaaGreatDoor
open Go Go.Lib

theorem gx {W w : World} (hle : ∀ (b : Nat) (o : Obj), W.heap[b]? = some o → ∃ o', w.heap[b]? = some o' ∧ ole o o') {b i : Nat} {v : Value} (h : W.cell? ⟨b, i, none⟩ = some v) : w.cell? ⟨b, i, none⟩ = some v := by
 unfold World.cell? at h ⊢
 cases hb : W.heap[b]? with
 | none => simp [hb] at h
 | some o =>
  obtain ⟨o', h1, h2⟩ := hle b o hb
  simp only [hb] at h
  simp only [h1]
  cases o with
  | cells c T fr =>
   obtain ⟨l, rfl⟩ := h2
   simp only [Option.isSome_none, Bool.false_eq_true, if_false] at h ⊢
   rw [← Array.getElem?_toList] at h ⊢
   rw [List.getElem?_append_left (List.getElem?_eq_some_iff.1 h).1]
   exact h
  | _ => simp at h
theorem CaseVar_ole {g : Nat} {T : Array CaseRow} {W w : World} (hle : ∀ (b : Nat) (o : Obj), W.heap[b]? = some o → ∃ o', w.heap[b]? = some o' ∧ ole o o') (h : CaseVar g T W) : CaseVar g T w := by
 obtain ⟨R, oR, cap, h1, h2⟩ := h
 exact ⟨R, oR, cap, gx hle h1, fun i hi => ⟨gx hle (h2 i hi).1, gx hle (h2 i hi).2.1, gx hle (h2 i hi).2.2.1, gx hle (h2 i hi).2.2.2.1, gx hle (h2 i hi).2.2.2.2⟩⟩
theorem Utf8Tabs_ole {g3 g4 : Nat} {W w : World} (hle : ∀ (b : Nat) (o : Obj), W.heap[b]? = some o → ∃ o', w.heap[b]? = some o' ∧ ole o o') (h : Utf8Tabs g3 g4 W) : Utf8Tabs g3 g4 w :=
 ⟨fun c hc => gx hle (h.1 c hc), fun i hi => ⟨gx hle (h.2 i hi).1, gx hle (h.2 i hi).2⟩⟩
end Go.Proofs.YtegigakgcnhiaaaGreatDoor

