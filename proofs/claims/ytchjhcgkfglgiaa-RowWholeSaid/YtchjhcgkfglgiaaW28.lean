/- A small logic over the walk's rules: maps of the call's own. It states nothing of any program. -/
import Derived.Test.YtchjhcgkfglgiaaW26
import Derived.MapKept
namespace Go.Proofs.Ytchjhcgkfglgiaa
open Go

/-- A step that is taken only if a guard inside a guard holds. -/
theorem og3 {α β : Type} [Inhabited α] {c b : Bool} {x : Option α} {k : α → Option β} {d : Option β} {r : β} (h : c = true → (if b = true then x.bind k else d) = some r) : ∃ y, ((c && b) = true → x = some y ∧ k y = some r) ∧ (c = true → b = false → d = some r) := by
  cases c with
  | false => exact ⟨default, fun e => (by cases e), fun e => (by cases e)⟩
  | true =>
    obtain ⟨y, h1, h2⟩ := og (h rfl)
    exact ⟨y, fun e => h1 e, fun _ e => h2 e⟩
/-! ### Maps, as data -/
/-- What lies at a key. -/
def mget {κ β : Type} [DecidableEq κ] : List (κ × β) → κ → Option β
  | [], _ => none
  | p :: m, k => if p.1 = k then some p.2 else mget m k
/-- With something laid at a key. -/
def mset {κ β : Type} [DecidableEq κ] : List (κ × β) → κ → β → List (κ × β)
  | [], k, v => [(k, v)]
  | p :: m, k, v => if p.1 = k then (k, v) :: m else p :: mset m k v
/-- How keys lie. -/
def KeyOK {κ : Type} (P : Program) (kt : TypeId) (kv : κ → Value) : Prop := ∃ d, P.underlying kt = some d ∧ (∀ a, MapKept.IsKey d (kv a)) ∧ ∀ a b, kv a = kv b → a = b
def kvI (k : IntKind) (n : Int) : Value := .int k n
def kvS (s : Str) : Value := .string ⟨s.toArray⟩
theorem key_int {P : Program} {kt : TypeId} {k : IntKind} (h : P.underlying kt = some (.int k)) : KeyOK P kt (kvI k) := ⟨_, h, fun _ => rfl, fun a b e => by injection e⟩
theorem key_str {P : Program} {kt : TypeId} (h : P.underlying kt = some .string) : KeyOK P kt kvS := ⟨_, h, fun _ => trivial, fun a b e => by
  injection e with e
  injection e with e
  simpa using congrArg Array.toList e⟩
/-- What a map's values are, and what they own. -/
structure MV (β : Type) where
  p : World → SH → β → Option Nat × Nat → Value → Prop
  here : ∀ {w S y o v}, p w S y o v → ∀ j, o.1 = some j → j < w.heap.size
  kept : ∀ {C w w' S S' y o v}, p w S y o v → Ext C w S w' S' → (∀ j, o.1 = some j → ¬ C j) → p w' S' y o v
/-- Data, or functions: nothing is owned. -/
def mvY {β : Type} (ty : β → Ty) : MV β where
  p := fun _ S y o v => o.1 = none ∧ (ty y).p S v
  here := fun h j hj => by rw [h.1] at hj; cases hj
  kept := fun h k _ => ⟨h.1, (ty _).mono k.keep h.2⟩
/-- Lists to which is appended. -/
def mvT {α : Type} (r : Rp α) (T : TypeId) : MV (List α) where
  p := fun w S xs o v => v = oslV o.1 o.2 xs.length ∧ arrP true r T o.1 o.2 xs w S
  here := fun {w S y o v} h j hj => (arrM true r T o.1 o.2 y).here h.2 j hj
  kept := fun {C w w' S S' y o v} h k hC => ⟨h.1, (arrM true r T o.1 o.2 y).kept h.2 k hC⟩
section
variable {κ β : Type} [DecidableEq κ] {V : MV β} {kv : κ → Value} {w w' : World} {S S' : SH} {d : TypeDesc} {k : κ}
/-- A map's entries; the value at the key h, if there is one, is whatever. -/
def ents (V : MV β) (kv : κ → Value) (w : World) (S : SH) (h : Option κ) : List MapEntry → List (Option Nat × Nat) → List (κ × β) → Prop
  | [], [], [] => True
  | e :: es, o :: os, q :: m => e.key = kv q.1 ∧ (if h = some q.1 then o.1 = none else V.p w S q.2 o e.val) ∧ (∀ o' ∈ os, ∀ j, o.1 = some j → o'.1 ≠ some j) ∧ (∀ p ∈ m, p.1 ≠ q.1) ∧ ents V kv w S h es os m
  | _, _, _ => False
theorem ents_here {h : Option κ} : ∀ {es : List MapEntry} {os : List (Option Nat × Nat)} {m : List (κ × β)}, ents V kv w S h es os m → ∀ o ∈ os, ∀ j, o.1 = some j → j < w.heap.size
  | [], [], [], _, o, ho, _, _ => by cases ho
  | e :: es, o :: os, q :: m, ⟨_, h2, _, _, h5⟩, o', ho, j, hj => by
    rcases List.mem_cons.1 ho with rfl | ho
    · split at h2
      · rw [h2] at hj; cases hj
      · exact V.here h2 j hj
    · exact ents_here h5 o' ho j hj
theorem ents_ext {C : Nat → Prop} (k : Ext C w S w' S') {h : Option κ} : ∀ {es : List MapEntry} {os : List (Option Nat × Nat)} {m : List (κ × β)}, ents V kv w S h es os m → (∀ o ∈ os, ∀ j, o.1 = some j → ¬ C j) → ents V kv w' S' h es os m
  | [], [], [], _, _ => trivial
  | e :: es, o :: os, q :: m, ⟨h1, h2, h3, h4, h5⟩, hC => ⟨h1, by
    split
    · rename_i hh; rw [if_pos hh] at h2; exact h2
    · rename_i hh; rw [if_neg hh] at h2; exact V.kept h2 k (hC o (List.mem_cons_self ..)), h3, h4, ents_ext k h5 fun o' ho => hC o' (List.mem_cons_of_mem _ ho)⟩
theorem ents_nohole {h : Option κ} : ∀ {es : List MapEntry} {os : List (Option Nat × Nat)} {m : List (κ × β)}, ents V kv w S h es os m → (∀ p ∈ m, h ≠ some p.1) → ents V kv w S none es os m
  | [], [], [], _, _ => trivial
  | e :: es, o :: os, q :: m, ⟨h1, h2, h3, h4, h5⟩, hk => ⟨h1, by
    rw [if_neg (hk q (List.mem_cons_self ..))] at h2
    rw [if_neg (by simp)]; exact h2, h3, h4, ents_nohole h5 fun p hp => hk p (List.mem_cons_of_mem _ hp)⟩
theorem mget_none {m : List (κ × β)} (h : ∀ p ∈ m, p.1 ≠ k) : mget m k = none := by
  induction m with
  | nil => rfl
  | cons p m ih => unfold mget; rw [if_neg (h p (List.mem_cons_self ..))]; exact ih fun q hq => h q (List.mem_cons_of_mem _ hq)
theorem sameNow_keys (hd : ∀ a, MapKept.IsKey d (kv a)) (hi : ∀ a b, kv a = kv b → a = b) (a b : κ) : Instr.sameNow d (kv a) (kv b) = some (decide (a = b)) := by
  obtain ⟨r, h1, h2⟩ := MapKept.sameNow_of_keys (hd a) (hd b)
  rw [h1]
  by_cases h : a = b
  · subst h; rw [h2.2 rfl]; simp
  · rw [decide_eq_false h]
    cases r with
    | false => rfl
    | true => exact absurd (hi _ _ (h2.1 rfl)) h
/-- What lies at a key is taken out. -/
theorem ents_punch (hd : ∀ a, MapKept.IsKey d (kv a)) (hi : ∀ a b, kv a = kv b → a = b) : ∀ {es : List MapEntry} {os : List (Option Nat × Nat)} {m : List (κ × β)} (i : Nat), ents V kv w S none es os m →
    ∃ os', (∀ x ∈ os', x ∈ os ∨ x.1 = none) ∧ ents V kv w S (some k) es os' m ∧
      ((mget m k = none ∧ Instr.findNow d (kv k) es i = some none) ∨ ∃ (y : β) (o : Option Nat × Nat) (e : MapEntry) (j : Nat), mget m k = some y ∧ o ∈ os ∧ V.p w S y o e.val ∧ Instr.findNow d (kv k) es i = some (some (j, e.val)) ∧ ∀ x ∈ os', ∀ q, o.1 = some q → x.1 ≠ some q)
  | [], [], [], i, _ => ⟨[], fun x hx => (by cases hx), trivial, .inl ⟨rfl, rfl⟩⟩
  | e :: es, o :: os, q :: m, i, ⟨h1, h2, h3, h4, h5⟩ => by
    rw [if_neg (by simp)] at h2
    by_cases hk : q.1 = k
    · refine ⟨(none, 0) :: os, fun x hx => ?_, ⟨h1, by rw [if_pos (by rw [hk])], fun _ _ _ hj => (by cases hj), h4, ?_⟩, .inr ⟨q.2, o, e, i, by unfold mget; rw [if_pos hk], List.mem_cons_self .., h2, ?_, fun x hx j hj => ?_⟩⟩
      · rcases List.mem_cons.1 hx with rfl | hx
        · exact .inr rfl
        · exact .inl (List.mem_cons_of_mem _ hx)
      · have : ∀ {es : List MapEntry} {os : List (Option Nat × Nat)} {m : List (κ × β)}, ents V kv w S none es os m → (∀ p ∈ m, p.1 ≠ k) → ents V kv w S (some k) es os m := by
          intro es
          induction es with
          | nil => intro os m h _; cases os <;> cases m <;> first | trivial | exact h.elim
          | cons e es ih =>
            intro os m h hm
            cases os with
            | nil => cases m <;> exact h.elim
            | cons o os =>
              cases m with
              | nil => exact h.elim
              | cons q m =>
                obtain ⟨g1, g2, g3, g4, g5⟩ := h
                rw [if_neg (by simp)] at g2
                exact ⟨g1, by rw [if_neg (fun e => hm q (List.mem_cons_self ..) (Option.some.inj e).symm)]; exact g2, g3, g4, ih g5 fun p hp => hm p (List.mem_cons_of_mem _ hp)⟩
        exact this h5 (fun p hp => by rw [← hk]; exact h4 p hp)
      · unfold Instr.findNow
        rw [h1, sameNow_keys hd hi, hk, decide_eq_true rfl]
      · rcases List.mem_cons.1 hx with rfl | hx
        · exact fun e => by cases e
        · exact h3 x hx j hj
    · obtain ⟨os', g1, g2, g3⟩ := ents_punch hd hi (i + 1) h5
      refine ⟨o :: os', fun x hx => ?_, ⟨h1, by rw [if_neg (fun e => hk (Option.some.inj e).symm)]; exact h2, fun o' ho' j hj => ?_, h4, g2⟩, ?_⟩
      · rcases List.mem_cons.1 hx with rfl | hx
        · exact .inl (List.mem_cons_self ..)
        · exact (g1 x hx).imp (List.mem_cons_of_mem _) id
      · rcases g1 o' ho' with h | h
        · exact h3 o' h j hj
        · rw [h]; exact fun e => by cases e
      · have hf : Instr.findNow d (kv k) (e :: es) i = Instr.findNow d (kv k) es (i + 1) := by
          conv => lhs; unfold Instr.findNow
          rw [h1, sameNow_keys hd hi, decide_eq_false (fun e => hk e.symm)]
        have hm : mget (q :: m) k = mget m k := by conv => lhs; unfold mget; rw [if_neg hk]
        rw [hf, hm]
        refine g3.imp id fun ⟨y, o1, e1, j, f1, f2, f3, f4, f5⟩ => ⟨y, o1, e1, j, f1, List.mem_cons_of_mem _ f2, f3, f4, fun x hx q hq => ?_⟩
        rcases List.mem_cons.1 hx with rfl | hx
        · exact fun e => h3 o1 f2 q e hq
        · exact f5 x hx q hq
theorem modify_cons {α : Type} (x : α) (xs : List α) (j : Nat) (f : α → α) : (x :: xs).modify (j + 1) f = x :: xs.modify j f := by simp [List.modify_succ_cons]
/-- Something is laid at a key. -/
theorem ents_fill (hd : ∀ a, MapKept.IsKey d (kv a)) (hi : ∀ a b, kv a = kv b → a = b) {y : β} {o : Option Nat × Nat} {v : Value} {born : Nat} (hv : V.p w S y o v) : ∀ {es : List MapEntry} {os : List (Option Nat × Nat)} {m : List (κ × β)} (i : Nat), ents V kv w S (some k) es os m → (∀ o' ∈ os, ∀ j, o.1 = some j → o'.1 ≠ some j) →
    ∃ os', (∀ x ∈ os', x ∈ os ∨ x = o) ∧
      ((∃ (j : Nat) (e : MapEntry), Instr.findNow d (kv k) es i = some (some (i + j, e.val)) ∧ es[j]? = some e ∧ e.key = kv k ∧ ents V kv w S none (es.modify j fun e => { e with key := kv k, val := v }) os' (mset m k y)) ∨
        (Instr.findNow d (kv k) es i = some none ∧ ents V kv w S none (es ++ [⟨kv k, v, born⟩]) os' (mset m k y)))
  | [], [], [], i, _, _ => ⟨[o], fun x hx => .inr (List.mem_singleton.1 hx), .inr ⟨rfl, ⟨rfl, by rw [if_neg (by simp)]; exact hv, fun _ h => (by cases h), fun _ h => (by cases h), trivial⟩⟩⟩
  | e :: es, o1 :: os, q :: m, i, ⟨h1, h2, h3, h4, h5⟩, ha => by
    by_cases hk : q.1 = k
    · refine ⟨o :: os, fun x hx => ?_, .inl ⟨0, e, ?_, rfl, by rw [h1, hk], ?_⟩⟩
      · rcases List.mem_cons.1 hx with rfl | hx
        · exact .inr rfl
        · exact .inl (List.mem_cons_of_mem _ hx)
      · unfold Instr.findNow
        rw [h1, sameNow_keys hd hi, hk, decide_eq_true rfl]
        rfl
      · unfold mset
        rw [if_pos hk, List.modify_zero_cons]
        exact ⟨rfl, by rw [if_neg (by simp)]; exact hv, fun o' ho' => ha o' (List.mem_cons_of_mem _ ho'), fun p hp => by rw [← hk]; exact h4 p hp,
          ents_nohole h5 fun p hp e => h4 p hp (by rw [hk]; exact (Option.some.inj e).symm)⟩
    · obtain ⟨os', g1, g2⟩ := ents_fill hd hi (born := born) hv (i + 1) h5 fun o' ho' => ha o' (List.mem_cons_of_mem _ ho')
      rw [if_neg (fun e => hk (Option.some.inj e).symm)] at h2
      have hf : Instr.findNow d (kv k) (e :: es) i = Instr.findNow d (kv k) es (i + 1) := by
        conv => lhs; unfold Instr.findNow
        rw [h1, sameNow_keys hd hi, decide_eq_false (fun e => hk e.symm)]
      have hm : mset (q :: m) k y = q :: mset m k y := by conv => lhs; unfold mset; rw [if_neg hk]
      have hap : ∀ o' ∈ os', ∀ j, o1.1 = some j → o'.1 ≠ some j := fun o' ho' j hj => by
        rcases g1 o' ho' with h | rfl
        · exact h3 o' h j hj
        · exact fun e => ha o1 (List.mem_cons_self ..) j e hj
      have hne : ∀ p ∈ mset m k y, p.1 ≠ q.1 := by
        have : ∀ m : List (κ × β), (∀ p ∈ m, p.1 ≠ q.1) → ∀ p ∈ mset m k y, p.1 ≠ q.1 := by
          intro m
          induction m with
          | nil => intro _ p hp; rw [List.mem_singleton.1 hp]; exact fun e => hk e.symm
          | cons p0 m ih =>
            intro hm p hp
            unfold mset at hp
            split at hp
            · rcases List.mem_cons.1 hp with rfl | hp
              · exact fun e => hk e.symm
              · exact hm p (List.mem_cons_of_mem _ hp)
            · rcases List.mem_cons.1 hp with rfl | hp
              · exact hm _ (List.mem_cons_self ..)
              · exact ih (fun p hp => hm p (List.mem_cons_of_mem _ hp)) p hp
        exact this m h4
      rw [hf, hm]
      refine ⟨o1 :: os', fun x hx => ?_, g2.imp (fun ⟨j, e', f1, f2, f3, f4⟩ => ⟨j + 1, e', by rw [f1]; congr 3; omega, by simpa using f2, f3, ?_⟩) fun ⟨f1, f2⟩ => ⟨f1, ?_⟩⟩
      · rcases List.mem_cons.1 hx with rfl | hx
        · exact .inl (List.mem_cons_self ..)
        · exact (g1 x hx).imp (List.mem_cons_of_mem _) id
      · rw [modify_cons]
        exact ⟨h1, by rw [if_neg (by simp)]; exact h2, hap, hne, f4⟩
      · exact ⟨h1, by rw [if_neg (by simp)]; exact h2, hap, hne, f2⟩
/-- A map of the call's own. -/
def mapO (V : MV β) (kv : κ → Value) (b : Nat) (h : Option κ) (os : List (Option Nat × Nat)) (m : List (κ × β)) : OE where
  fp := fun j => j = b ∨ ∃ o ∈ os, o.1 = some j
  p := fun w S => S b = none ∧ (∀ o ∈ os, o.1 ≠ some b) ∧ ∃ es clock, w.heap[b]? = some (.map es clock) ∧ ents V kv w S h es.toList os m
  here := by
    intro w S ⟨_, _, es, clock, h3, h4⟩ j hj
    rcases hj with rfl | ⟨o, ho, hj⟩
    · exact (Array.getElem?_eq_some_iff.1 h3).1
    · exact ents_here h4 o ho j hj
  kept := by
    intro C w w' S S' ⟨h1, h2, es, clock, h3, h4⟩ k hC
    have hlt := (Array.getElem?_eq_some_iff.1 h3).1
    exact ⟨by rw [k.old b hlt (hC b (.inl rfl))]; exact h1, h2, es, clock, by rw [k.heap b hlt (hC b (.inl rfl))]; exact h3, ents_ext k h4 fun o ho j hj => hC j (.inr ⟨o, ho, hj⟩)⟩
def mapV (b : Nat) : Value := .map (some b)
end
/-! ### What is done with them -/
section
variable {E : En} {O : List OE} {G : Ctx} {Q : Exit → Act → World → Prop} {ops : Array Oper} {rest : List Oper} {κ β : Type} [DecidableEq κ] {V : MV β} {kv : κ → Value} {b : Nat} {os : List (Option Nat × Nat)} {m : List (κ × β)} {k : κ} {t kt et : TypeId} {x i v : Operand}
  {d : Nat} {dst : Option Nat} {ty : TypeId} {pos : String} {after : Array Edge} {g : Option (Nat × Bool)}
/-- A key, in an operand. -/
def KeyAt (N : Fr) (G : Ctx) (x : Operand) (u : Value) : Prop := ∀ S a, Facts N S a G → a.eval x = u
theorem keyI {N : Fr} {q : IntKind} {n : Int} (h : HasTy N G x (tD (rI q) n)) : KeyAt N G x (kvI q n) := fun S a hf => tI_iff.1 (h S a hf)
theorem keyS {N : Fr} {n : Str} (h : HasTy N G x (tD rS n)) : KeyAt N G x (kvS n) := fun S a hf => tS_iff.1 (h S a hf)
def ZV (P : Program) (T : TypeId) (z : Value) : Prop := (P.info? T).bind (·.zero) = some z
theorem ZV.run {P : Program} {T : TypeId} {z : Value} (h : ZV P T z) (w : World) : (zeroValue T).run P w = .ok z w := by
  unfold ZV at h
  cases hi : P.info? T with
  | none => rw [hi] at h; cases h
  | some i =>
    rw [hi] at h
    have h' : i.zero = some z := h
    simp [zeroValue, typeInfo, hi, h']
theorem RG.makeMap (V : MV β) (kv : κ → Value) (hd : Nat.blt d E.N.n = true) (k : ∀ b, RG E ops Q rest (mapO V kv b none [] [] :: O) ((d, tV (mapV b)) :: G)) :
    RG E ops Q (⟨some d, .makeMap t none, ty, pos, after, none⟩ :: rest) O G := .of rfl fun a w S st => by
  obtain ⟨he, hs', hno⟩ := Ext.alloc_own (w := w) (.map #[] 0) st.sat
  have hrun : (execOp a.eval ⟨some d, .makeMap t none, ty, pos, after, none⟩).run E.P w = .ok (.value (mapV w.heap.size)) (w.alloc (.map #[] 0)) := by
    simp [execOp, Instr.makeMap, mapV]
  refine ⟨fun c h => (by cases h), ?_⟩
  rw [hrun]
  exact k w.heap.size _ _ S ⟨st.ext.step0 he, hs', own_new st.own he ⟨hno, fun _ h => (by cases h), #[], 0, heap_alloc_new w _, trivial⟩ (fun b hb => by
    rcases hb with rfl | ⟨_, h, _⟩
    · exact Nat.le_refl _
    · cases h) st.base_le, st.facts.put hd rfl⟩
theorem run_lookup_at {P : Program} {w : World} {kk : Value} {es : Array MapEntry} {clock : Nat} {q : TypeDesc} {z : Value} {u : Option (Nat × Value)} (hm : P.underlying t = some (.map kt et)) (hq : P.underlying kt = some q) (hk : MapKept.IsKey q kk) (hb : w.heap[b]? = some (.map es clock)) (hz : ZV P et z)
    (hf : Instr.findNow q kk es.toList 0 = some u) (c : Bool) : (Instr.lookup t (mapV b) kk c).run P w = .ok (if c then .tuple #[(u.map (·.2)).getD z, .bool u.isSome] else (u.map (·.2)).getD z) w := by
  cases u with
  | none => simp [Instr.lookup, mapV, run_underlying hm, MapKept.run_getObj_map hb, MapKept.run_checkKey hq hk, MapKept.run_findKey hq hf, hz.run, Result.andThen]
  | some r => simp [Instr.lookup, mapV, run_underlying hm, MapKept.run_getObj_map hb, MapKept.run_checkKey hq hk, MapKept.run_findKey hq hf, Result.andThen]
/-- What lies at a key is read. -/
theorem ok_lookupY {γ : β → Ty} {z : β} {zv : Value} (hm : E.P.underlying t = some (.map kt et)) (hk : KeyOK E.P kt kv) (hz : ZV E.P et zv) (hzt : ∀ S, (γ z).p S zv) (hmem : mapO (mvY γ) kv b none os m ∈ O) (hx : HasTy E.N G x (tV (mapV b))) (hi : KeyAt E.N G i (kv k)) :
    OpOK E O G ⟨dst, .lookup t x i false, ty, pos, after, g⟩ (γ ((mget m k).getD z)) := .of_pure fun a w S hs ho hf => by
  obtain ⟨⟨_, _, es, clock, h3, h4⟩, _⟩ := Own.mem ho _ hmem
  obtain ⟨q, hq, hd, hinj⟩ := hk
  have h1 : a.eval x = mapV b := hx S a hf
  have h2 : a.eval i = kv k := hi S a hf
  obtain ⟨_, _, _, h5⟩ := ents_punch hd hinj (k := k) 0 h4
  rcases h5 with ⟨g1, g2⟩ | ⟨y, o, e, j, g1, g2, g3, g4, g5⟩
  · refine ⟨zv, by simp [execOp, h1, h2, run_lookup_at hm hq (hd k) h3 hz g2], by rw [g1]; exact hzt S⟩
  · refine ⟨e.val, by simp [execOp, h1, h2, run_lookup_at hm hq (hd k) h3 hz g4], by rw [g1]; exact g3.2⟩
/-- And whether anything lies there. -/
theorem ok_lookupY2 {γ : β → Ty} {z : β} {zv : Value} (hm : E.P.underlying t = some (.map kt et)) (hk : KeyOK E.P kt kv) (hz : ZV E.P et zv) (hzt : ∀ S, (γ z).p S zv) (hmem : mapO (mvY γ) kv b none os m ∈ O) (hx : HasTy E.N G x (tV (mapV b))) (hi : KeyAt E.N G i (kv k)) :
    OpOK E O G ⟨dst, .lookup t x i true, ty, pos, after, g⟩ (tT [γ ((mget m k).getD z), tD rB (mget m k).isSome]) := .of_pure fun a w S hs ho hf => by
  obtain ⟨⟨_, _, es, clock, h3, h4⟩, _⟩ := Own.mem ho _ hmem
  obtain ⟨q, hq, hd, hinj⟩ := hk
  have h1 : a.eval x = mapV b := hx S a hf
  have h2 : a.eval i = kv k := hi S a hf
  obtain ⟨_, _, _, h5⟩ := ents_punch hd hinj (k := k) 0 h4
  rcases h5 with ⟨g1, g2⟩ | ⟨y, o, e, j, g1, g2, g3, g4, g5⟩
  · refine ⟨.tuple #[zv, .bool false], by simp [execOp, h1, h2, run_lookup_at hm hq (hd k) h3 hz g2], [zv, .bool false], rfl, by rw [g1]; exact hzt S, tB_iff.2 (by rw [g1]; rfl), trivial⟩
  · refine ⟨.tuple #[e.val, .bool true], by simp [execOp, h1, h2, run_lookup_at hm hq (hd k) h3 hz g4], [e.val, .bool true], rfl, by rw [g1]; exact g3.2, tB_iff.2 (by rw [g1]; rfl), trivial⟩
/-- A list that lies at a key, as data. -/
theorem ok_lookupT {α : Type} {r : Rp α} {T : TypeId} {m : List (κ × List α)} (hm : E.P.underlying t = some (.map kt et)) (hk : KeyOK E.P kt kv) (hz : ZV E.P et (.slice none 0 0)) (hmem : mapO (mvT r T) kv b none os m ∈ O) (hx : HasTy E.N G x (tV (mapV b))) (hi : KeyAt E.N G i (kv k)) :
    OpOK E O G ⟨dst, .lookup t x i false, ty, pos, after, g⟩ (tD (rSl r) ((mget m k).getD [])) := .of_pure fun a w S hs ho hf => by
  obtain ⟨⟨_, _, es, clock, h3, h4⟩, _⟩ := Own.mem ho _ hmem
  obtain ⟨q, hq, hd, hinj⟩ := hk
  have h1 : a.eval x = mapV b := hx S a hf
  have h2 : a.eval i = kv k := hi S a hf
  obtain ⟨_, _, _, h5⟩ := ents_punch hd hinj (k := k) 0 h4
  rcases h5 with ⟨g1, g2⟩ | ⟨y, o, e, j, g1, g2, g3, g4, g5⟩
  · refine ⟨.slice none 0 0, by simp [execOp, h1, h2, run_lookup_at hm hq (hd k) h3 hz g2], by rw [g1]; exact tSl_nil⟩
  · refine ⟨e.val, by simp [execOp, h1, h2, run_lookup_at hm hq (hd k) h3 hz g4], by rw [g1, g3.1]; exact tip_data g3.2⟩
/-- Such a list is taken out, to be appended to. -/
theorem RG.takeT {α : Type} {r : Rp α} {T : TypeId} {m : List (κ × List α)} (hm : E.P.underlying t = some (.map kt et)) (hk : KeyOK E.P kt kv) (hz : ZV E.P et (.slice none 0 0)) (hx : HasTy E.N G x (tV (mapV b))) (hi : KeyAt E.N G i (kv k)) (hd : Nat.blt d E.N.n = true)
    (h : ∀ l c os', RG E ops Q rest (tip r T l c ((mget m k).getD []) :: mapO (mvT r T) kv b (some k) os' m :: O) ((d, tO r l c ((mget m k).getD [])) :: G)) :
    RG E ops Q (⟨some d, .lookup t x i false, ty, pos, after, none⟩ :: rest) (mapO (mvT r T) kv b none os m :: O) G := .of rfl fun a w S st => by
  obtain ⟨⟨⟨hno, hnb, es, clock, h3, h4⟩, hfp⟩, hap, hO⟩ := st.own
  obtain ⟨q, hq, hdk, hinj⟩ := hk
  have h1 : a.eval x = mapV b := hx S a st.facts
  have h2 : a.eval i = kv k := hi S a st.facts
  obtain ⟨os', p1, p2, h5⟩ := ents_punch hdk hinj (k := k) 0 h4
  have hn : ∀ o ∈ os', o.1 ≠ some b := fun o ho => by
    rcases p1 o ho with h | h
    · exact hnb o h
    · rw [h]; exact fun e => by cases e
  have hfp' : ∀ j, (j = b ∨ ∃ o ∈ os', o.1 = some j) → (j = b ∨ ∃ o ∈ os, o.1 = some j) := fun j hj => hj.imp id fun ⟨o, ho, e⟩ => by
    rcases p1 o ho with h | h
    · exact ⟨o, h, e⟩
    · rw [h] at e; cases e
  rcases h5 with ⟨g1, g2⟩ | ⟨y, o, e, j, g1, g2, g3, g4, g5⟩
  · have hrun : (execOp a.eval ⟨some d, .lookup t x i false, ty, pos, after, none⟩).run E.P w = .ok (.value (.slice none 0 0)) w := by simp [execOp, h1, h2, run_lookup_at hm hq (hdk k) h3 hz g2]
    refine ⟨fun c h => (by cases h), ?_⟩
    rw [hrun]
    refine h none 0 os' _ _ S ⟨st.ext, st.sat, ⟨⟨⟨[], ⟨by rw [g1]; rfl, rfl⟩, by rw [g1]; rfl, fun b hb => (by cases hb)⟩, fun j hj => (by cases hj)⟩, fun f _ j hj => (by cases hj), ⟨⟨hno, hn, es, clock, h3, p2⟩, fun j hj => hfp j (hfp' j hj)⟩, fun f hf j hj => hap f hf j (hfp' j hj), hO⟩,
      st.facts.put hd ⟨by rw [g1]; rfl, by rw [g1]; exact tSl_nil⟩⟩
  · have hrun : (execOp a.eval ⟨some d, .lookup t x i false, ty, pos, after, none⟩).run E.P w = .ok (.value e.val) w := by simp [execOp, h1, h2, run_lookup_at hm hq (hdk k) h3 hz g4]
    refine ⟨fun c h => (by cases h), ?_⟩
    rw [hrun]
    have hy : (mget m k).getD [] = y := by rw [g1]; rfl
    refine h o.1 o.2 os' _ _ S ⟨st.ext, st.sat, ⟨⟨by rw [hy]; exact g3.2, fun j hj => hfp j (.inr ⟨o, g2, hj⟩)⟩, fun f hf j hj => ?_, ⟨⟨hno, hn, es, clock, h3, p2⟩, fun j hj => hfp j (hfp' j hj)⟩, fun f hf j hj => hap f hf j (hfp' j hj), hO⟩,
      st.facts.put hd ⟨by rw [hy]; exact g3.1, by rw [hy, g3.1]; exact tip_data g3.2⟩⟩
    rcases List.mem_cons.1 hf with rfl | hf
    · intro hj'
      rcases hj' with rfl | ⟨o', ho', e'⟩
      · exact hnb o g2 hj
      · exact g5 o' ho' j hj e'
    · exact hap f hf j (.inr ⟨o, g2, hj⟩)
theorem run_mapUpdate_at {P : Program} {w : World} {kk : Value} {es : Array MapEntry} {clock : Nat} {q : TypeDesc} {val : Value} (hm : P.underlying t = some (.map kt et)) (hq : P.underlying kt = some q) (hk : MapKept.IsKey q kk) (hb : w.heap[b]? = some (.map es clock)) :
    (Instr.findNow q kk es.toList 0 = some none → (Instr.mapUpdate t (mapV b) kk val).run P w = .ok () { w with heap := w.heap.setIfInBounds b (.map (es.push ⟨kk, val, clock⟩) (clock + 1)) }) ∧
    (∀ j e, Instr.findNow q kk es.toList 0 = some (some (j, e)) → (∀ e', es.toList[j]? = some e' → e'.key = kk) → (∃ e', es.toList[j]? = some e') → (Instr.mapUpdate t (mapV b) kk val).run P w = .ok () { w with heap := w.heap.setIfInBounds b (.map (es.modify j fun e => { e with key := kk, val := val }) clock) }) := by
  refine ⟨fun hf => ?_, fun j e hf hj he => ?_⟩
  · simp [Instr.mapUpdate, mapV, run_underlying hm, MapKept.run_getObj_map hb, MapKept.run_checkKey hq hk, MapKept.run_findKey hq hf, MapKept.run_setObj_map _ hb, Result.andThen]
  · obtain ⟨e', he'⟩ := he
    have h1 := hj e' he'
    have h2 : es[j]? = some e' := by simpa using he'
    simp [Instr.mapUpdate, mapV, run_underlying hm, MapKept.run_getObj_map hb, MapKept.run_checkKey hq hk, MapKept.run_findKey hq hf, MapKept.run_setObj_map _ hb, Result.andThen, h2, h1, MapKept.run_keyThatStays hk]
/-- Something is laid at a key: the block of the map alone is written. -/
theorem map_write {w : World} {S : SH} {y : β} {o : Option Nat × Nat} {val : Value} (hs : Sat w S) (hm : E.P.underlying t = some (.map kt et)) (hk : KeyOK E.P kt kv) (hp : (mapO V kv b (some k) os m).p w S) (hv : V.p w S y o val) (hob : o.1 ≠ some b) (hap : ∀ o' ∈ os, ∀ j, o.1 = some j → o'.1 ≠ some j) :
    ∃ w' os', (Instr.mapUpdate t (mapV b) (kv k) val).run E.P w = .ok () w' ∧ Ext (fun j => j = b) w S w' S ∧ Sat w' S ∧ (mapO V kv b none os' (mset m k y)).p w' S ∧ (∀ j, (mapO V kv b none os' (mset m k y)).fp j → (mapO V kv b (some k) os m).fp j ∨ o.1 = some j) := by
  obtain ⟨hno, hnb, es, clock, h3, h4⟩ := hp
  obtain ⟨q, hq, hdk, hinj⟩ := hk
  obtain ⟨os', p1, p2⟩ := ents_fill hdk hinj (born := clock) hv 0 h4 hap
  have hnb' : ∀ o' ∈ os', o'.1 ≠ some b := fun o' ho' => by
    rcases p1 o' ho' with h | rfl
    · exact hnb o' h
    · exact hob
  have hfp : ∀ j, (j = b ∨ ∃ o ∈ os', o.1 = some j) → (j = b ∨ ∃ o ∈ os, o.1 = some j) ∨ o.1 = some j := fun j hj => by
    rcases hj with h | ⟨o', ho', e⟩
    · exact .inl (.inl h)
    · rcases p1 o' ho' with h | rfl
      · exact .inl (.inr ⟨o', h, e⟩)
      · exact .inr e
  have hw : ∀ X : Obj, Ext (fun j => j = b) w S { w with heap := w.heap.setIfInBounds b X } S ∧ Sat { w with heap := w.heap.setIfInBounds b X } S ∧ ({ w with heap := w.heap.setIfInBounds b X } : World).heap[b]? = some X := fun X =>
    ⟨⟨rfl, rfl, rfl, Nat.le_refl _, by simp, fun j _ hj => (MapKept.heap_set (o' := X) h3).2 j hj, SH.le_refl _, fun _ _ _ => rfl⟩, hs.same fun j o hj => (MapKept.heap_set (o' := X) h3).2 j (fun e => by subst e; rw [hno] at hj; cases hj), (MapKept.heap_set h3).1⟩
  obtain ⟨r1, r2⟩ := run_mapUpdate_at (val := val) hm hq (hdk k) h3
  rcases p2 with ⟨j, e, g1, g2, g3, g4⟩ | ⟨g1, g2⟩
  · rw [Nat.zero_add] at g1
    obtain ⟨x1, x2, x3⟩ := hw (.map (es.modify j fun e => { e with key := kv k, val := val }) clock)
    refine ⟨_, os', r2 j _ g1 (fun e' he' => by rw [g2] at he'; cases he'; exact g3) ⟨_, g2⟩, x1, x2, ⟨hno, hnb', _, _, x3, ?_⟩, hfp⟩
    refine ents_ext x1 (by rw [Array.toList_modify]; exact g4) fun o' ho' j hj e => ?_
    subst e
    exact hnb' o' ho' hj
  · obtain ⟨x1, x2, x3⟩ := hw (.map (es.push ⟨kv k, val, clock⟩) (clock + 1))
    refine ⟨_, os', r1 g1, x1, x2, ⟨hno, hnb', _, _, x3, ?_⟩, hfp⟩
    refine ents_ext x1 (by rw [Array.toList_push]; exact g2) fun o' ho' j hj e => ?_
    subst e
    exact hnb' o' ho' hj
/-- Data are laid at a key. -/
theorem RG.putY {γ : β → Ty} {y : β} (hm : E.P.underlying t = some (.map kt et)) (hk : KeyOK E.P kt kv) (hx : HasTy E.N G x (tV (mapV b))) (hi : KeyAt E.N G i (kv k)) (hv : HasTy E.N G v (γ y))
    (h : ∀ os', RG E ops Q rest (mapO (mvY γ) kv b none os' (mset m k y) :: O) G) :
    RG E ops Q (⟨none, .mapUpdate t x i v, ty, pos, after, none⟩ :: rest) (mapO (mvY γ) kv b none os m :: O) G := .of rfl fun a w S st => by
  have h1 : a.eval x = mapV b := hx S a st.facts
  have h2 : a.eval i = kv k := hi S a st.facts
  have h3 : (γ y).p S (a.eval v) := hv S a st.facts
  obtain ⟨⟨hp, hfp⟩, hap, hO⟩ := st.own
  obtain ⟨hno, hnb, es, clock, e3, e4⟩ := hp
  obtain ⟨q, hq, hdk, hinj⟩ := hk
  obtain ⟨os1, p1, p2, _⟩ := ents_punch hdk hinj (k := k) 0 e4
  have hnb1 : ∀ o ∈ os1, o.1 ≠ some b := fun o ho => by
    rcases p1 o ho with h | h
    · exact hnb o h
    · rw [h]; exact fun e => by cases e
  obtain ⟨w', os', r, x1, x2, x3, x4⟩ := map_write (V := mvY γ) (E := E) (y := y) (o := (none, 0)) (val := a.eval v) st.sat hm ⟨q, hq, hdk, hinj⟩ ⟨hno, hnb1, es, clock, e3, p2⟩ ⟨rfl, h3⟩ (fun e => by cases e) (fun _ _ _ e => by cases e)
  have hrun : (execOp a.eval ⟨none, .mapUpdate t x i v, ty, pos, after, none⟩).run E.P w = .ok .skip w' := by simp [execOp, h1, h2, r]
  refine ⟨fun c h => (by cases h), ?_⟩
  rw [hrun]
  have hfp' : ∀ j, (mapO (mvY γ) kv b none os' (mset m k y)).fp j → (mapO (mvY γ) kv b none os m).fp j := fun j hj => by
    rcases x4 j hj with (h | ⟨o, ho, e⟩) | e
    · exact .inl h
    · rcases p1 o ho with h | h
      · exact .inr ⟨o, h, e⟩
      · rw [h] at e; cases e
    · cases e
  exact h os' _ _ S ⟨st.ext.step x1 (fun c hc => hfp c (.inl hc)), x2, ⟨⟨x3, fun j hj => hfp j (hfp' j hj)⟩, fun f hf j hj => hap f hf j (hfp' j hj), hO.ext x1 fun f hf j hj hjb => hap f hf j (.inl hjb) hj⟩, st.facts⟩
/-- A list that was taken out is laid back. -/
theorem RG.putT {α : Type} {r : Rp α} {T : TypeId} {l : Option Nat} {c : Nat} {xs : List α} {m : List (κ × List α)} (hm : E.P.underlying t = some (.map kt et)) (hk : KeyOK E.P kt kv) (hx : HasTy E.N G x (tV (mapV b))) (hi : KeyAt E.N G i (kv k)) (hv : HasTy E.N G v (tO r l c xs))
    (h : ∀ os', RG E ops Q rest (mapO (mvT r T) kv b none os' (mset m k xs) :: O) G) :
    RG E ops Q (⟨none, .mapUpdate t x i v, ty, pos, after, none⟩ :: rest) (tip r T l c xs :: mapO (mvT r T) kv b (some k) os m :: O) G := .of rfl fun a w S st => by
  have h1 : a.eval x = mapV b := hx S a st.facts
  have h2 : a.eval i = kv k := hi S a st.facts
  have h3 : a.eval v = oslV l c xs.length := tO_v hv S a st.facts
  obtain ⟨⟨ht, htf⟩, hta, ⟨hp, hfp⟩, hap, hO⟩ := st.own
  have hmm := hta _ (List.mem_cons_self ..)
  obtain ⟨w', os', r', x1, x2, x3, x4⟩ := map_write (V := mvT r T) (E := E) (y := xs) (o := (l, c)) (val := a.eval v) st.sat hm hk hp ⟨h3, ht⟩ (fun e => hmm b e (.inl rfl)) (fun o' ho' j hj e => hmm j hj (.inr ⟨o', ho', e⟩))
  have hrun : (execOp a.eval ⟨none, .mapUpdate t x i v, ty, pos, after, none⟩).run E.P w = .ok .skip w' := by simp [execOp, h1, h2, r']
  refine ⟨fun c h => (by cases h), ?_⟩
  rw [hrun]
  exact h os' _ _ S ⟨st.ext.step x1 (fun c hc => hfp c (.inl hc)), x2, ⟨⟨x3, fun j hj => (x4 j hj).elim (hfp j) (htf j)⟩, fun f hf j hj => (x4 j hj).elim (hap f hf j) (fun e => hta f (List.mem_cons_of_mem _ hf) j e), hO.ext x1 fun f hf j hj hjb => hap f hf j (.inl hjb) hj⟩, st.facts⟩
end
end Go.Proofs.Ytchjhcgkfglgiaa
