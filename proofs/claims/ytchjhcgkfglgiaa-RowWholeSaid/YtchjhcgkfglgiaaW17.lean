/- A small logic over the walk's rules: ranges over functions, and functions that are ranged over. It states nothing of any program. -/
import Derived.Test.YtchjhcgkfglgiaaW16
import Derived.RangeFuncRecord
import Derived.RangeFuncLeaves
namespace Go.Proofs.Ytchjhcgkfglgiaa
open Go

/-- A range over a function, as data: yield takes an element and what there is, and tells whether to go on. -/
abbrev It (α : Type) := (σ : Type) → (α → σ → Option (Bool × σ)) → σ → Option σ

/-- Several things that are one's own, as one. -/
def starE (Se : SH) (O : List OE) : OE where
  fp := fun k => ∃ f ∈ O, f.fp k
  p := fun w S => SH.le Se S ∧ Own 0 noB w S O
  here := fun ⟨_, h⟩ _ ⟨f, hf, hk⟩ => f.here (Own.mem h f hf).1 _ hk
  kept := fun ⟨h1, h2⟩ k hC => ⟨SH.le_trans h1 k.keep, h2.ext k fun f hf b hb => hC b ⟨f, hf, hb⟩⟩
theorem Own.weak {base : Nat} {B : Nat → Prop} {w : World} {S : SH} : ∀ {O : List OE}, Own base B w S O → Own 0 noB w S O
  | [], _ => trivial
  | _ :: _, ⟨h1, h2, h3⟩ => ⟨⟨h1.1, fun _ _ => .inl (Nat.zero_le _)⟩, h2, Own.weak h3⟩
theorem Own.based {base : Nat} {B : Nat → Prop} {w : World} {S : SH} : ∀ {O : List OE}, Own 0 noB w S O → (∀ f ∈ O, ∀ k, f.fp k → base ≤ k ∨ B k) → Own base B w S O
  | [], _, _ => trivial
  | _ :: _, ⟨h1, h2, h3⟩, h => ⟨⟨h1.1, h _ (List.mem_cons_self ..)⟩, h2, Own.based h3 fun f hf => h f (List.mem_cons_of_mem _ hf)⟩
/-- A loop's record. -/
def recE (l : Nat) (r : Loop) (st : LoopState) : OE where
  fp := fun k => k = l
  p := fun w S => S l = none ∧ w.heap[l]? = some (.loop { r with state := st, pending := none })
  here := by
    intro w S h k hk
    subst hk
    exact (Array.getElem?_eq_some_iff.1 h.2).1
  kept := by
    intro C w w' S S' h k hC
    have hlt := (Array.getElem?_eq_some_iff.1 h.2).1
    exact ⟨by rw [k.old l hlt (hC l rfl)]; exact h.1, by rw [k.heap l hlt (hC l rfl)]; exact h.2⟩
/-- The block for what rounds have deferred: nothing. -/
def dfb (b : Nat) : OE where
  fp := fun k => k = b
  p := fun w S => S b = none ∧ w.heap[b]? = some (.deferred (some []))
  here := by
    intro w S h k hk
    subst hk
    exact (Array.getElem?_eq_some_iff.1 h.2).1
  kept := by
    intro C w w' S S' h k hC
    have hlt := (Array.getElem?_eq_some_iff.1 h.2).1
    exact ⟨by rw [k.old b hlt (hC b rfl)]; exact h.1, by rw [k.heap b hlt (hC b rfl)]; exact h.2⟩
def markD (b : Nat) : Deferred := { target := .collected b, args := #[] }

/-- What a call of yield comes to: one more round of the loop's body, from what there is (e) to what there is then. -/
def Yld (P : Program) {α σ : Type} (args : α → List Ty) (y : α → σ → Option (Bool × σ)) (I : σ → OE → Prop) (yv : Value) : Prop :=
  ∃ l, yv = .func (.yield l) #[] #[] ∧ ∀ x s r, y x s = some r → ∀ e, I s e → ∀ w S vs, Sat w S → e.p w S → Tys S (args x) vs →
    ∃ f tmps assign body, (Instr.yield l vs.toArray).run P w = .ok (.round l f tmps assign body) w ∧
      RoundIn (fw none) 0 P l f tmps assign body w fun en w' => ∃ e' S', en = .returned (.bool r.1) ∧ I r.2 e' ∧ Ext e.fp w S w' S' ∧ Sat w' S' ∧ e'.p w' S' ∧ ∀ k, e'.fp k → e.fp k ∨ w.heap.size ≤ k
/-- What a call of a function that is ranged over comes to. -/
def ItCall (P : Program) {α : Type} (args : α → List Ty) (it : It α) (fid : FuncId) (cap : Array Value) (fp : Nat → Prop) (w : World) (S : SH) : Prop :=
  ∀ (σ : Type) (y : α → σ → Option (Bool × σ)) (s s' : σ), it σ y s = some s' → ∀ I yv, Yld P args y I yv → ∀ e, I s e → e.p w S → (∀ k, e.fp k → ¬ fp k) →
    Calls P fid (#[yv] ++ cap) w fun en w' => ∃ e' S', (∃ v, en = .returned v) ∧ I s' e' ∧ Ext (fun k => e.fp k ∨ fp k) w S w' S' ∧ Sat w' S' ∧ e'.p w' S' ∧ ∀ k, e'.fp k → e.fp k ∨ w.heap.size ≤ k
/-- A function value that is ranged over, and the memory that is its own. -/
def itr (P : Program) {α : Type} (args : α → List Ty) (it : It α) (v : Value) (fp : Nat → Prop) : OE where
  fp := fp
  p := fun w S => (∀ k, fp k → k < w.heap.size) ∧ ∃ fid cap, v = .func (.func fid) #[] cap ∧ callableB P fid = true ∧
    ∀ C w' S', Ext C w S w' S' → (∀ k, fp k → ¬ C k) → Sat w' S' → ItCall P args it fid cap fp w' S'
  here := fun h k hk => h.1 k hk
  kept := by
    rintro C w w' S S' ⟨h1, fid, cap, h2, h3, h4⟩ k hC
    refine ⟨fun b hb => Nat.lt_of_lt_of_le (h1 b hb) k.size, fid, cap, h2, h3, fun C' w'' S'' k' hC' hs => ?_⟩
    exact h4 (fun b => C b ∨ C' b) w'' S'' ((k.more fun b hb => .inl hb).trans (k'.more fun b hb => .inr hb)) (fun b hb h => h.elim (hC b hb) (hC' b hb)) hs

/-! ### The function that is ranged over -/
/-- A closure over variables of its own (O) and other values (cts): what it yields. -/
def ItSpec (P : Program) (fid : FuncId) {α : Type} (args : α → List Ty) (it : It α) (O : List OE) (cts : List Ty) : Prop :=
  ∀ w S cap, Sat w S → Own 0 noB w S O → Tys S cts cap → ItCall P args it fid cap.toArray (fun k => ∃ f ∈ O, f.fp k) w S
def endI (E : En) {σ : Type} (I : σ → OE → Prop) (s : σ) (e0 : OE) : Ending → World → Prop := fun en w' => ∃ e' S', (∃ v, en = .returned v) ∧ I s e' ∧ Ext E.B E.w0 E.S0 w' S' ∧ Sat w' S' ∧ e'.p w' S' ∧ ∀ k, e'.fp k → e0.fp k ∨ E.w0.heap.size ≤ k
theorem ItSpec.of {P : Program} {f : FuncId} {fn : Func} {c : Code} {N : Nat} {α : Type} {args : α → List Ty} {it : It α} {O : List OE} {cts : List Ty} (hf : P.funcs[f]? = some fn) (hb : fn.body = some c) (hN : fn.ntmps = N) (hn : Nat.ble (cts.length + 1) N = true)
    (h : ∀ (σ : Type) (y : α → σ → Option (Bool × σ)) (s s' : σ), it σ y s = some s' → ∀ I yv, Yld P args y I yv → ∀ e, I s e → ∀ w0 S0 B, (∀ k, B k → e.fp k ∨ ∃ f ∈ O, f.fp k) →
      CG ⟨P, ⟨N, []⟩, B, w0, S0, none⟩ (bodyPost P fn (endI ⟨P, ⟨N, []⟩, B, w0, S0, none⟩ I s' e)) c (e :: O) (initG 0 (tV yv :: cts))) : ItSpec P f args it O cts := by
  subst hN
  intro w S cap hs ho hc σ y s s' hit I yv hy e he hep hap
  have hown : Own w.heap.size (fun k => e.fp k ∨ ∃ f ∈ O, f.fp k) w S (e :: O) :=
    ⟨⟨hep, fun k hk => .inr (.inl hk)⟩, fun f hf b hb hfb => hap b hb ⟨f, hf, hfb⟩, Own.based ho fun f hf k hk => .inr (.inr ⟨f, hf, hk⟩)⟩
  have hfacts := facts_init (S := S) (ts := tV yv :: cts) (vs := yv :: cap) ⟨rfl, hc⟩ fn.ntmps (by simpa using Nat.le_of_ble_eq_true hn)
  have := callsIn_fw.1 (callsIn_of_wp (F := fw none) (n := 0) hf hb trivial (h σ y s s' hit I yv hy e he w S (fun k => e.fp k ∨ ∃ f ∈ O, f.fp k) (fun _ h => h) _ w S ⟨Ext.refl _ _ _, hs, hown, hfacts⟩))
  rw [show (#[yv] ++ cap.toArray : Array Value) = (yv :: cap).toArray from by simp]
  exact this.mono fun en w' ⟨e', S', h1, h2, h3, h4, h5, h6⟩ => ⟨e', S', h1, h2, h3, h4, h5, h6⟩
section
variable {E : En} {O : List OE} {G : Ctx} {Q : Exit → Act → World → Prop} {ops : Array Oper} {rest : List Oper} {d : Nat} {ty : TypeId} {pos : String} {after : Array Edge}
/-- What is there grows: from e to e'. -/
theorem own_turn {base : Nat} {B : Nat → Prop} {w w' : World} {S S' : SH} {e e' : OE} {O : List OE} (h : Own base B w S (e :: O)) (k : Ext e.fp w S w' S') (hp : e'.p w' S') (hn : ∀ b, e'.fp b → e.fp b ∨ w.heap.size ≤ b) (hb : base ≤ w.heap.size) : Own base B w' S' (e' :: O) :=
  ⟨⟨hp, fun b hb' => (hn b hb').elim (fun h2 => h.1.2 b h2) (fun h2 => .inl (by omega))⟩, fun f hf b hb' hfb => (hn b hb').elim (fun h2 => h.2.1 f hf b h2 hfb) (fun h2 => by
    have := f.here (Own.mem h.2.2 f hf).1 b hfb
    omega), h.2.2.ext k fun f hf b hb' h2 => h.2.1 f hf b h2 hb'⟩
theorem RG.yield {α σ : Type} {args : α → List Ty} {y : α → σ → Option (Bool × σ)} {I : σ → OE → Prop} {yv : Value} {x : α} {s : σ} {r : Bool × σ} {e : OE} {fo : Operand} {xs : List Operand} {ats : Array TypeId} (hy : Yld E.P args y I yv) (he : I s e) (hq : y x s = some r) (hf : HasTy E.N G fo (tV yv)) (hx : HasTys E.N G xs (args x)) (hd : Nat.blt d E.N.n = true)
    (k : ∀ e', I r.2 e' → RG E ops Q rest (e' :: O) ((d, tD rB r.1) :: G)) : RG E ops Q (⟨some d, .call ⟨.value fo, xs.toArray, ats⟩, ty, pos, after, none⟩ :: rest) (e :: O) G := .of rfl fun a w S st => by
  obtain ⟨l, rfl, hyl⟩ := hy
  have h1 : a.eval fo = .func (.yield l) #[] #[] := hf S a st.facts
  obtain ⟨f, tmps, assign, body, h2, h3⟩ := hyl x s r hq e he w S _ st.sat st.own.1.1 (hx.tys st.facts)
  have hr : (execOp a.eval ⟨some d, .call ⟨.value fo, xs.toArray, ats⟩, ty, pos, after, none⟩).run E.P w = .ok (.round l f tmps assign body) w := by
    simp [execOp, resolve, h1, Deferred.ofValue, invoke]
    simpa using h2
  refine ⟨fun c h => (by cases h), ?_⟩
  rw [hr]
  refine h3.mono fun en w' ⟨e', S', h4, h5, h6, h7, h8, h9⟩ => ⟨_, h4, ?_⟩
  exact k e' h5 _ _ S' ⟨st.ext.step h6 (fun b hb => st.own.1.2 b hb), h7, own_turn st.own h6 h8 h9 st.base_le, (st.facts.mono h6.keep).put hd (tB_iff.2 rfl)⟩
end
/-- The same blocks, whatever they hold. -/
def fpsub : List OE → List OE → Prop
  | [], _ => True
  | f :: O, g :: O' => (∀ k, f.fp k → g.fp k) ∧ fpsub O O'
  | _ :: _, [] => False
theorem fpsub.mem : ∀ {O O' : List OE}, fpsub O O' → ∀ k, (∃ f ∈ O, f.fp k) → ∃ f ∈ O', f.fp k
  | f :: O, g :: O', ⟨h1, h2⟩, k, ⟨q, hq, hk⟩ => by
    rcases List.mem_cons.1 hq with e | e
    · subst e; exact ⟨g, List.mem_cons_self .., h1 k hk⟩
    · obtain ⟨q', h3, h4⟩ := fpsub.mem h2 k ⟨q, e, hk⟩
      exact ⟨q', List.mem_cons_of_mem _ h3, h4⟩
theorem AT.retI {P : Program} {N : Nat} {B : Nat → Prop} {w0 : World} {S0 : SH} {fn : Func} {σ : Type} {I : σ → OE → Prop} {s : σ} {e0 e : OE} {O0 O : List OE} {G : Ctx} (hr : fn.results = #[]) (he : I s e) (hB : ∀ k, B k → e0.fp k ∨ ∃ f ∈ O0, f.fp k) (hO : fpsub O0 O) :
    AT ⟨P, ⟨N, []⟩, B, w0, S0, none⟩ (bodyPost P fn (endI ⟨P, ⟨N, []⟩, B, w0, S0, none⟩ I s e0)) .ret (e :: O) G := fun _ _ S st =>
  ⟨st.facts.defers, _, run_results_none P fn hr _ _, e, S, ⟨_, rfl⟩, he, st.ext, st.sat, st.own.1.1, fun k hk => (st.own.1.2 k hk).elim .inr fun hb => (hB k hb).elim .inl fun hx => let ⟨f, hf, hfk⟩ := hO.mem k hx; absurd hfk (st.own.2.1 f hf k hk)⟩
theorem AT.normI {P : Program} {N : Nat} {B : Nat → Prop} {w0 : World} {S0 : SH} {fn : Func} {σ : Type} {I : σ → OE → Prop} {s : σ} {e0 e : OE} {O0 O : List OE} {G : Ctx} (hr : fn.results = #[]) (he : I s e) (hB : ∀ k, B k → e0.fp k ∨ ∃ f ∈ O0, f.fp k) (hO : fpsub O0 O) :
    AT ⟨P, ⟨N, []⟩, B, w0, S0, none⟩ (bodyPost P fn (endI ⟨P, ⟨N, []⟩, B, w0, S0, none⟩ I s e0)) .normal (e :: O) G := fun a w S st => AT.retI hr he hB hO a w S st
end Go.Proofs.Ytchjhcgkfglgiaa
