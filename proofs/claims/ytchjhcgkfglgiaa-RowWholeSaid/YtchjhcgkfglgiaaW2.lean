/- A small logic over the walk's rules: operations, regions, code, functions. It states nothing of any program. -/
import Derived.Test.YtchjhcgkfglgiaaW1
import Derived.RangeFuncIn
import Derived.TacticsIn
import Derived.OrdersIn
import Derived.LoopIn
namespace Go.Proofs.Ytchjhcgkfglgiaa
open Go

/-- The fence that lets every frame in, at a function's own frame or at a round's. -/
def fw (r : Option Nat) : Fence := { fn := fun _ => True, depth := none, alive := false, round := r }
theorem callsIn_fw {r : Option Nat} {n : Nat} {P : Program} {f : FuncId} {args : Array Value} {w : World} {R : Ending → World → Prop} : CallsIn (fw r) n P f args w R ↔ Calls P f args w R := callsIn_wide
theorem fw_depth {r : Option Nat} {n : Nat} : (fw r).depth.isSome = true → 1 ≤ n := fun h => by cases h
structure En where
  P : Program
  N : Fr
  B : Nat → Prop
  w0 : World
  S0 : SH
  r : Option Nat
def En.base (E : En) : Nat := E.w0.heap.size

/-- What an operation comes to, but for its being carried out in a round. -/
def opQ (P : Program) (o : Oper) (a : Act) (K : Act → World → Prop) : Result Next → Prop
  | .ok (.value v) w' => K (a.put o.dst v) w'
  | .ok .skip w' => K (a.put o.dst undef) w'
  | .ok (.enter f args) w' => Calls P f args w' fun e w'' => ∃ v, e = .returned v ∧ K (a.put o.dst v) w''
  | .ok (.round l f tmps assign body) w' => RoundIn (fw none) 0 P l f tmps assign body w' fun e w'' => ∃ v, e = .returned v ∧ K (a.put o.dst v) w''
  | _ => False
def opWp (P : Program) (o : Oper) (a : Act) (w : World) (K : Act → World → Prop) : Prop := (∀ c, o.op ≠ .defer c) ∧ opQ P o a K ((execOp a.eval o).run P w)
theorem roundIn_fw {r : Option Nat} {n : Nat} {P : Program} {l : Nat} {f : FuncId} {tmps : Array Value} {assign body : Code} {w : World} {R : Ending → World → Prop} (h : RoundIn (fw none) 0 P l f tmps assign body w R) : RoundIn (fw r) n P l f tmps assign body w R :=
  ⟨trivial, fun c cs _ => h.2 c cs (fun _ hd => by cases hd)⟩
theorem opQ_mono {P : Program} {o : Oper} {a : Act} {K K' : Act → World → Prop} (hK : ∀ a w, K a w → K' a w) {r : Result Next} (h : opQ P o a K r) : opQ P o a K' r := by
  cases r with
  | ok n w =>
    cases n <;> simp only [opQ] at h ⊢
    case value => exact hK _ _ h
    case skip => exact hK _ _ h
    case enter f args => exact h.mono fun e w' ⟨v, he, hk⟩ => ⟨v, he, hK _ _ hk⟩
    case round l f tmps assign body => exact h.mono fun e w' ⟨v, he, hk⟩ => ⟨v, he, hK _ _ hk⟩
  | halt x w => simp only [opQ] at h
theorem opWp_mono {P : Program} {o : Oper} {a : Act} {w : World} {K K' : Act → World → Prop} (hK : ∀ a w, K a w → K' a w) (h : opWp P o a w K) : opWp P o a w K' := ⟨h.1, opQ_mono hK h.2⟩
theorem wpIn_of_opWp {P : Program} {o : Oper} {a : Act} {w : World} {K K' : Act → World → Prop} {Q : Exit → Act → World → Prop} {r : Option Nat} (hK : ∀ a w, K a w → K' a w) (h : opWp P o a w K) : o.wpIn (fw r) 0 P a w K' Q := by
  obtain ⟨hd, h⟩ := h
  refine ⟨fun _ _ => trivial, ?_⟩
  rw [Oper.semAt_eq _ _ _ hd]
  generalize (execOp a.eval o).run P w = res at h
  cases res with
  | ok n w =>
    cases n <;> simp only [opQ] at h <;> simp only [Oper.uponIn]
    case value => exact hK _ _ h
    case skip => exact hK _ _ h
    case enter f args => exact ⟨fw_depth, callsIn_fw.2 (h.mono fun e w' ⟨v, he, hk⟩ => by subst he; exact hK _ _ hk)⟩
    case round l f tmps assign body => exact ⟨fw_depth, (roundIn_fw h).mono fun e w' ⟨v, he, hk⟩ => by subst he; exact hK _ _ hk⟩
  | halt x w => simp only [opQ] at h

/-- One operation that leaves all that was there as it was: what it yields. -/
def OpOK (E : En) (O : List OE) (G : Ctx) (o : Oper) (t : Ty) : Prop :=
  ∀ a w S, Sat w S → Own E.base E.B w S O → Facts E.N S a G →
    opWp E.P o a w (fun a' w' => ∃ v S', a' = a.put o.dst v ∧ Ext noB w S w' S' ∧ Sat w' S' ∧ t.p S' v)
structure St (E : En) (O : List OE) (G : Ctx) (a : Act) (w : World) (S : SH) : Prop where
  ext : Ext E.B E.w0 E.S0 w S
  sat : Sat w S
  own : Own E.base E.B w S O
  facts : Facts E.N S a G
def RG (E : En) (ops : Array Oper) (Q : Exit → Act → World → Prop) (l : List Oper) (O : List OE) (G : Ctx) : Prop := ∀ a w S, St E O G a w S → wpListIn (fw E.r) 0 E.P ops Q l a w
def CG (E : En) (Q : Exit → Act → World → Prop) (c : Code) (O : List OE) (G : Ctx) : Prop := ∀ a w S, St E O G a w S → c.wpIn (fw E.r) 0 E.P Q a w
def AT (E : En) (Q : Exit → Act → World → Prop) (e : Exit) (O : List OE) (G : Ctx) : Prop := ∀ a w S, St E O G a w S → Q e a w

section
variable {E : En} {O : List OE} {G G' : Ctx} {Q : Exit → Act → World → Prop} {ops : Array Oper} {l : List Oper}

theorem St.step {a : Act} {w w' : World} {S S' : SH} {d : Nat} {v : Value} {t : Ty} (h : St E O G a w S) (k : Ext noB w S w' S') (hs : Sat w' S') (hd : Nat.blt d E.N.n = true) (hv : t.p S' v) :
    St E O ((d, t) :: G) (a.put (some d) v) w' S' :=
  ⟨h.ext.step0 k, hs, h.own.ext0 k, (h.facts.mono k.keep).put hd hv⟩
theorem St.step0 {a : Act} {w w' : World} {S S' : SH} (h : St E O G a w S) (k : Ext noB w S w' S') (hs : Sat w' S') : St E O G a w' S' :=
  ⟨h.ext.step0 k, hs, h.own.ext0 k, h.facts.mono k.keep⟩
theorem St.sub {a : Act} {w : World} {S : SH} (h : St E O G a w S) (k : subl G' G) : St E O G' a w S := ⟨h.ext, h.sat, h.own, h.facts.sub (subl_look k)⟩
/-- The next operation, by what it comes to. -/
theorem RG.of {o : Oper} (hg : o.guard = none) (h : ∀ a w S, St E O G a w S → opWp E.P o a w (fun a' w' => wpListIn (fw E.r) 0 E.P ops Q l a' w')) : RG E ops Q (o :: l) O G := fun a w S st =>
  wpListIn_plain hg fun _ hK => wpIn_of_opWp hK (h a w S st)

theorem RG.op {d : Nat} {op : Op} {ty : TypeId} {pos : String} {after : Array Edge} {t : Ty} (h : OpOK E O G ⟨some d, op, ty, pos, after, none⟩ t) (hd : Nat.blt d E.N.n = true) (k : RG E ops Q l O ((d, t) :: G)) :
    RG E ops Q (⟨some d, op, ty, pos, after, none⟩ :: l) O G := .of rfl fun a w S st =>
  opWp_mono (fun a' w' ⟨_, _, ha, he, hs, hv⟩ => by subst ha; exact k _ _ _ (st.step he hs hd hv)) (h a w S st.sat st.own st.facts)
theorem RG.op0 {op : Op} {ty : TypeId} {pos : String} {after : Array Edge} {t : Ty} (h : OpOK E O G ⟨none, op, ty, pos, after, none⟩ t) (k : RG E ops Q l O G) :
    RG E ops Q (⟨none, op, ty, pos, after, none⟩ :: l) O G := .of rfl fun a w S st =>
  opWp_mono (fun a' w' ⟨_, _, ha, he, hs, _⟩ => by subst ha; exact k _ _ _ (st.step0 he hs)) (h a w S st.sat st.own st.facts)
theorem RG.nil (h : AT E Q .normal O G) : RG E ops Q [] O G := fun a w S st => h a w S st
theorem RG.sub (h : RG E ops Q l O G') (k : subl G' G) : RG E ops Q l O G := fun a w S st => h a w S (st.sub k)

theorem CG.region {id : Nat} {l : List Oper} (h : RG E l.toArray Q l O G) : CG E Q (.region id l.toArray false) O G := fun a w S st => wpIn_region_lit (h a w S st)
theorem CG.seq {x y : Code} (h : CG E (Exit.then (y.wpIn (fw E.r) 0 E.P Q) Q) x O G) : CG E Q (.seq x y) O G := fun a w S st => wpIn_seq (h a w S st)
theorem AT.next {y : Code} (h : CG E Q y O G) : AT E (Exit.then (y.wpIn (fw E.r) 0 E.P Q) Q) .normal O G := h
theorem CG.skip (h : AT E Q .normal O G) : CG E Q .skip O G := fun a w S st => wpIn_skip (h a w S st)
theorem CG.exit {id : Nat} (h : AT E Q (.exit id) O G) : CG E Q (.exit id) O G := fun a w S st => wpIn_exit (h a w S st)
theorem CG.ret (h : AT E Q .ret O G) : CG E Q .ret O G := fun a w S st => wpIn_ret (h a w S st)
theorem CG.sub {c : Code} (h : CG E Q c O G') (k : subl G' G) : CG E Q c O G := fun a w S st => h a w S (st.sub k)
theorem AT.sub {e : Exit} (h : AT E Q e O G') (k : subl G' G) : AT E Q e O G := fun a w S st => h a w S (st.sub k)
theorem CG.cond {c : Operand} {x y : Code} {b : Bool} (hb : HasTy E.N G c (tD rB b)) (hx : b = true → CG E Q x O G) (hy : b = false → CG E Q y O G) : CG E Q (.cond c x y) O G := fun a w S st => by
  have hv : a.eval c = .bool b := tB_iff.1 (hb S a st.facts)
  refine wpIn_cond hv ?_
  cases b with
  | true => exact hx rfl a w S st
  | false => exact hy rfl a w S st
theorem CG.block {id : Nat} {c : Code} (h : CG E (Exit.inBlock id Q) c O G) : CG E Q (.block id c) O G := fun a w S st => wpIn_block (h a w S st)
/-- A loop, at its round's head. -/
def loopIn (r : Option Nat) (P : Program) (c : Code) (Q : Exit → Act → World → Prop) (a : Act) (w : World) : Prop :=
  ∀ (b : Frame) (k : List Item) (cs : List Frame), b.roundOf = r → ∃ e a' w', Q e a' w' ∧ ArrivesIn (Machine.fenced P (fw r)) P (lone (b.atR a (.code c :: .inLoop c :: k)) cs w) b k cs e a' w'
theorem fw_room {r : Option Nat} {n : Nat} : (fw r).room n := fun _ hd => by cases hd
theorem wp_of_loopIn {r : Option Nat} {P : Program} {c : Code} {a : Act} {w : World} {Q : Exit → Act → World → Prop} (h : loopIn r P c Q a w) : (Code.loop c).wpIn (fw r) 0 P Q a w := fun b k cs hro hb hr =>
  let ⟨e, a', w', hq, harr⟩ := h b k cs hro
  ⟨e, a', w', hq, .of_steps (.one (fenced_calm hb hr rfl) stepR_loop) harr⟩
theorem loopIn_unfold {r : Option Nat} {P : Program} {c : Code} {a : Act} {w : World} {Q : Exit → Act → World → Prop} (h : c.wpIn (fw r) 0 P (Exit.then (loopIn r P c Q) Q) a w) : loopIn r P c Q a w := by
  intro b k cs hro
  obtain ⟨e, a₁, w₁, hq, harr⟩ := h b (.inLoop c :: k) cs hro trivial fw_room
  cases e with
  | normal =>
    obtain ⟨e₂, a₂, w₂, hq₂, harr₂⟩ := hq b k cs hro
    exact ⟨e₂, a₂, w₂, hq₂, .of_steps (StepsIn.trans harr (.one (fenced_calm (n := 0) (F := fw r) trivial fw_room rfl) stepR_inLoop)) harr₂⟩
  | exit id => exact ⟨_, a₁, w₁, hq, .pass (x := .inLoop c) rfl (fun _ _ => .inl (by simp)) harr⟩
  | goto l => exact ⟨_, a₁, w₁, hq, .pass (x := .inLoop c) rfl (fun _ _ => .inl (by simp)) harr⟩
  | ret => exact ⟨_, a₁, w₁, hq, .pass (x := .inLoop c) rfl (fun _ _ => .inl (by simp)) harr⟩
  | panic ch => exact ⟨_, a₁, w₁, hq, .pass (x := .inLoop c) rfl (fun _ _ => .inl (by simp)) harr⟩
  | outgrown => exact ⟨_, a₁, w₁, hq, .pass (x := .inLoop c) rfl (fun _ _ => .inl (by simp)) harr⟩
def LG (E : En) (Q : Exit → Act → World → Prop) (c : Code) (O : List OE) (G : Ctx) : Prop := ∀ a w S, St E O G a w S → loopIn E.r E.P c Q a w
theorem CG.loop {c : Code} (h : LG E Q c O G) : CG E Q (.loop c) O G := fun a w S st => wp_of_loopIn (h a w S st)
theorem LG.unfold {c : Code} (h : CG E (Exit.then (loopIn E.r E.P c Q) Q) c O G) : LG E Q c O G := fun a w S st => loopIn_unfold (h a w S st)
theorem LG.sub {c : Code} (h : LG E Q c O G') (k : subl G' G) : LG E Q c O G := fun a w S st => h a w S (st.sub k)
theorem AT.round {c : Code} (h : LG E Q c O G) : AT E (Exit.then (loopIn E.r E.P c Q) Q) .normal O G := h
theorem AT.then_exit {K : Act → World → Prop} {id : Nat} (h : AT E Q (.exit id) O G) : AT E (Exit.then K Q) (.exit id) O G := h
theorem AT.then_ret {K : Act → World → Prop} (h : AT E Q .ret O G) : AT E (Exit.then K Q) .ret O G := h
theorem AT.in_ret {id : Nat} (h : AT E Q .ret O G) : AT E (Exit.inBlock id Q) .ret O G := h
theorem AT.in_normal {id : Nat} (h : AT E Q .normal O G) : AT E (Exit.inBlock id Q) .normal O G := h
theorem AT.in_exit {id : Nat} (h : AT E Q .normal O G) : AT E (Exit.inBlock id Q) (.exit id) O G := fun a w S st => by
  simp only [Exit.inBlock, if_true]; exact h a w S st
theorem AT.in_exit_ne {id id' : Nat} (hne : Nat.beq id' id = false) (h : AT E Q (.exit id') O G) : AT E (Exit.inBlock id Q) (.exit id') O G := fun a w S st => by
  have : id' ≠ id := fun e => by subst e; simp at hne
  simp only [Exit.inBlock, this, if_false]; exact h a w S st

/-! ### Functions -/
def Tys (S : SH) : List Ty → List Value → Prop
  | [], [] => True
  | t :: ts, v :: vs => t.p S v ∧ Tys S ts vs
  | _, _ => False
theorem Tys.mono {S S' : SH} (h : SH.le S S') : ∀ {ts : List Ty} {vs : List Value}, Tys S ts vs → Tys S' ts vs
  | [], [], _ => trivial
  | t :: _, _ :: _, ⟨h1, h2⟩ => ⟨t.mono h h1, Tys.mono h h2⟩
theorem Tys.length {S : SH} : ∀ {ts : List Ty} {vs : List Value}, Tys S ts vs → vs.length = ts.length
  | [], [], _ => rfl
  | _ :: _, _ :: _, ⟨_, h2⟩ => by simp [Tys.length h2]
/-- A call that only makes memory of its own: what it hands back. -/
def Spec (P : Program) (f : FuncId) (ts : List Ty) (t : Ty) : Prop :=
  ∀ w S vs, Sat w S → Tys S ts vs → Calls P f vs.toArray w fun e w' => ∃ v S', e = .returned v ∧ Ext noB w S w' S' ∧ Sat w' S' ∧ t.p S' v
/-- The end of a function: its result. -/
def endQ (E : En) (t : Ty) : Ending → World → Prop := fun e w' => ∃ v S', e = .returned v ∧ Ext E.B E.w0 E.S0 w' S' ∧ Sat w' S' ∧ t.p S' v
def initG (k : Nat) : List Ty → Ctx
  | [] => []
  | t :: ts => (k, t) :: initG (k + 1) ts
theorem look_initG : ∀ (ts : List Ty) (k j : Nat) (t : Ty), look (initG k ts) j = some t → ∃ i, j = k + i ∧ ts[i]? = some t
  | [], _, _, _, h => by simp [initG, look] at h
  | u :: ts, k, j, t, h => by
    unfold initG look at h
    by_cases hb : Nat.beq k j = true
    · rw [hb] at h
      exact ⟨0, by rw [Nat.eq_of_beq_eq_true hb]; rfl, by simpa using h⟩
    · rw [Bool.not_eq_true] at hb
      rw [hb] at h
      obtain ⟨i, h1, h2⟩ := look_initG ts (k + 1) j t h
      exact ⟨i + 1, by omega, by simpa using h2⟩
theorem Tys.at_ {S : SH} : ∀ {ts : List Ty} {vs : List Value} (_ : Tys S ts vs) (i : Nat) (t : Ty), ts[i]? = some t → ∃ v, vs[i]? = some v ∧ t.p S v
  | _ :: _, v :: _, ⟨h1, _⟩, 0, t, h => ⟨v, rfl, by simp at h; rw [← h]; exact h1⟩
  | _ :: ts, _ :: vs, ⟨_, h2⟩, i + 1, t, h => by simpa using Tys.at_ h2 i t (by simpa using h)
theorem facts_init {S : SH} {ts : List Ty} {vs : List Value} (h : Tys S ts vs) (n : Nat) (hn : ts.length ≤ n) :
    Facts ⟨n, []⟩ S { tmps := vs.toArray ++ Array.replicate (n - vs.toArray.size) undef, defers := [] } (initG 0 ts) := by
  have hl := h.length
  refine ⟨by simp; omega, rfl, fun j t hj => ?_⟩
  obtain ⟨i, e, hi⟩ := look_initG ts 0 j t hj
  have e' : j = i := by omega
  subst e'
  obtain ⟨v, hv, ht⟩ := h.at_ j t hi
  have hlt : j < vs.length := (List.getElem?_eq_some_iff.1 hv).1
  have : (vs.toArray ++ Array.replicate (n - vs.toArray.size) undef).getD j undef = v := by
    rw [Array.getD_eq_getD_getElem?, Array.getElem?_append_left (by simpa using hlt)]
    simp [hv]
  rw [this]; exact ht
theorem Spec.of_code {P : Program} {f : FuncId} {fn : Func} {c : Code} {ts : List Ty} {t : Ty} (hf : P.funcs[f]? = some fn) (hb : fn.body = some c) (hn : ts.length ≤ fn.ntmps)
    (h : ∀ w0 S0, CG ⟨P, ⟨fn.ntmps, []⟩, noB, w0, S0, none⟩ (bodyPost P fn (endQ ⟨P, ⟨fn.ntmps, []⟩, noB, w0, S0, none⟩ t)) c [] (initG 0 ts)) : Spec P f ts t := by
  intro w S vs hs hv
  exact callsIn_fw.1 (callsIn_of_wp (F := fw none) (n := 0) hf hb trivial (h w S _ w S ⟨Ext.refl _ _ _, hs, trivial, facts_init hv _ hn⟩))
theorem run_results_one (P : Program) (fn : Func) (k : Nat) (h : fn.results = #[.tmp k]) (tmps : Array Value) (w : World) : (results fn tmps).run P w = .ok (tmps.getD k undef) w := by
  simp [results, h]
theorem AT.ret1 {P : Program} {N : Nat} {B : Nat → Prop} {w0 : World} {S0 : SH} {fn : Func} {k : Nat} {t : Ty} (hr : fn.results = #[.tmp k]) (hk : look G k = some t) :
    AT ⟨P, ⟨N, []⟩, B, w0, S0, none⟩ (bodyPost P fn (endQ ⟨P, ⟨N, []⟩, B, w0, S0, none⟩ t)) .ret O G := fun _ _ S st =>
  ⟨st.facts.defers, _, run_results_one P fn k hr _ _, _, S, rfl, st.ext, st.sat, st.facts.at_ k t hk⟩
theorem AT.norm1 {P : Program} {N : Nat} {B : Nat → Prop} {w0 : World} {S0 : SH} {fn : Func} {k : Nat} {t : Ty} (hr : fn.results = #[.tmp k]) (hk : look G k = some t) :
    AT ⟨P, ⟨N, []⟩, B, w0, S0, none⟩ (bodyPost P fn (endQ ⟨P, ⟨N, []⟩, B, w0, S0, none⟩ t)) .normal O G := fun _ _ S st =>
  ⟨st.facts.defers, _, run_results_one P fn k hr _ _, _, S, rfl, st.ext, st.sat, st.facts.at_ k t hk⟩
/-- Several results. -/
def tT (ts : List Ty) : Ty where
  p := fun S v => ∃ vs, v = .tuple vs.toArray ∧ Tys S ts vs
  mono := fun h k => by obtain ⟨vs, e, k⟩ := k; exact ⟨vs, e, Tys.mono h k⟩
theorem run_results_two (P : Program) (fn : Func) (j k : Nat) (h : fn.results = #[.tmp j, .tmp k]) (tmps : Array Value) (w : World) : (results fn tmps).run P w = .ok (.tuple #[tmps.getD j undef, tmps.getD k undef]) w := by
  simp [results, h]
theorem AT.ret2 {P : Program} {N : Nat} {B : Nat → Prop} {w0 : World} {S0 : SH} {fn : Func} {j k : Nat} {t u : Ty} (hr : fn.results = #[.tmp j, .tmp k]) (hj : look G j = some t) (hk : look G k = some u) :
    AT ⟨P, ⟨N, []⟩, B, w0, S0, none⟩ (bodyPost P fn (endQ ⟨P, ⟨N, []⟩, B, w0, S0, none⟩ (tT [t, u]))) .ret O G := fun _ _ S st =>
  ⟨st.facts.defers, _, run_results_two P fn j k hr _ _, _, S, rfl, st.ext, st.sat, [_, _], rfl, st.facts.at_ j t hj, st.facts.at_ k u hk, trivial⟩
theorem run_results_three (P : Program) (fn : Func) (i j k : Nat) (h : fn.results = #[.tmp i, .tmp j, .tmp k]) (tmps : Array Value) (w : World) : (results fn tmps).run P w = .ok (.tuple #[tmps.getD i undef, tmps.getD j undef, tmps.getD k undef]) w := by
  simp [results, h]
theorem AT.ret3 {P : Program} {N : Nat} {B : Nat → Prop} {w0 : World} {S0 : SH} {fn : Func} {i j k : Nat} {s t u : Ty} (hr : fn.results = #[.tmp i, .tmp j, .tmp k]) (hi : look G i = some s) (hj : look G j = some t) (hk : look G k = some u) :
    AT ⟨P, ⟨N, []⟩, B, w0, S0, none⟩ (bodyPost P fn (endQ ⟨P, ⟨N, []⟩, B, w0, S0, none⟩ (tT [s, t, u]))) .ret O G := fun _ _ S st =>
  ⟨st.facts.defers, _, run_results_three P fn i j k hr _ _, _, S, rfl, st.ext, st.sat, [_, _, _], rfl, st.facts.at_ i s hi, st.facts.at_ j t hj, st.facts.at_ k u hk, trivial⟩
theorem run_results_none (P : Program) (fn : Func) (h : fn.results = #[]) (tmps : Array Value) (w : World) : (results fn tmps).run P w = .ok (.tuple #[]) w := by
  simp [results, h]
theorem AT.ret0 {P : Program} {N : Nat} {B : Nat → Prop} {w0 : World} {S0 : SH} {fn : Func} (hr : fn.results = #[]) :
    AT ⟨P, ⟨N, []⟩, B, w0, S0, none⟩ (bodyPost P fn (endQ ⟨P, ⟨N, []⟩, B, w0, S0, none⟩ (tT []))) .ret O G := fun _ _ S st =>
  ⟨st.facts.defers, _, run_results_none P fn hr _ _, _, S, rfl, st.ext, st.sat, [], rfl, trivial⟩
end
end Go.Proofs.Ytchjhcgkfglgiaa
