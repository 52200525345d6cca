/- A small logic over the walk's rules: variables of a call's own in memory, function values, tuples. It states nothing of any program. -/
import Derived.Test.YtchjhcgkfglgiaaW9
import Derived.IntWalk
namespace Go.Proofs.Ytchjhcgkfglgiaa
open Go

section
variable {E : En} {O : List OE} {G : Ctx} {Q : Exit → Act → World → Prop} {ops : Array Oper} {rest : List Oper}
theorem RG.opGt {d j gs : Nat} {b : Bool} {op : Op} {ty : TypeId} {pos : String} {after : Array Edge} {t : Ty} (hj : (ops[j]?).bind (·.dst) = some gs) (hgs : Nat.blt gs E.N.n = true) (hg : look G gs = some (tD rB b)) (hd : Nat.blt d E.N.n = true)
    (h : b = true → OpOK E O G ⟨some d, op, ty, pos, after, some (j, true)⟩ t) (k : RG E ops Q rest O ((d, tOpt b t) :: G)) : RG E ops Q (⟨some d, op, ty, pos, after, some (j, true)⟩ :: rest) O G := by
  have e : (true && (b == true)) = b := by cases b <;> rfl
  exact RG.opG hj hgs (guard_plain hg) hd (by rw [e]; exact h) (by rw [e]; exact k)
theorem RG.opGf {d j gs : Nat} {b : Bool} {op : Op} {ty : TypeId} {pos : String} {after : Array Edge} {t : Ty} (hj : (ops[j]?).bind (·.dst) = some gs) (hgs : Nat.blt gs E.N.n = true) (hg : look G gs = some (tD rB b)) (hd : Nat.blt d E.N.n = true)
    (h : (!b) = true → OpOK E O G ⟨some d, op, ty, pos, after, some (j, false)⟩ t) (k : RG E ops Q rest O ((d, tOpt (!b) t) :: G)) : RG E ops Q (⟨some d, op, ty, pos, after, some (j, false)⟩ :: rest) O G := by
  have e : (true && (b == false)) = !b := by cases b <;> rfl
  exact RG.opG hj hgs (guard_plain hg) hd (by rw [e]; exact h) (by rw [e]; exact k)
theorem RG.opGot {d j gs : Nat} {c b : Bool} {op : Op} {ty : TypeId} {pos : String} {after : Array Edge} {t : Ty} (hj : (ops[j]?).bind (·.dst) = some gs) (hgs : Nat.blt gs E.N.n = true) (hg : look G gs = some (tOpt c (tD rB b))) (hd : Nat.blt d E.N.n = true)
    (h : (c && b) = true → OpOK E O G ⟨some d, op, ty, pos, after, some (j, true)⟩ t) (k : RG E ops Q rest O ((d, tOpt (c && b) t) :: G)) : RG E ops Q (⟨some d, op, ty, pos, after, some (j, true)⟩ :: rest) O G := by
  have e : (c && (b == true)) = (c && b) := by cases b <;> rfl
  exact RG.opG hj hgs (guard_opt hg) hd (by rw [e]; exact h) (by rw [e]; exact k)
theorem RG.opGof {d j gs : Nat} {c b : Bool} {op : Op} {ty : TypeId} {pos : String} {after : Array Edge} {t : Ty} (hj : (ops[j]?).bind (·.dst) = some gs) (hgs : Nat.blt gs E.N.n = true) (hg : look G gs = some (tOpt c (tD rB b))) (hd : Nat.blt d E.N.n = true)
    (h : (c && !b) = true → OpOK E O G ⟨some d, op, ty, pos, after, some (j, false)⟩ t) (k : RG E ops Q rest O ((d, tOpt (c && !b) t) :: G)) : RG E ops Q (⟨some d, op, ty, pos, after, some (j, false)⟩ :: rest) O G := by
  have e : (c && (b == false)) = (c && !b) := by cases b <;> rfl
  exact RG.opG hj hgs (guard_opt hg) hd (by rw [e]; exact h) (by rw [e]; exact k)
theorem OpG.gt {l : List Oper} {need : Ctx} {o : Oper} {t : Ty} {j gs : Nat} {b : Bool} (hg : o.guard = some (j, true)) (hj : ((l.toArray)[j]?).bind (·.dst) = some gs) (hgs : Nat.blt gs E.N.n = true) (hb : look need gs = some (tD rB b))
    (h : b = true → OpOK E O need o t) : OpG E O l.toArray need o (tOpt b t) := by
  have e : (true && (b == true)) = b := by cases b <;> rfl
  have := OpG.guarded (t := t) hg hj hgs (guard_plain (E := E) hb) (by rw [e]; exact h)
  rwa [e] at this
theorem OpG.gf {l : List Oper} {need : Ctx} {o : Oper} {t : Ty} {j gs : Nat} {b : Bool} (hg : o.guard = some (j, false)) (hj : ((l.toArray)[j]?).bind (·.dst) = some gs) (hgs : Nat.blt gs E.N.n = true) (hb : look need gs = some (tD rB b))
    (h : (!b) = true → OpOK E O need o t) : OpG E O l.toArray need o (tOpt (!b) t) := by
  have e : (true && (b == false)) = !b := by cases b <;> rfl
  have := OpG.guarded (t := t) hg hj hgs (guard_plain (E := E) hb) (by rw [e]; exact h)
  rwa [e] at this
theorem OpG.got {l : List Oper} {need : Ctx} {o : Oper} {t : Ty} {j gs : Nat} {c b : Bool} (hg : o.guard = some (j, true)) (hj : ((l.toArray)[j]?).bind (·.dst) = some gs) (hgs : Nat.blt gs E.N.n = true) (hb : look need gs = some (tOpt c (tD rB b)))
    (h : (c && b) = true → OpOK E O need o t) : OpG E O l.toArray need o (tOpt (c && b) t) := by
  have e : (c && (b == true)) = (c && b) := by cases b <;> rfl
  have := OpG.guarded (t := t) hg hj hgs (guard_opt (E := E) hb) (by rw [e]; exact h)
  rwa [e] at this
theorem OpG.gof {l : List Oper} {need : Ctx} {o : Oper} {t : Ty} {j gs : Nat} {c b : Bool} (hg : o.guard = some (j, false)) (hj : ((l.toArray)[j]?).bind (·.dst) = some gs) (hgs : Nat.blt gs E.N.n = true) (hb : look need gs = some (tOpt c (tD rB b)))
    (h : (c && !b) = true → OpOK E O need o t) : OpG E O l.toArray need o (tOpt (c && !b) t) := by
  have e : (c && (b == false)) = (c && !b) := by cases b <;> rfl
  have := OpG.guarded (t := t) hg hj hgs (guard_opt (E := E) hb) (by rw [e]; exact h)
  rwa [e] at this
theorem andl {a b : Bool} (h : (a && b) = true) : a = true := by cases a <;> simp_all
theorem andr {a b : Bool} (h : (a && b) = true) : b = true := by cases a <;> simp_all
theorem andi {a b : Bool} (h : a = true) (k : b = true) : (a && b) = true := by rw [h, k]; rfl
theorem noti {a : Bool} (h : a = false) : (!a) = true := by rw [h]; rfl
theorem CG.condT {c : Operand} {x y : Code} {b : Bool} (hb : HasTy E.N G c (tD rB b)) (h : b = true) (hx : CG E Q x O G) : CG E Q (.cond c x y) O G := CG.cond hb (fun _ => hx) (fun e => by rw [h] at e; cases e)
theorem CG.condF {c : Operand} {x y : Code} {b : Bool} (hb : HasTy E.N G c (tD rB b)) (h : b = false) (hy : CG E Q y O G) : CG E Q (.cond c x y) O G := CG.cond hb (fun e => by rw [h] at e; cases e) (fun _ => hy)
end
theorem og2 {α β : Type} [Inhabited α] {b : Bool} {x : Option α} {k : α → Option β} {r : β} (h : b = true → x.bind k = some r) : ∃ y, b = true → x = some y ∧ k y = some r := by
  cases b with
  | true => obtain ⟨y, h1, h2⟩ := bs (h rfl); exact ⟨y, fun _ => ⟨h1, h2⟩⟩
  | false => exact ⟨default, fun e => (by cases e)⟩
/-! ### Going through a list -/
theorem idx_pre {α : Type} {xs pre l : List α} {x : α} (h : xs = pre ++ x :: l) : idx xs (pre.length : Int) = some x := by
  rw [idx_nat, h]; simp
theorem range_in {α : Type} {xs pre l : List α} {x : α} (h : xs = pre ++ x :: l) : decide ((pre.length : Int) < (xs.length : Int)) = true := by
  rw [h]; simp; omega
theorem range_end {α : Type} {xs pre : List α} (h : xs = pre ++ []) : decide ((pre.length : Int) < (xs.length : Int)) = false := by
  rw [h]; simp
theorem pre_snoc {α : Type} {xs pre l : List α} {x : α} (h : xs = pre ++ x :: l) : xs = (pre ++ [x]) ++ l := by rw [h]; simp
def nz (n : Int) : Option Unit := if n = 0 then none else some ()
theorem nz_some {n : Int} {u : Unit} (h : nz n = some u) : n ≠ 0 := fun e => by rw [e] at h; cases h

section
variable {E : En} {O : List OE} {G : Ctx} {dst : Option Tmp} {ty : TypeId} {pos : String} {after : Array Edge} {g : Option (Nat × Bool)}
theorem ok_inc {α : Type} {xs pre l : List α} {y : α} {x one : Operand} {xt yt : TypeId} (h : xs = pre ++ y :: l) (hN : xs.length ≤ maxLen) (hx : HasTy E.N G x (tD (rI .i64) (pre.length : Int))) (h1 : HasTy E.N G one (tD (rI .i64) 1)) :
    OpOK E O G ⟨dst, .binOp .add xt x one yt, ty, pos, after, g⟩ (tD (rI .i64) ((pre ++ [y]).length : Int)) := by
  have e : IntKind.i64.wrap ((pre.length : Int) + 1) = ((pre ++ [y]).length : Int) := by
    have h2 : pre.length + 1 ≤ 9223372036854775807 := by
      have : xs.length = pre.length + (l.length + 1) := by rw [h]; simp
      simp only [maxLen] at hN
      omega
    rw [List.length_append, List.length_singleton]
    rw [IntKind.wrap_i64]; omega
  have := ok_add (E := E) (O := O) (dst := dst) (ty := ty) (pos := pos) (after := after) (g := g) (xt := xt) (yt := yt) hx h1
  rwa [e] at this
theorem ok_pickAnd {c x : Operand} {b q : Bool} (hc : HasTy E.N G c (tD rB b)) (hx : b = true → HasTy E.N G x (tD rB q)) : OpOK E O G ⟨dst, .pick c x (.const (.bool false)), ty, pos, after, g⟩ (tD rB (b && q)) := by
  refine ok_pick hc (fun h => ?_) (fun h => ?_)
  · subst h; exact hx rfl
  · subst h; exact hB
theorem ok_pickOr {c x : Operand} {b q : Bool} (hc : HasTy E.N G c (tD rB b)) (hx : b = false → HasTy E.N G x (tD rB q)) : OpOK E O G ⟨dst, .pick c (.const (.bool true)) x, ty, pos, after, g⟩ (tD rB (b || q)) := by
  refine ok_pick hc (fun h => ?_) (fun h => ?_)
  · subst h; exact hB
  · subst h; exact hx rfl
theorem ok_pickAndM {c x : Operand} {b q t : Bool} (hc : HasTy E.N G c (tD rB b)) (hx : b = true → HasTy E.N G x (tD rB q)) (e1 : b = true → some q = some t) (e0 : b = false → some false = some t) : OpOK E O G ⟨dst, .pick c x (.const (.bool false)), ty, pos, after, g⟩ (tD rB t) := by
  refine ok_pick hc (fun h => ?_) (fun h => ?_)
  · rw [← so (e1 h)]; exact hx h
  · rw [← so (e0 h)]; exact hB
theorem ok_pickOrM {c x : Operand} {b q t : Bool} (hc : HasTy E.N G c (tD rB b)) (hx : b = false → HasTy E.N G x (tD rB q)) (e1 : (!b) = true → some q = some t) (e0 : (!b) = false → some true = some t) : OpOK E O G ⟨dst, .pick c (.const (.bool true)) x, ty, pos, after, g⟩ (tD rB t) := by
  refine ok_pick hc (fun h => ?_) (fun h => ?_)
  · rw [← so (e0 (by rw [h]; rfl))]; exact hB
  · rw [← so (e1 (by rw [h]; rfl))]; exact hx h
theorem ok_extract {ts : List Ty} {x : Operand} {i : Nat} {t : Ty} (hi : ts[i]? = some t) (hx : HasTy E.N G x (tT ts)) : OpOK E O G ⟨dst, .extract x i, ty, pos, after, g⟩ t :=
  .of_pure fun a w S _ _ hf => by
    obtain ⟨vs, h1, h2⟩ := hx S a hf
    obtain ⟨v, h3, h4⟩ := h2.at_ i t hi
    exact ⟨v, by simp [execOp, h1, Instr.extract, h3], h4⟩
theorem ok_max2 {x y : Operand} {k : IntKind} {m n : Int} {ats : Array TypeId} (hx : HasTy E.N G x (tD (rI k) m)) (hy : HasTy E.N G y (tD (rI k) n)) : OpOK E O G ⟨dst, .call ⟨.builtin .max, #[x, y], ats⟩, ty, pos, after, g⟩ (tD (rI k) (max m n)) :=
  .of_pure fun a w S _ _ hf => by
    have h1 : a.eval x = .int k m := tI_iff.1 (hx S a hf)
    have h2 : a.eval y = .int k n := tI_iff.1 (hy S a hf)
    refine ⟨.int k (if n > m then n else m), by simp [execOp, resolve, invoke, builtin, Builtin.max_, Builtin.max2, h1, h2], tI_iff.2 ?_⟩
    congr 1
    rw [Int.max_def]
    split <;> split <;> omega
theorem ok_min2 {x y : Operand} {k : IntKind} {m n : Int} {ats : Array TypeId} (hx : HasTy E.N G x (tD (rI k) m)) (hy : HasTy E.N G y (tD (rI k) n)) : OpOK E O G ⟨dst, .call ⟨.builtin .min, #[x, y], ats⟩, ty, pos, after, g⟩ (tD (rI k) (min m n)) :=
  .of_pure fun a w S _ _ hf => by
    have h1 : a.eval x = .int k m := tI_iff.1 (hx S a hf)
    have h2 : a.eval y = .int k n := tI_iff.1 (hy S a hf)
    refine ⟨.int k (if n < m then n else m), by simp [execOp, resolve, invoke, builtin, Builtin.min_, Builtin.min2, h1, h2], tI_iff.2 ?_⟩
    congr 1
    rw [Int.min_def]
    split <;> split <;> omega

/-! ### Function values -/
/-- A function value that comes to what a function of data comes to. -/
def tFun (P : Program) {α β : Type} (args : α → List Ty) (res : β → Ty) (f : α → Option β) : Ty where
  p := fun S v => ∃ fid cap, v = .func (.func fid) #[] cap ∧ callableB P fid = true ∧ ∀ x y, f x = some y → ∀ w S' vs, SH.le S S' → Sat w S' → Tys S' (args x) vs →
    Calls P fid (vs.toArray ++ cap) w fun e w' => ∃ v S'', e = .returned v ∧ Ext noB w S' w' S'' ∧ Sat w' S'' ∧ (res y).p S'' v
  mono := fun h ⟨f, cap, e, hc, k⟩ => ⟨f, cap, e, hc, fun x y hxy w S' vs hle => k x y hxy w S' vs (SH.le_trans h hle)⟩
theorem hFn {N : Fr} {P : Program} {α β : Type} {args : α → List Ty} {res : β → Ty} {f : α → Option β} {fid : FuncId} (hc : callableB P fid = true) (hs : ∀ x y, f x = some y → Spec P fid (args x) (res y)) : HasTy N G (.func fid) (tFun P args res f) := fun S a _ =>
  ⟨fid, #[], rfl, hc, fun x y h w S' vs _ hsat hv => by simpa using hs x y h w S' vs hsat hv⟩
theorem Tys.append {S : SH} : ∀ {ts us : List Ty} {vs ws : List Value}, Tys S ts vs → Tys S us ws → Tys S (ts ++ us) (vs ++ ws)
  | [], _, [], _, _, h => h
  | _ :: _, _, _ :: _, _, ⟨h1, h2⟩, h => ⟨h1, Tys.append h2 h⟩
theorem ok_makeFunc {α β : Type} {args : α → List Ty} {res : β → Ty} {f : α → Option β} {fid : FuncId} {caps : List Operand} {cts : List Ty} (hc : callableB E.P fid = true) (hcap : HasTys E.N G caps cts)
    (hs : ∀ x y, f x = some y → Spec E.P fid (args x ++ cts) (res y)) : OpOK E O G ⟨dst, .makeFunc (.func fid) #[] caps.toArray, ty, pos, after, g⟩ (tFun E.P args res f) :=
  .of_pure fun a w S _ _ hf => by
    refine ⟨.func (.func fid) #[] (caps.map a.eval).toArray, by simp [execOp, Instr.makeFunc], fid, _, rfl, hc, fun x y h w' S' vs hle hsat hv => ?_⟩
    have hcv := (hcap.tys hf).mono hle
    simpa using hs x y h w' S' _ hsat (hv.append hcv)
theorem ok_callV {α β : Type} {args : α → List Ty} {res : β → Ty} {f : α → Option β} {fo : Operand} {x : α} {y : β} {xs : List Operand} {ats : Array TypeId} (hfo : HasTy E.N G fo (tFun E.P args res f)) (h : f x = some y) (hx : HasTys E.N G xs (args x)) :
    OpOK E O G ⟨dst, .call ⟨.value fo, xs.toArray, ats⟩, ty, pos, after, g⟩ (res y) := fun a w S hS _ hF => by
  obtain ⟨fid, cap, e, hc, hs⟩ := hfo S a hF
  have hr : (execOp a.eval ⟨dst, .call ⟨.value fo, xs.toArray, ats⟩, ty, pos, after, g⟩).run E.P w = .ok (.enter fid ((xs.map a.eval).toArray ++ cap)) w := by
    simp [execOp, resolve, e, Deferred.ofValue, invoke, run_callFunc hc]
  refine ⟨fun c h => (by cases h), ?_⟩
  rw [hr]
  exact (hs x y h w S _ (SH.le_refl _) hS (hx.tys hF)).mono fun e w' ⟨v, S', he, h1, h2, h3⟩ => ⟨v, he, v, S', rfl, h1, h2, h3⟩
end
theorem Spec.of {P : Program} {f : FuncId} {fn : Func} {c : Code} {ts : List Ty} {t : Ty} {N : Nat} (hf : P.funcs[f]? = some fn) (hb : fn.body = some c) (hN : fn.ntmps = N) (hn : Nat.ble ts.length N = true)
    (h : ∀ w0 S0, CG ⟨P, ⟨N, []⟩, noB, w0, S0, none⟩ (bodyPost P fn (endQ ⟨P, ⟨N, []⟩, noB, w0, S0, none⟩ t)) c [] (initG 0 ts)) : Spec P f ts t := by
  subst hN
  exact Spec.of_code hf hb (Nat.le_of_ble_eq_true hn) h
theorem nn {α : Type _} {r : α} (h : (none : Option α) = some r) : False := by cases h
theorem hVn {N : Fr} {G : Ctx} : HasTy N G (.const (.slice none 0 0)) (tV (oslV none 0 0)) := fun _ _ _ => rfl
/-- More rounds than any list has places. -/
def FUEL : Nat := 2 ^ 64
section
variable {E : En} {O : List OE} {G : Ctx} {dst : Option Tmp} {ty : TypeId} {pos : String} {after : Array Edge} {g : Option (Nat × Bool)}
theorem oslV_shape (l : Option Nat) (cap n : Nat) (h : l = none → n = 0) : ∃ a c, oslV l cap n = .slice a n c := by
  cases l with
  | none => rw [h rfl]; exact ⟨none, 0, rfl⟩
  | some b => exact ⟨_, cap, rfl⟩
theorem ok_lenO {α : Type} {mm : Bool} {r : Rp α} {T : TypeId} {l : Option Nat} {cap n : Nat} {xs : List α} {x : Operand} {t e : TypeId} (ht : E.P.underlying t = some (.slice e)) (hm : arrM mm r T l cap xs ∈ O) (hx : HasTy E.N G x (tV (oslV l cap n))) (hn : n = xs.length := by rfl) :
    OpOK E O G ⟨dst, .call ⟨.builtin .len, #[x], #[t]⟩, ty, pos, after, g⟩ (tD (rI .i64) (n : Int)) :=
  .of_pure fun a w S _ ho hf => by
    have h1 : a.eval x = oslV l cap n := hx S a hf
    have h2 := (ho.mem _ hm).1
    obtain ⟨ad, c, h3⟩ := oslV_shape l cap n (fun e => by subst e; obtain ⟨_, h4, _⟩ := h2; rw [hn]; exact h4.1)
    refine ⟨.int .i64 n, ?_, tI_iff.2 rfl⟩
    simp [execOp, resolve, invoke, builtin, Builtin.len_, run_underlying ht, h1, h3, goInt]
end
end Go.Proofs.Ytchjhcgkfglgiaa
