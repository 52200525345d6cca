/- A small logic over the walk's rules: results of a call's own, literals that are appended to, tests for nil. It states nothing of any program. -/
import Derived.Test.YtchjhcgkfglgiaaW11
namespace Go.Proofs.Ytchjhcgkfglgiaa
open Go

/-- What is new is a call's own. -/
theorem own_new {base : Nat} {B : Nat → Prop} {w w' : World} {S S' : SH} {O : List OE} (h : Own base B w S O) (k : Ext noB w S w' S') {e : OE} (he : e.p w' S') (hn : ∀ b, e.fp b → w.heap.size ≤ b) (hb : base ≤ w.heap.size := by first | assumption | exact St.base_le (by assumption)) : Own base B w' S' (e :: O) :=
  ⟨⟨he, fun b hb' => .inl (Nat.le_trans hb (hn b hb'))⟩, fun f hf b hb' hfb => by
    have := f.here (Own.mem h f hf).1 b hfb
    have := hn b hb'
    omega, h.ext0 k⟩
/-- A call that hands back a new list, which no one else has. -/
def SpecO (P : Program) (f : FuncId) (ts : List Ty) (mm : Bool) {α : Type} (r : Rp α) (T : TypeId) (xs : List α) : Prop :=
  ∀ w S vs, Sat w S → Tys S ts vs → Calls P f vs.toArray w fun e w' => ∃ l cap S', e = .returned (oslV l cap xs.length) ∧ Ext noB w S w' S' ∧ Sat w' S' ∧ (arrM mm r T l cap xs).holds w.heap.size noB w' S'
theorem settle_arr {mm : Bool} {α : Type} {r : Rp α} {T : TypeId} {l : Option Nat} {cap : Nat} {xs : List α} {w w' : World} {S S' : SH} (h : (arrM mm r T l cap xs).holds w.heap.size noB w' S') (he : Ext noB w S w' S') (hs : Sat w' S') :
    ∃ S'', Ext noB w S w' S'' ∧ Sat w' S'' ∧ (tD (rSl r) xs).p S'' (oslV l cap xs.length) := by
  have st : St ⟨default, ⟨0, []⟩, noB, w, S, none⟩ [arrM mm r T l cap xs] [] ⟨#[], []⟩ w' S' := ⟨he, hs, ⟨h, fun _ hf => (by cases hf), trivial⟩, ⟨rfl, rfl, fun _ _ h => (by simp [look] at h)⟩⟩
  obtain ⟨S'', h1, h2⟩ := st.settle
  exact ⟨S'', h1.ext, h1.sat, h2⟩
theorem SpecO.spec {P : Program} {f : FuncId} {ts : List Ty} {mm : Bool} {α : Type} {r : Rp α} {T : TypeId} {xs : List α} (h : SpecO P f ts mm r T xs) : Spec P f ts (tD (rSl r) xs) := fun w S vs hs hv =>
  (h w S vs hs hv).mono fun e w' ⟨l, cap, S', he, h1, h2, h3⟩ => by
    obtain ⟨S'', h4, h5, h6⟩ := settle_arr h3 h1 h2
    exact ⟨_, S'', he, h4, h5, h6⟩
def endO (E : En) (mm : Bool) {α : Type} (r : Rp α) (T : TypeId) (xs : List α) : Ending → World → Prop := fun e w' => ∃ l cap S', e = .returned (oslV l cap xs.length) ∧ Ext E.B E.w0 E.S0 w' S' ∧ Sat w' S' ∧ (arrM mm r T l cap xs).holds E.w0.heap.size E.B w' S'
theorem SpecO.of {P : Program} {f : FuncId} {fn : Func} {c : Code} {ts : List Ty} {N : Nat} {mm : Bool} {α : Type} {r : Rp α} {T : TypeId} {xs : List α} (hf : P.funcs[f]? = some fn) (hb : fn.body = some c) (hN : fn.ntmps = N) (hn : Nat.ble ts.length N = true)
    (h : ∀ w0 S0, CG ⟨P, ⟨N, []⟩, noB, w0, S0, none⟩ (bodyPost P fn (endO ⟨P, ⟨N, []⟩, noB, w0, S0, none⟩ mm r T xs)) c [] (initG 0 ts)) : SpecO P f ts mm r T xs := by
  subst hN
  intro w S vs hs hv
  exact callsIn_fw.1 (callsIn_of_wp (F := fw none) (n := 0) hf hb trivial (h w S _ w S ⟨Ext.refl _ _ _, hs, trivial, facts_init hv _ (Nat.le_of_ble_eq_true hn)⟩))
section
variable {E : En} {O : List OE} {G : Ctx} {Q : Exit → Act → World → Prop} {ops : Array Oper} {rest : List Oper}
theorem AT.retO {P : Program} {N : Nat} {B : Nat → Prop} {w0 : World} {S0 : SH} {fn : Func} {k : Nat} {mm : Bool} {α : Type} {r : Rp α} {T : TypeId} {l : Option Nat} {cap n : Nat} {xs : List α} (hr : fn.results = #[.tmp k]) (hk : look G k = some (tV (oslV l cap n))) (hn : n = xs.length := by rfl) :
    AT ⟨P, ⟨N, []⟩, B, w0, S0, none⟩ (bodyPost P fn (endO ⟨P, ⟨N, []⟩, B, w0, S0, none⟩ mm r T xs)) .ret (arrM mm r T l cap xs :: O) G := fun a w S st => by
  subst hn
  have hv : a.tmps.getD k undef = oslV l cap xs.length := st.facts.at_ k _ hk
  exact ⟨st.facts.defers, _, run_results_one P fn k hr _ _, l, cap, S, by rw [hv], st.ext, st.sat, st.own.1⟩
theorem AT.retT {P : Program} {N : Nat} {B : Nat → Prop} {w0 : World} {S0 : SH} {fn : Func} {k : Nat} {α : Type} {r : Rp α} {T : TypeId} {l : Option Nat} {cap : Nat} {xs : List α} (hr : fn.results = #[.tmp k]) (hk : look G k = some (tO r l cap xs)) :
    AT ⟨P, ⟨N, []⟩, B, w0, S0, none⟩ (bodyPost P fn (endO ⟨P, ⟨N, []⟩, B, w0, S0, none⟩ true r T xs)) .ret (tip r T l cap xs :: O) G := fun a w S st => by
  have hv : a.tmps.getD k undef = oslV l cap xs.length := (st.facts.at_ k _ hk).1
  exact ⟨st.facts.defers, _, run_results_one P fn k hr _ _, l, cap, S, by rw [hv], st.ext, st.sat, st.own.1⟩
section
variable {d : Nat} {ty : TypeId} {pos : String} {after : Array Edge}
theorem RG.callOG {f : FuncId} {xs : List Operand} {ats : Array TypeId} {ts : List Ty} {mm : Bool} {α : Type} {r : Rp α} {T : TypeId} {ys : List α} {u : Nat → Option Nat → Ty} (hc : callableB E.P f = true) (hs : SpecO E.P f ts mm r T ys) (hx : HasTys E.N G xs ts) (hd : Nat.blt d E.N.n = true)
    (hu : ∀ l cap w0 S, (arrM mm r T l cap ys).p w0 S → (u cap l).p S (oslV l cap ys.length))
    (k : ∀ l cap, RG E ops Q rest (arrM mm r T l cap ys :: O) ((d, u cap l) :: G)) :
    RG E ops Q (⟨some d, .call ⟨.value (.func f), xs.toArray, ats⟩, ty, pos, after, none⟩ :: rest) O G := .of rfl fun a w S st => by
  have hr : (execOp a.eval ⟨some d, .call ⟨.value (.func f), xs.toArray, ats⟩, ty, pos, after, none⟩).run E.P w = .ok (.enter f (xs.map a.eval).toArray) w := by
    simp [execOp, resolve, Act.eval, Deferred.ofValue, invoke, run_callFunc hc]
  refine ⟨fun c h => (by cases h), ?_⟩
  rw [hr]
  refine (hs w S _ st.sat (hx.tys st.facts)).mono fun e w' ⟨l, cap, S', he, h1, h2, h3⟩ => ⟨_, he, ?_⟩
  refine k l cap _ _ S' ⟨st.ext.step0 h1, h2, own_new st.own h1 h3.1 (fun b hb => (h3.2 b hb).resolve_right id) st.base_le, (st.facts.mono h1.keep).put hd (hu l cap w' S' h3.1)⟩
theorem RG.callO {f : FuncId} {xs : List Operand} {ats : Array TypeId} {ts : List Ty} {α : Type} {r : Rp α} {T : TypeId} {ys : List α} (hc : callableB E.P f = true) (hs : SpecO E.P f ts false r T ys) (hx : HasTys E.N G xs ts) (hd : Nat.blt d E.N.n = true)
    (k : ∀ l cap, RG E ops Q rest (arr r T l cap ys :: O) ((d, tV (oslV l cap ys.length)) :: G)) :
    RG E ops Q (⟨some d, .call ⟨.value (.func f), xs.toArray, ats⟩, ty, pos, after, none⟩ :: rest) O G := RG.callOG (u := fun cap l => tV (oslV l cap ys.length)) hc hs hx hd (fun _ _ _ _ _ => rfl) k
theorem RG.callT {f : FuncId} {xs : List Operand} {ats : Array TypeId} {ts : List Ty} {α : Type} {r : Rp α} {T : TypeId} {ys : List α} (hc : callableB E.P f = true) (hs : SpecO E.P f ts true r T ys) (hx : HasTys E.N G xs ts) (hd : Nat.blt d E.N.n = true)
    (k : ∀ l cap, RG E ops Q rest (tip r T l cap ys :: O) ((d, tO r l cap ys) :: G)) :
    RG E ops Q (⟨some d, .call ⟨.value (.func f), xs.toArray, ats⟩, ty, pos, after, none⟩ :: rest) O G := RG.callOG (u := fun cap l => tO r l cap ys) hc hs hx hd (fun _ _ _ _ h => ⟨rfl, tip_data h⟩) k
/-- A literal that is appended to. -/
theorem RG.buildOwn {α : Type} {r : Rp α} {ys : List α} {xs : List Operand} {parts : List (Nat × Operand)} {t T : TypeId} {n sz bytes : Nat} {agg : Bool} {z : List Value} (ht : E.P.underlying t = some (.slice T)) (ti : TI E.P T sz bytes agg z) (hsz : r.sz = sz) (h0 : Nat.blt 0 sz = true)
    (hp : parts = enumO 0 xs) (hn : n = ys.length) (hb : Nat.ble (n * sz) 16777216 = true) (hx : HasTys E.N G xs (ys.map (tD r))) (hd : Nat.blt d E.N.n = true)
    (k : ∀ l cap, RG E ops Q rest (arr r T l cap ys :: O) ((d, tV (oslV l cap ys.length)) :: G)) :
    RG E ops Q (⟨some d, .buildSlice t n parts.toArray, ty, pos, after, none⟩ :: rest) O G := .of rfl fun a w S st => by
  obtain ⟨cs, hc, hr⟩ := run_buildSlice ht ti hsz hn hb (hx.tys st.facts) w
  subst hsz
  subst hp
  have hb' := Nat.le_of_ble_eq_true hb
  have h0' : 0 < r.sz := by simpa [Nat.blt_eq] using h0
  have hnle : n ≤ n * r.sz := Nat.le_mul_of_pos_right n h0'
  have hcl := rcs_len hc
  obtain ⟨he, hs', hno⟩ := Ext.alloc_own (w := w) (.cells cs.toArray T (0, 0)) st.sat
  have hrun : (execOp a.eval ⟨some d, .buildSlice t n (enumO 0 xs).toArray, ty, pos, after, none⟩).run E.P w = .ok (.value (.slice (some ⟨w.heap.size, 0, none⟩) n n)) (w.alloc (.cells cs.toArray T (0, 0))) := by
    simp only [execOp, Sem.run_bind, hr, Result.andThen_ok, Sem.run_pure]
  refine ⟨fun c h => (by cases h), ?_⟩
  rw [hrun]
  refine k (some w.heap.size) n _ _ S ⟨st.ext.step0 he, hs', own_new st.own he ⟨cs, ⟨cs.toArray, heap_alloc_new w _, by omega, by simp only [maxLen]; omega, by simp [hcl, hn], by simp [← hcl]⟩, hc, fun b hb => by rw [← Option.some.inj hb]; exact hno⟩ (fun b hb => Nat.le_of_eq (Option.some.inj hb)) st.base_le, st.facts.put hd ?_⟩
  · show _ = oslV _ _ _
    rw [← hn]; rfl
/-- Is it nil? If so it is empty. -/
theorem RG.isNil {α : Type} {r : Rp α} {xs : List α} {x : Operand} {t yt e : TypeId} (ht : E.P.underlying t = some (.slice e)) (hx : HasTy E.N G x (tD (rSl r) xs)) (hd : Nat.blt d E.N.n = true)
    (k : ∀ b, (b = true → xs = []) → RG E ops Q rest O ((d, tD rB b) :: G)) : RG E ops Q (⟨some d, .binOp .eql t x (.const (.slice none 0 0)) yt, ty, pos, after, none⟩ :: rest) O G := .of rfl fun a w S st => by
  obtain ⟨ad, cap, h1, _, _, h2⟩ := tSl_iff.1 (hx S a st.facts)
  have hrun : (execOp a.eval ⟨some d, .binOp .eql t x (.const (.slice none 0 0)) yt, ty, pos, after, none⟩).run E.P w = .ok (.value (.bool ad.isNone)) w := by
    have h3 : (Op.equal t (.slice ad xs.length cap) (.slice none 0 0)).run E.P w = .ok ad.isNone w := run_eql fun d => by
      cases ad <;> simp [Op.equalIn, run_underlying ht]
    have hcn : a.eval (.const (.slice none 0 0)) = .slice none 0 0 := rfl
    simp [execOp, h1, hcn, eqGuard, binOp, h3]
  refine ⟨fun c h => (by cases h), ?_⟩
  rw [hrun]
  refine k ad.isNone (fun e => ?_) _ _ S (st.step (Ext.refl _ _ _) st.sat hd (tB_iff.2 rfl))
  rcases h2 with h2 | ⟨b, off, c, T, fr, e1, _⟩
  · exact h2
  · subst e1; cases e
end
end
end Go.Proofs.Ytchjhcgkfglgiaa
