/- Facts of this claim: W12, W13, W14, W16, W17, W18, W19, W20, W22, W23, W24, W25, W26, W28, W30, W31, W32. -/
import Derived.Test.YtegigakgcnhiaaaGreatDoorLdV1
import Derived.RangeFuncRecord
import Derived.RangeFuncLeaves
import Derived.Laws.StructEq
import Derived.Lib.ConvBytes
import Derived.Lib.AppendZeros
import Derived.Laws.MakeOwn
import Derived.MapKept
import Derived.Scope
import Derived.ChangeKeysEq
namespace Go.Proofs.YtegigakgcnhiaaaGreatDoor
open Go

theorem iC {base : Nat} {B : Nat → Prop} {w w' : World} {S S' : SH} {O : List OE} (h : Own base B w S O) (k : Ext noB w S w' S') {e : OE} (he : e.p w' S') (hn : ∀ b, e.fp b → w.heap.size ≤ b) (hb : base ≤ w.heap.size := by first | assumption | exact St.base_le (by assumption)) : Own base B w' S' (e :: O) :=
 ⟨⟨he, fun b hb' => .inl (Nat.le_trans hb (hn b hb'))⟩, fun f hf b hb' hfb => by
  have := f.here (Own.mem h f hf).1 b hfb
  have := hn b hb'
  omega, h.ext0 k⟩
def SpecO (P : Program) (f : FuncId) (ts : List Ty) (mm : Bool) {α : Type} (r : Rp α) (T : TypeId) (xs : List α) : Prop :=
 ∀ w S vs, Sat w S → Tys S ts vs → Calls P f vs.toArray w fun e w' => ∃ l cap S', e = .returned (aD l cap xs.length) ∧ Ext noB w S w' S' ∧ Sat w' S' ∧ (d6 mm r T l cap xs).holds w.heap.size noB w' S'
theorem settle_arr {mm : Bool} {α : Type} {r : Rp α} {T : TypeId} {l : Option Nat} {cap : Nat} {xs : List α} {w w' : World} {S S' : SH} (h : (d6 mm r T l cap xs).holds w.heap.size noB w' S') (he : Ext noB w S w' S') (hs : Sat w' S') :
  ∃ S'', Ext noB w S w' S'' ∧ Sat w' S'' ∧ (tD (rSl r) xs).p S'' (aD l cap xs.length) := by
 have st : St ⟨default, ⟨0, []⟩, noB, w, S, none⟩ [d6 mm r T l cap xs] [] ⟨#[], []⟩ w' S' := ⟨he, hs, ⟨h, fun _ hf => (by cases hf), trivial⟩, ⟨rfl, rfl, fun _ _ h => (by simp [look] at h)⟩⟩
 obtain ⟨S'', h1, h2⟩ := st.settle
 exact ⟨S'', h1.ext, h1.sat, h2⟩
theorem SpecO.spec {P : Program} {f : FuncId} {ts : List Ty} {mm : Bool} {α : Type} {r : Rp α} {T : TypeId} {xs : List α} (h : SpecO P f ts mm r T xs) : Spec P f ts (tD (rSl r) xs) := fun w S vs hs hv =>
 (h w S vs hs hv).mono fun e w' ⟨l, cap, S', he, h1, h2, h3⟩ => by
  obtain ⟨S'', h4, h5, h6⟩ := settle_arr h3 h1 h2
  exact ⟨_, S'', he, h4, h5, h6⟩
def endO (E : En) (mm : Bool) {α : Type} (r : Rp α) (T : TypeId) (xs : List α) : Ending → World → Prop := fun e w' => ∃ l cap S', e = .returned (aD l cap xs.length) ∧ Ext E.B E.w0 E.S0 w' S' ∧ Sat w' S' ∧ (d6 mm r T l cap xs).holds E.w0.heap.size E.B w' S'
theorem SpecO.of {P : Program} {f : FuncId} {fn : Func} {c : Code} {ts : List Ty} {N : Nat} {mm : Bool} {α : Type} {r : Rp α} {T : TypeId} {xs : List α} (hf : P.funcs[f]? = some fn) (hb : fn.body = some c) (hN : fn.ntmps = N) (hn : Nat.ble ts.length N = true)
  (h : ∀ w0 S0, CG ⟨P, ⟨N, []⟩, noB, w0, S0, none⟩ (bodyPost P fn (endO ⟨P, ⟨N, []⟩, noB, w0, S0, none⟩ mm r T xs)) c [] (jr 0 ts)) : SpecO P f ts mm r T xs := by
 subst hN
 intro w S vs hs hv
 exact dm.1 (callsIn_of_wp (F := fw none) (n := 0) hf hb trivial (h w S _ w S ⟨Ext.refl _ _ _, hs, trivial, eS hv _ (Nat.le_of_ble_eq_true hn)⟩))
section
variable {E : En} {O : List OE} {G : Ctx} {Q : Exit → Act → World → Prop} {ops : Array Oper} {rest : List Oper}
theorem iI {P : Program} {N : Nat} {B : Nat → Prop} {w0 : World} {S0 : SH} {fn : Func} {k : Nat} {mm : Bool} {α : Type} {r : Rp α} {T : TypeId} {l : Option Nat} {cap n : Nat} {xs : List α} (hr : fn.results = #[.tmp k]) (hk : look G k = some (tV (aD l cap n))) (hn : n = xs.length := by rfl) :
  AT ⟨P, ⟨N, []⟩, B, w0, S0, none⟩ (bodyPost P fn (endO ⟨P, ⟨N, []⟩, B, w0, S0, none⟩ mm r T xs)) .ret (d6 mm r T l cap xs :: O) G := fun a w S st => by
 subst hn
 have hv : a.tmps.getD k undef = aD l cap xs.length := st.facts.at_ k _ hk
 exact ⟨st.facts.defers, _, fI P fn k hr _ _, l, cap, S, by rw [hv], st.ext, st.sat, st.own.1⟩
section
variable {d : Nat} {ty : TypeId} {pos : String} {after : Array Edge}
theorem RG.callOG {f : FuncId} {xs : List Operand} {ats : Array TypeId} {ts : List Ty} {mm : Bool} {α : Type} {r : Rp α} {T : TypeId} {ys : List α} {u : Nat → Option Nat → Ty} (hc : an E.P f = true) (hs : SpecO E.P f ts mm r T ys) (hx : HasTys E.N G xs ts) (hd : Nat.blt d E.N.n = true)
  (hu : ∀ l cap w0 S, (d6 mm r T l cap ys).p w0 S → (u cap l).p S (aD l cap ys.length))
  (k : ∀ l cap, RG E ops Q rest (d6 mm r T l cap ys :: O) ((d, u cap l) :: G)) :
  RG E ops Q (⟨some d, .call ⟨.value (.func f), xs.toArray, ats⟩, ty, pos, after, none⟩ :: rest) O G := .of rfl fun a w S st => by
 have hr : (execOp a.eval ⟨some d, .call ⟨.value (.func f), xs.toArray, ats⟩, ty, pos, after, none⟩).run E.P w = .ok (.enter f (xs.map a.eval).toArray) w := by
  simp [execOp, resolve, Act.eval, Deferred.ofValue, invoke, cl hc]
 refine ⟨fun c h => (by cases h), ?_⟩
 rw [hr]
 refine (hs w S _ st.sat (hx.tys st.facts)).mono fun e w' ⟨l, cap, S', he, h1, h2, h3⟩ => ⟨_, he, ?_⟩;refine k l cap _ _ S' ⟨st.ext.step0 h1, h2, iC st.own h1 h3.1 (fun b hb => (h3.2 b hb).resolve_right id) st.base_le, (st.facts.mono h1.keep).put hd (hu l cap w' S' h3.1)⟩
theorem eV {f : FuncId} {xs : List Operand} {ats : Array TypeId} {ts : List Ty} {α : Type} {r : Rp α} {T : TypeId} {ys : List α} (hc : an E.P f = true) (hs : SpecO E.P f ts false r T ys) (hx : HasTys E.N G xs ts) (hd : Nat.blt d E.N.n = true)
  (k : ∀ l cap, RG E ops Q rest (arr r T l cap ys :: O) ((d, tV (aD l cap ys.length)) :: G)) :
  RG E ops Q (⟨some d, .call ⟨.value (.func f), xs.toArray, ats⟩, ty, pos, after, none⟩ :: rest) O G := RG.callOG (u := fun cap l => tV (aD l cap ys.length)) hc hs hx hd (fun _ _ _ _ _ => rfl) k
theorem jz {α : Type} {r : Rp α} {ys : List α} {xs : List Operand} {parts : List (Nat × Operand)} {t T : TypeId} {n sz bytes : Nat} {agg : Bool} {z : List Value} (ht : E.P.underlying t = some (.slice T)) (ti : TI E.P T sz bytes agg z) (hsz : r.sz = sz) (h0 : Nat.blt 0 sz = true)
  (hp : parts = enumO 0 xs) (hn : n = ys.length) (hb : Nat.ble (n * sz) 16777216 = true) (hx : HasTys E.N G xs (ys.map (tD r))) (hd : Nat.blt d E.N.n = true)
  (k : ∀ l cap, RG E ops Q rest (arr r T l cap ys :: O) ((d, tV (aD l cap ys.length)) :: G)) :
  RG E ops Q (⟨some d, .buildSlice t n parts.toArray, ty, pos, after, none⟩ :: rest) O G := .of rfl fun a w S st => by
 obtain ⟨cs, hc, hr⟩ := run_buildSlice ht ti hsz hn hb (hx.tys st.facts) w
 subst hsz
 subst hp
 have hb' := Nat.le_of_ble_eq_true hb
 have h0' : 0 < r.sz := by simpa [Nat.blt_eq] using h0
 have hnle : n ≤ n * r.sz := Nat.le_mul_of_pos_right n h0'
 have hcl := gk hc
 obtain ⟨he, hs', hno⟩ := bT (w := w) (.cells cs.toArray T (0, 0)) st.sat
 have hrun : (execOp a.eval ⟨some d, .buildSlice t n (enumO 0 xs).toArray, ty, pos, after, none⟩).run E.P w = .ok (.value (.slice (some ⟨w.heap.size, 0, none⟩) n n)) (w.alloc (.cells cs.toArray T (0, 0))) := by
  simp only [execOp, Sem.run_bind, hr, Result.andThen_ok, Sem.run_pure]
 refine ⟨fun c h => (by cases h), ?_⟩
 rw [hrun]
 refine k (some w.heap.size) n _ _ S ⟨st.ext.step0 he, hs', iC st.own he ⟨cs, ⟨cs.toArray, heap_alloc_new w _, by omega, by simp only [maxLen]; omega, by simp [hcl, hn], by simp [← hcl]⟩, hc, fun b hb => by rw [← Option.some.inj hb]; exact hno⟩ (fun b hb => Nat.le_of_eq (Option.some.inj hb)) st.base_le, st.facts.put hd ?_⟩
 ·show _ = aD _ _ _
  rw [← hn]; rfl
theorem RG.isNil {α : Type} {r : Rp α} {xs : List α} {x : Operand} {t yt e : TypeId} (ht : E.P.underlying t = some (.slice e)) (hx : aA E.N G x (tD (rSl r) xs)) (hd : Nat.blt d E.N.n = true)
  (k : ∀ b, (b = true → xs = []) → RG E ops Q rest O ((d, tD rB b) :: G)) : RG E ops Q (⟨some d, .binOp .eql t x (.const (.slice none 0 0)) yt, ty, pos, after, none⟩ :: rest) O G := .of rfl fun a w S st => by
 obtain ⟨ad, cap, h1, _, _, h2⟩ := gb.1 (hx S a st.facts)
 have hrun : (execOp a.eval ⟨some d, .binOp .eql t x (.const (.slice none 0 0)) yt, ty, pos, after, none⟩).run E.P w = .ok (.value (.bool ad.isNone)) w := by
  have h3 : (Op.equal t (.slice ad xs.length cap) (.slice none 0 0)).run E.P w = .ok ad.isNone w := run_eql fun d => by
   cases ad <;> simp [Op.equalIn, run_underlying ht]
  have hcn : a.eval (.const (.slice none 0 0)) = .slice none 0 0 := rfl
  simp [execOp, h1, hcn, eqGuard, binOp, h3]
 refine ⟨fun c h => (by cases h), ?_⟩
 rw [hrun]
 refine k ad.isNone (fun e => ?_) _ _ S (st.step (Ext.refl _ _ _) st.sat hd (db.2 rfl))
 rcases h2 with h2 | ⟨b, off, c, T, fr, e1, _⟩
 ·exact h2
 ·subst e1; cases e
end
end
end Go.Proofs.YtegigakgcnhiaaaGreatDoor

namespace Go.Proofs.YtegigakgcnhiaaaGreatDoor
open Go

def aR (b off : Nat) : Value := .pointer (some ⟨b, off, none⟩)
def bx {α : Type} (r : Rp α) (T : TypeId) (b : Nat) (x : α) : OE where
 fp := fun k => k = b
 p := fun w S => S b = none ∧ ∃ c, w.heap[b]? = some (.cells c T (0, 0)) ∧ r.rc S c.toList x
 here := by
  intro w S h k hk
  subst hk
  obtain ⟨h1, c, h2, _⟩ := h
  exact (Array.getElem?_eq_some_iff.1 h2).1
 kept := by
  intro C w w' S S' h k hC
  obtain ⟨h1, c, h2, h3⟩ := h
  have hlt := (Array.getElem?_eq_some_iff.1 h2).1
  exact ⟨by rw [k.old b hlt (hC b rfl)]; exact h1, c, by rw [k.heap b hlt (hC b rfl)]; exact h2, r.mono k.keep h3⟩
def rV : Rp Value where
 sz := 1
 agg := false
 rc := fun _ cs v => cs = [v] ∧ v.oneCell' = true
 mono := fun _ h => h
 len := fun h => by rw [h.1]; rfl
 one := fun h c hc => by rw [h.1] at hc; simp at hc; subst hc; exact h.2
 sc := fun _ => rfl
theorem j5 {u : Value} {S : SH} {v : Value} : (tD rV u).p S v ↔ v = u ∧ u.oneCell' = true := by
 constructor
 ·rintro ⟨cs, rfl, h1, h2⟩; subst h1; exact ⟨rfl, h2⟩
 ·rintro ⟨rfl, h⟩; exact ⟨[v], rfl, rfl, h⟩
def iH {α β : Type} (r : Rp α) (off : Nat) (q : Rp β) (set : α → β → α) : Prop := ∀ S cs x ds y, r.rc S cs x → q.rc S ds y → r.rc S (cs.take off ++ ds ++ cs.drop (off + q.sz)) (set x y)
section
variable {E : En} {O : List OE} {G : Ctx} {Q : Exit → Act → World → Prop} {ops : Array Oper} {rest : List Oper} {c : Code} {e : Exit}
theorem St.settleB {α : Type} {r : Rp α} {T : TypeId} {b k : Nat} {x : α} {a : Act} {w : World} {S : SH} (h : St E (bx r T b x :: O) G a w S) (hk : look G k = some (tV (aR b 0))) : ∃ S', St E O ((k, aF r x) :: G) a w S' := by
 obtain ⟨⟨hn, cur, h3, h4⟩, _⟩ := h.own.1
 obtain ⟨h8, hle, _, _⟩ := settle_ext h rfl h3 (ib _) hn
 have hv : a.tmps.getD k undef = aR b 0 := h.facts.at_ k _ hk
 refine ⟨_, h8.cons ⟨b, 0, cur, T, (0, 0), hv, by simp [SH.set], ?_⟩⟩
 have hl : cur.size = r.sz := by have := r.len h4; simpa using this
 have := r.mono hle h4
 rw [List.drop_zero, List.take_of_length_le (by simp [hl])]; exact this
theorem RG.settleB {α : Type} {r : Rp α} {T : TypeId} {b : Nat} {x : α} (k : Nat) (hk : look G k = some (tV (aR b 0))) (h : RG E ops Q rest O ((k, aF r x) :: G)) : RG E ops Q rest (bx r T b x :: O) G :=
 fun a w _ st => let ⟨S', st'⟩ := st.settleB hk; h a w S' st'
theorem CG.settleB {α : Type} {r : Rp α} {T : TypeId} {b : Nat} {x : α} (k : Nat) (hk : look G k = some (tV (aR b 0))) (h : CG E Q c O ((k, aF r x) :: G)) : CG E Q c (bx r T b x :: O) G :=
 fun a w _ st => let ⟨S', st'⟩ := st.settleB hk; h a w S' st'
theorem LG.settleB {α : Type} {r : Rp α} {T : TypeId} {b : Nat} {x : α} (k : Nat) (hk : look G k = some (tV (aR b 0))) (h : LG E Q c O ((k, aF r x) :: G)) : LG E Q c (bx r T b x :: O) G :=
 fun a w _ st => let ⟨S', st'⟩ := st.settleB hk; h a w S' st'
theorem AT.settleB {α : Type} {r : Rp α} {T : TypeId} {b : Nat} {x : α} (k : Nat) (hk : look G k = some (tV (aR b 0))) (h : AT E Q e O ((k, aF r x) :: G)) : AT E Q e (bx r T b x :: O) G :=
 fun a w _ st => let ⟨S', st'⟩ := st.settleB hk; h a w S' st'
section
variable {d : Nat} {ty : TypeId} {pos : String} {after : Array Edge}
theorem RG.alloc {α : Type} {r : Rp α} {x : α} {T : TypeId} {sz bytes : Nat} {agg : Bool} {z : List Value} (ti : TI E.P T sz bytes agg z) (hx : ∀ S, r.rc S z x) (hd : Nat.blt d E.N.n = true)
  (k : ∀ b, RG E ops Q rest (bx r T b x :: O) ((d, tV (aR b 0)) :: G)) : RG E ops Q (⟨some d, .alloc T, ty, pos, after, none⟩ :: rest) O G := .of rfl fun a w S st => by
 obtain ⟨zv, hzr, hzc⟩ := ti.zero w
 obtain ⟨he, hs', hno⟩ := bT (w := w) (.cells z.toArray T (0, 0)) st.sat
 have hrun : (execOp a.eval ⟨some d, .alloc T, ty, pos, after, none⟩).run E.P w = .ok (.value (aR w.heap.size 0)) (w.alloc (.cells z.toArray T (0, 0))) := by
  simp [execOp, Instr.alloc, hzr, newVar, newRow, hzc, aR]
 refine ⟨fun c h => (by cases h), ?_⟩
 rw [hrun]
 exact k w.heap.size _ _ S ⟨st.ext.step0 he, hs', iC st.own he ⟨hno, z.toArray, heap_alloc_new w _, by simpa using hx S⟩ (fun b hb => Nat.le_of_eq hb.symm) st.base_le, st.facts.put hd rfl⟩
theorem RG.boxO {α : Type} {r : Rp α} {v : α} {x : Operand} {T : TypeId} (hx : aA E.N G x (tD r v)) (hd : Nat.blt d E.N.n = true)
  (k : ∀ b, RG E ops Q rest (bx r T b v :: O) ((d, tV (aR b 0)) :: G)) : RG E ops Q (⟨some d, .box T x, ty, pos, after, none⟩ :: rest) O G := .of rfl fun a w S st => by
 obtain ⟨cs, hv, hc⟩ := hx S a st.facts
 obtain ⟨he, hs', hno⟩ := bT (w := w) (.cells cs.toArray T (0, 0)) st.sat
 have hrun : (execOp a.eval ⟨some d, .box T x, ty, pos, after, none⟩).run E.P w = .ok (.value (aR w.heap.size 0)) (w.alloc (.cells cs.toArray T (0, 0))) := by
  simp [execOp, Instr.box, newVar, newRow, hv, jG hc, aR]
 refine ⟨fun c h => (by cases h), ?_⟩
 rw [hrun]
 exact k w.heap.size _ _ S ⟨st.ext.step0 he, hs', iC st.own he ⟨hno, cs.toArray, heap_alloc_new w _, by simpa using hc⟩ (fun b hb => Nat.le_of_eq hb.symm) st.base_le, st.facts.put hd rfl⟩
theorem jS {base : Nat} {B : Nat → Prop} {w w' : World} {S : SH} {b : Nat} (hs : Sat w S) (f f' : OE) (h : Own base B w S (f :: O)) (hf : ∀ k, f.fp k ↔ k = b) (hf' : ∀ k, f'.fp k ↔ k = b) (hg : w'.os = w.os ∧ w'.tape = w.tape ∧ w'.output = w.output ∧ w'.heap.size = w.heap.size ∧ w.drawn ≤ w'.drawn)
  (ho : ∀ k, k ≠ b → w'.heap[k]? = w.heap[k]?) (hp : f'.p w' S) (hno : S b = none) : Ext (fun k => k = b) w S w' S ∧ Sat w' S ∧ Own base B w' S (f' :: O) := by
 have hext : Ext (fun k => k = b) w S w' S := ⟨hg.1, hg.2.1, hg.2.2.1, hg.2.2.2.2, by omega, fun k _ hk => ho k hk, SH.le_refl _, fun _ _ _ => rfl⟩
 refine ⟨hext, hs.same fun k o hk => ?_, ⟨hp, fun k hk => h.1.2 k ((hf k).2 ((hf' k).1 hk))⟩, fun g hgm k hk => h.2.1 g hgm k ((hf k).2 ((hf' k).1 hk)), h.2.2.ext hext fun g hgm k hk hkb => h.2.1 g hgm k ((hf k).2 hkb) hk⟩
 have hne : k ≠ b := fun e => by subst e; rw [hno] at hk; cases hk
 exact ho k hne
theorem d9 {P : Program} {α : Type} {q : Rp α} {U : TypeId} {sz bytes : Nat} {agg : Bool} {z : List Value} (ti : TI P U sz bytes agg z) (hsz : q.sz = sz) {S : SH} {ds : List Value} {y : α} (hy : q.rc S ds y) {w : World} {b off : Nat} {cur : Array Value} {T : TypeId}
  (hg : w.heap[b]? = some (.cells cur T (0, 0))) (hfit : off + q.sz ≤ cur.size) :
  ∃ w', (storeVar U ⟨b, off, none⟩ (q.val ds)).run P w = .ok () w' ∧ w'.os = w.os ∧ w'.tape = w.tape ∧ w'.output = w.output ∧ (w'.heap.size = w.heap.size ∧ w.drawn ≤ w'.drawn) ∧ w'.heap[b]? = some (.cells (cur.toList.take off ++ ds ++ cur.toList.drop (off + q.sz)).toArray T (0, 0)) ∧ ∀ k, k ≠ b → w'.heap[k]? = w.heap[k]? := by
 have hl := q.len hy
 have hst := run_storeCells_at P b off T ds 0 cur w hg (by omega) (q.one hy)
 simp only [Nat.add_zero] at hst
 refine ⟨w.setRow b (cur.toList.take off ++ ds ++ cur.toList.drop (off + ds.length)).toArray, ?_, rfl, rfl, rfl, ⟨?_, Nat.le_refl _⟩, ?_, fun k hk => setRow_other w b k _ hk⟩
 ·generalize (cur.toList.take off ++ ds ++ cur.toList.drop (off + ds.length)).toArray = X at hst ⊢
  simp only [storeVar, Sem.run_bind, ti.sizeOf, Result.andThen_ok, jG hy, List.size_toArray, hl, hsz]
  simp only [ne_eq, not_true_eq_false, if_false]
  simpa using hst
 ·simp [World.setRow]
 ·rw [setRow_heap w b cur _ T _ hg, ← hl]
theorem aH {α β : Type} {r : Rp α} {q : Rp β} {set : α → β → α} {x : α} {y : β} {T U : TypeId} {b off sz bytes : Nat} {agg : Bool} {z : List Value} {p v : Operand} (ti : TI E.P U sz bytes agg z) (hsz : q.sz = sz) (hset : iH r off q set) (hoff : Nat.ble (off + q.sz) r.sz = true)
  (hp : aA E.N G p (tV (aR b off))) (hv : aA E.N G v (tD q y)) (k : RG E ops Q rest (bx r T b (set x y) :: O) G) : RG E ops Q (⟨none, .store U p v, ty, pos, after, none⟩ :: rest) (bx r T b x :: O) G := .of rfl fun a w S st => by
 have h1 : a.eval p = aR b off := hp S a st.facts
 obtain ⟨ds, h2, h3⟩ := hv S a st.facts
 obtain ⟨⟨hno, cur, h5, h6⟩, _⟩ := st.own.1
 have hl := r.len h6
 have hoff' := Nat.le_of_ble_eq_true hoff
 obtain ⟨w', hr, e1, e2, e3, e4, e5, e6⟩ := d9 ti hsz h3 h5 (off := off) (by simp at hl; omega)
 have hrun : (execOp a.eval ⟨none, .store U p v, ty, pos, after, none⟩).run E.P w = .ok .skip w' := by
  simp [execOp, h1, h2, Instr.storeAt, aR, Instr.sureAddr, hr]
 refine ⟨fun c h => (by cases h), ?_⟩
 rw [hrun]
 obtain ⟨g1, g2, g3⟩ := jS (O := O) st.sat (bx r T b x) (bx r T b (set x y)) st.own (fun _ => Iff.rfl) (fun _ => Iff.rfl) ⟨e1, e2, e3, e4.1, e4.2⟩ e6 ⟨hno, _, e5, by simpa using hset S _ _ _ _ h6 h3⟩ hno
 exact k _ _ S ⟨st.ext.step g1 (fun c hc => st.own.1.2 c hc), g2, g3, st.facts⟩
theorem aB {α : Type} {r : Rp α} : iH r 0 r (fun _ y => y) := fun S cs x ds y h1 h2 => by
 have hl := r.len h1
 simpa [← hl] using h2
end
section
variable {dst : Option Tmp} {ty : TypeId} {pos : String} {after : Array Edge} {g : Option (Nat × Bool)}
theorem ok_fieldAddrB {T : TypeId} {i off sz b o : Nat} {p : Operand} (hf : ci E.P T i = some (off, sz)) (h0 : Nat.beq sz 0 = false) (hp : aA E.N G p (tV (aR b o))) : OpOK E O G ⟨dst, .fieldAddr T p i, ty, pos, after, g⟩ (tV (aR b (o + off))) :=
 .of_pure fun a w S _ _ hF => by
  have h1 : a.eval p = aR b o := hp S a hF
  obtain ⟨fs, f, e1, e2, e3, e4⟩ := run_field hf
  have h0' : sz ≠ 0 := fun e => by subst e; simp at h0
  refine ⟨aR b (o + off), ?_, rfl⟩
  simp [execOp, h1, aR, Instr.fieldAt, run_underlying e1, e2, Instr.sureAddr, fieldPlace, e4, h0', e3, cG]
theorem dP {α β : Type} {r : Rp α} {q : Rp β} {get : α → β} {x : α} {T U : TypeId} {b off sz bytes : Nat} {agg : Bool} {z : List Value} {p : Operand} (ti : TI E.P U sz bytes agg z) (hsz : q.sz = sz) (hag : q.agg = agg) (hget : Fld r off q get) (hm : bx r T b x ∈ O) (hp : aA E.N G p (tV (aR b off))) :
  OpOK E O G ⟨dst, .load U p, ty, pos, after, g⟩ (tD q (get x)) :=
 .of_pure fun a w S _ ho hf => by
  have h1 : a.eval p = aR b off := hp S a hf
  obtain ⟨⟨_, cur, h5, h6⟩, _⟩ := ho.mem _ hm
  have h7 := hget S _ _ h6
  refine ⟨_, ?_, _, rfl, h7⟩
  simp [execOp, h1, aR, Instr.loadAt, Instr.sureAddr, bP ti h5 hsz hag h7]
theorem fe {α : Type} {r : Rp α} : Fld r 0 r (fun x => x) := fun S cs x h => by
 have hl := r.len h
 simpa [← hl] using h
end
end
end Go.Proofs.YtegigakgcnhiaaaGreatDoor

namespace Go.Proofs.YtegigakgcnhiaaaGreatDoor
open Go

theorem gZ {α β : Type} {p : Rp α} {q : Rp β} : iH (fi p q) 0 p (fun x y => (y, x.2)) := fun S cs x ds y h k => by
 obtain ⟨a, b, e, h1, h2⟩ := h
 have hl := p.len h1
 refine ⟨ds, b, ?_, k, h2⟩
 rw [e, ← hl]; simp
theorem eC {α β γ : Type} {p : Rp α} {q : Rp β} {s : Rp γ} {off off' : Nat} {u : β → γ → β} (h : iH q off s u) (ho : off' = p.sz + off) : iH (fi p q) off' s (fun x y => (x.1, u x.2 y)) := fun S cs x ds y hx hy => by
 obtain ⟨a, b, e, h1, h2⟩ := hx
 have hl := p.len h1
 refine ⟨a, b.take off ++ ds ++ b.drop (off + s.sz), ?_, h1, h S b x.2 ds y h2 hy⟩
 rw [e, ho, ← hl, List.take_length_add_append, show a.length + off + s.sz = a.length + (off + s.sz) from by omega, List.drop_length_add_append]
 simp
theorem dx {α β γ : Type} {p : Rp α} {q : Rp γ} {off : Nat} {u : α → γ → α} {f : β → α} {set : β → γ → β} (h : iH p off q u) (hf : ∀ x y, f (set x y) = u (f x) y) : iH (iW p f) off q set := fun S cs x ds y hx hy => by
 show p.rc S _ (f (set x y))
 rw [hf]
 exact h S cs (f x) ds y hx hy
def gw (P : Program) (T : TypeId) : Option (List (Nat × Nat)) :=
 match P.underlying T with
 | some (.struct fs) => fs.toList.mapM fun f => (P.info? f.type).map fun q => (f.offset, q.size)
 | _ => none
theorem run_places {P : Program} : ∀ (fs : List Field) (ps : List (Nat × Nat)) (w : World), fs.mapM (fun f => (P.info? f.type).map fun q => (f.offset, q.size)) = some ps →
  (fs.mapM (fun f => do pure (f.offset, ← sizeOf f.type) : Field → Sem (Nat × Nat))).run P w = .ok ps w
 | [], ps, w, h => by
  simp at h; subst h
  simp
 | f :: fs, ps, w, h => by
  simp only [List.mapM_cons] at h ⊢
  cases hq : P.info? f.type with
  | none => simp [hq] at h
  | some q =>
   cases hr : fs.mapM (fun f => (P.info? f.type).map fun q => (f.offset, q.size)) with
   | none => simp [hq, hr] at h
   | some qs =>
    simp [hq, hr] at h
    subst h
    have ih := run_places fs qs w hr
    simp [sizeOf, typeInfo, hq] at ih ⊢
    simp [ih]
section
variable {E : En} {O : List OE} {G : Ctx} {dst : Option Tmp} {ty : TypeId} {pos : String} {after : Array Edge} {g : Option (Nat × Bool)}
def BP (E : En) (G : Ctx) {α : Type} (r : Rp α) (ps : List (Nat × Nat)) : α → List (Nat × Operand) → α → Prop
 | x, [], y => x = y
 | x, (i, o) :: rest, y => ∃ (β : Type) (q : Rp β) (set : α → β → α) (off : Nat) (v : β), ps[i]? = some (off, q.sz) ∧ iH r off q set ∧ Nat.ble (off + q.sz) r.sz = true ∧ aA E.N G o (tD q v) ∧ BP E G r ps (set x v) rest y
theorem fill_parts {α : Type} {r : Rp α} {ps : List (Nat × Nat)} {S : SH} {a : Act} (hF : Facts E.N S a G) : ∀ (parts : List (Nat × Operand)) (x y : α) (cs : List Value), BP E G r ps x parts y → r.rc S cs x →
  ∃ ds, r.rc S ds y ∧ Instr.fill (ps.toArray[·]?) cs.toArray (parts.map fun p => (p.1, a.eval p.2)) = some ds.toArray
 | [], x, y, cs, h, hx => by
  have e : x = y := h
  subst e
  exact ⟨cs, hx, rfl⟩
 | (i, o) :: rest, x, y, cs, ⟨β, q, set, off, v, h1, h2, h3, h4, h5⟩, hx => by
  obtain ⟨c, hv, hc⟩ := h4 S a hF
  have hl := q.len hc
  have hlr := r.len hx
  have h3' := Nat.le_of_ble_eq_true h3
  have hcells : (a.eval o).cells = c.toArray := by rw [hv]; exact jG hc
  obtain ⟨ds, h6, h7⟩ := fill_parts hF rest _ y _ h5 (h2 S cs x c v hx hc)
  refine ⟨ds, h6, ?_⟩
  have hps : ps.toArray[i]? = some (off, q.sz) := by simpa using h1
  have hs : (a.eval o).cells.size = q.sz := by rw [hcells]; simpa using hl
  have h8 := splice_cells (a.eval o) off (cs.take off) ((cs.drop off).take q.sz) (cs.drop (off + q.sz)) (by rw [hs]; simp; omega) (by simp; omega)
  have e1 : cs.take off ++ (cs.drop off).take q.sz ++ cs.drop (off + q.sz) = cs := by
   rw [List.append_assoc, ← List.drop_drop, List.take_append_drop, List.take_append_drop]
  rw [e1] at h8
  simp only [List.map_cons, Instr.fill, hps]
  rw [if_neg (by simp [hs, hlr]; omega), h8, hcells]
  simpa using h7
theorem dQ {α : Type} {r : Rp α} {x y : α} {T : TypeId} {parts : List (Nat × Operand)} {ps : List (Nat × Nat)} {sz bytes : Nat} {agg : Bool} {z : List Value} (ti : TI E.P T sz bytes agg z) (hp : gw E.P T = some ps) (hz : ∀ S, r.rc S z x) (hb : BP E G r ps x parts y) (ha : r.agg = true := by rfl) :
  OpOK E O G ⟨dst, .build T parts.toArray, ty, pos, after, g⟩ (tD r y) :=
 .of_pure fun a w S _ _ hF => by
  obtain ⟨zv, hzr, hzc⟩ := ti.zero w
  obtain ⟨ds, h1, h2⟩ := fill_parts hF parts x y z hb (hz S)
  unfold gw at hp
  split at hp
  ·rename_i fs hu
   have hpl := run_places fs.toList ps w hp
   have hpl2 : (fs.mapM (fun f => do pure (f.offset, ← sizeOf f.type) : Field → Sem (Nat × Nat))).run E.P w = .ok ps.toArray w := by
    have hfs : fs = fs.toList.toArray := by simp
    generalize fs.toList = l at hfs hpl
    subst hfs
    rw [List.mapM_toArray, Sem.run_map, hpl]
    rfl
   refine ⟨.agg ds.toArray, ?_, ds, (iq ha ds).symm, h1⟩
   simp only [execOp, Instr.build, Sem.run_bind, hzr, Result.andThen_ok, run_underlying hu, hpl2, hzc]
   have hm : (parts.toArray.map fun (i, x) => (i, a.eval x)).toList = parts.map fun p => (p.1, a.eval p.2) := by simp
   rw [hm, h2]
   simp
  ·cases hp
end
section
variable {O : List OE} {G : Ctx}
theorem fG {P : Program} {N : Nat} {B : Nat → Prop} {w0 : World} {S0 : SH} {fn : Func} {k : Nat} {T : TypeId} {α : Type} {r : Rp α} {x : α} {sz bytes : Nat} {agg : Bool} {z : List Value} (hr : fn.results = #[.cell k T]) (ti : TI P T sz bytes agg z) (hsz : r.sz = sz) (hag : r.agg = agg) (hk : look G k = some (aF r x)) :
  AT ⟨P, ⟨N, []⟩, B, w0, S0, none⟩ (bodyPost P fn (endQ ⟨P, ⟨N, []⟩, B, w0, S0, none⟩ (tD r x))) .ret O G := fun a w S st => by
 obtain ⟨b, off, c, U, fr, h1, h2, h3⟩ := st.facts.at_ k _ hk
 obtain ⟨c', h4, h5⟩ := st.sat.part h2 (r.len h3)
 rw [← h5] at h3
 refine ⟨st.facts.defers, r.val ((c'.toList.drop off).take r.sz), ?_, _, S, rfl, st.ext, st.sat, _, rfl, h3⟩
 have hl := bP ti h4 hsz hag h3
 have h1' : a.tmps[k]?.getD undef = Value.pointer (some ⟨b, off, none⟩) := by simpa [Array.getD_eq_getD_getElem?] using h1
 simp [results, hr, h1', asAddr, hl]
end
end Go.Proofs.YtegigakgcnhiaaaGreatDoor

namespace Go.Proofs.YtegigakgcnhiaaaGreatDoor
open Go

def ew (L : List Oper) : Nat → Nat → Nat → Bool
 | 0, _, _ => false
 | n + 1, i, j => match L[i]? with
  | some o => o.after.toList.any fun e => Region.binds .any e && (Nat.beq e.on j || ew L n e.on j)
  | none => false
def coverB (L : List Oper) (m : Nat) : Bool := (List.range m).all fun j => ew L L.length m j
def tailB (L : List Oper) (n k : Nat) : Bool := (List.range k).all fun m => coverB L (n + m) && (match L[n + m]? with | some o => cV (n + m) o && o.guard.isNone | none => false)
theorem dA {L : List Oper} {done : Array Bool} (down : ∀ j o, L[j]? = some o → done.getD j false = true → ∀ e ∈ o.after, Region.binds .any e = true → done.getD e.on false = true) :
  ∀ (n i j : Nat), (∀ o, L[i]? = some o → ∀ e ∈ o.after, Region.binds .any e = true → done.getD e.on false = true) → ew L n i j = true → done.getD j false = true
 | 0, _, _, _, h => by cases h
 | n + 1, i, j, hi, h => by
  unfold ew at h
  cases ho : L[i]? with
  | none => rw [ho] at h; cases h
  | some o =>
   rw [ho] at h
   obtain ⟨e, he0, hb⟩ := List.any_eq_true.1 h
   have he : e ∈ o.after := by simpa using he0
   rw [Bool.and_eq_true, Bool.or_eq_true] at hb
   have hd := hi o ho e he hb.1
   rcases hb.2 with h1 | h1
   ·rw [← Nat.eq_of_beq_eq_true h1]; exact hd
   ·exact dA down n e.on j (fun p hp => down e.on p hp hd) h1
theorem DJ.stepT {E : En} {O : List OE} {G : Ctx} {l : List Oper} {ts : List Ty} {done : Array Bool} {a : Act} {w w' : World} {S S' : SH} (h : DJ E O G l ts done a w S) {i d : Nat} {o : Oper} {t : Ty} {v : Value} (hi : l[i]? = some o)
  (hd : o.dst = some d) (hdN : d < E.N.n) (hs2 : ∀ j p, l[j]? = some p → done.getD j false = true → p.dst = some d → i = j)
  (hwait : ∀ e ∈ o.after, Region.binds .any e = true → done.getD e.on false = true) (ht : ts[i]? = some t) (hun : done.getD i true = false)
  (hext : Ext noB w S w' S') (hsat : Sat w' S') (hv : t.p S' v) : DJ E O G l ts (done.setIfInBounds i true) (a.put o.dst v) w' S' := by
 have hda : d < a.tmps.size := by rw [h.size]; exact hdN
 have hlt : i < done.size := by rw [h.dsz]; exact (List.getElem?_eq_some_iff.1 hi).1
 have hset : ∀ j, (done.setIfInBounds i true).getD j false = true → j = i ∨ done.getD j false = true := fun j hj => by
  by_cases hij : i = j
  ·exact .inl hij.symm
  ·rw [getD_set_ne false hij] at hj; exact .inr hj
 have hseti : (done.setIfInBounds i true).getD i false = true := by simp [hlt]
 have hun' : done.getD i false = false := by simp [hlt] at hun ⊢; exact hun
 refine ⟨h.ext.step0 hext, hsat, h.own.ext0 hext, ?_, ?_, by simp [h.dsz], fun j p hj hdone e he hb => ?_, fun k u hk hno => ?_, fun j p d' u hj hdone hd' hu => ?_⟩
 ·rw [hd]; simp [Act.put, h.size]
 ·rw [hd]; exact h.defers
 ·rcases hset j hdone with rfl | hj'
  ·rw [hi] at hj
   have : o = p := by simpa using hj
   subst this
   exact getD_set_true (hwait e he hb)
  ·exact getD_set_true (h.down j p hj hj' e he hb)
 ·have hne : d ≠ k := fun e => hno i o hi hseti (by rw [hd, e])
  rw [hd, gR hda, if_neg hne]
  exact u.mono hext.keep (h.old k u hk fun j p hj hdone => hno j p hj (getD_set_true hdone))
 ·rw [hd, gR hda]
  rcases hset j hdone with rfl | hj'
  ·rw [hi] at hj
   have : o = p := by simpa using hj
   subst this
   rw [hd] at hd'
   have : d = d' := by simpa using hd'
   subst this
   rw [if_pos rfl]
   rw [ht] at hu
   have : t = u := by simpa using hu
   subst this
   exact hv
  ·have hne : d ≠ d' := fun e => by
    subst e
    have := hs2 j p hj hj' hd'
    subst this
    rw [hj'] at hun'; cases hun'
   rw [if_neg hne]
   exact u.mono hext.keep (h.new j p d' u hj hj' hd' hu)
theorem gJ {done : Array Bool} {i : Nat} (h : i < done.size) : done.getD i true = done.getD i false := by simp [h]
theorem undone_zero {done : Array Bool} (h : eA done = 0) {i : Nat} (hi : i < done.size) : done.getD i false = true := by
 unfold eA at h
 rw [List.countP_eq_zero] at h
 have h2 : done[i] ∈ done.toList := by simp
 have := h _ h2
 rw [← gJ hi]
 simpa [hi] using this
theorem wpAny_tail {r : Option Nat} {P : Program} {L : List Oper} {Q : Exit → Act → World → Prop} {n : Nat} (hc : ∀ m o, n ≤ m → L[m]? = some o → coverB L m = true) (hedge : ∀ m o, L[m]? = some o → cV m o = true) :
  ∀ (rest : List Oper) (m : Nat) (done : Array Bool) (fuel : Nat) (a : Act) (w : World), n ≤ m → L.drop m = rest → done.size = L.length → (∀ j, j < L.length → (done.getD j false = true ↔ j < m)) → eA done = fuel →
   wpListIn (fw r) 0 P L.toArray Q rest a w → wpAnyIn (fw r) 0 P .any L.toArray Q fuel done a w := by
 intro rest
 induction rest with
 | nil =>
  intro m done fuel a w hnm hdrop hsz hdone hu h
  have hlen : L.length ≤ m := List.drop_eq_nil_iff.1 hdrop
  have hr : Region.ready .any L.toArray done = [] := by
   cases hr : Region.ready .any L.toArray done with
   | nil => rfl
   | cons i r =>
    have hm : i ∈ Region.ready .any L.toArray done := by rw [hr]; exact List.mem_cons_self ..
    obtain ⟨hun, o, ho, _⟩ := mem_ready.1 hm
    have hi : i < L.length := by simpa using (Array.getElem?_eq_some_iff.1 ho).1
    have := (hdone i hi).2 (by omega)
    rw [gJ (by omega)] at hun
    rw [hun] at this; cases this
  cases fuel with
  | zero => exact ⟨hr, h⟩
  | succ f => exact ⟨fun _ => h, fun i hi => by rw [hr] at hi; cases hi⟩
 | cons o rest ih =>
  intro m done fuel a w hnm hdrop hsz hdone hu h
  have hm : m < L.length := by
   rcases Nat.lt_or_ge m L.length with h' | h'
   ·exact h'
   ·rw [List.drop_eq_nil_iff.2 h'] at hdrop; cases hdrop
  have hLm : L[m]? = some o := by
   have := List.getElem?_drop (xs := L) (i := m) (j := 0)
   rw [hdrop] at this
   simpa using this.symm
  have hmu : done.getD m true = false := by
   have hnot : ¬ (done.getD m false = true) := fun h2 => by have := (hdone m hm).1 h2; omega
   rw [gJ (by omega)]
   exact Bool.not_eq_true _ ▸ hnot
  have honly : ∀ i ∈ Region.ready .any L.toArray done, i = m := by
   intro i hi
   obtain ⟨hun, p, hp, hwait⟩ := mem_ready.1 hi
   have hp' : L[i]? = some p := by simpa using hp
   have hil : i < L.length := (List.getElem?_eq_some_iff.1 hp').1
   have hid : ¬ i < m := fun hlt => by
    have h2 := (hdone i hil).2 hlt
    rw [gJ (by omega)] at hun
    rw [hun] at h2; cases h2
   rcases Nat.lt_or_ge m i with hlt | hge
   ·exfalso
    have hcov := hc i p (by omega) hp'
    unfold coverB at hcov
    have hre := List.all_eq_true.1 hcov m (by simpa using hlt)
    have : done.getD m false = true := by
     refine dA (L := L) (done := done) (fun j q hj hjd e he hb => ?_) _ i m (fun q hq e he hb => ?_) hre
     ·have hjl : j < L.length := (List.getElem?_eq_some_iff.1 hj).1
      have hjm := (hdone j hjl).1 hjd
      have := hedge j q hj
      unfold cV at this
      have := List.all_eq_true.1 this e (by simpa using he)
      simp only [hb, Bool.not_true, Bool.false_or, Nat.blt_eq] at this
      exact (hdone e.on (by omega)).2 (by omega)
     ·have : q = p := by rw [hp'] at hq; simpa using hq.symm
      subst this
      exact hwait e he hb
    have := (hdone m hm).1 this
    omega
   ·omega
  have hready : m ∈ Region.ready .any L.toArray done := by
   rw [mem_ready]
   refine ⟨hmu, o, by simpa using hLm, fun e he hb => ?_⟩
   have := hedge m o hLm
   unfold cV at this
   have := List.all_eq_true.1 this e (by simpa using he)
   simp only [hb, Bool.not_true, Bool.false_or, Nat.blt_eq] at this
   exact (hdone e.on (by omega)).2 this
  cases fuel with
  | zero =>
   have := undone_zero hu (i := m) (by omega)
   have := (hdone m hm).1 this
   omega
  | succ fuel =>
   refine ⟨fun hr => (by rw [hr] at hready; cases hready), fun i hi => ?_⟩
   have := honly i hi
   subst this
   have hnext := fun a w => ih (i + 1) (done.setIfInBounds i true) fuel a w (by omega) (by rw [← List.drop_drop, hdrop]; rfl) (by simpa using hsz) (fun j hj => by
    by_cases hij : i = j
    ·subst hij; have : i < done.size := by omega
     simp [this]
    ·rw [getD_set_ne false hij, hdone j hj]; omega) (by have := iQ hmu; omega)
   unfold wpOpIn
   have hLm' : L.toArray[i]? = some o := by simpa using hLm
   rw [hLm']
   show if _ then _ else _
   unfold wpListIn at h
   by_cases hw : Region.wanted o (yielded L.toArray a.tmps) = true
   ·rw [if_pos hw] at h ⊢; exact Oper.wpIn_mono (fun a w hk => hnext a w hk) h
   ·rw [if_neg hw] at h ⊢; exact ⟨h.1, hnext _ _ h.2⟩
theorem wpAny_drawT {E : En} {O : List OE} {G : Ctx} {l t : List Oper} {ts : List Ty} {Q : Exit → Act → World → Prop} (hsl : j8 E.N.n [] l = true) (hlen : ts.length = l.length) (hd : DR E O G (l ++ t) ts 0 l) (ht : tailB (l ++ t) l.length t.length = true)
  (hQ : ∀ a w S, St E O (outG l ts G) a w S → wpListIn (fw E.r) 0 E.P (l ++ t).toArray Q t a w) :
  ∀ (fuel : Nat) (done : Array Bool) (a : Act) (w : World) (S : SH), eA done = fuel → (∀ j, l.length ≤ j → done.getD j false = false) → DJ E O G (l ++ t) ts done a w S → wpAnyIn (fw E.r) 0 E.P .any (l ++ t).toArray Q fuel done a w := by
 have hL1 : ∀ i o, i < l.length → (l ++ t)[i]? = some o → l[i]? = some o := fun i o hi h => by rwa [List.getElem?_append_left hi] at h
 have hL2 : ∀ i o, l[i]? = some o → (l ++ t)[i]? = some o := fun i o h => by rw [List.getElem?_append_left (List.getElem?_eq_some_iff.1 h).1]; exact h
 have htail : ∀ m o, l.length ≤ m → (l ++ t)[m]? = some o → coverB (l ++ t) m = true ∧ cV m o = true := fun m o hm ho => by
  have hml : m < (l ++ t).length := (List.getElem?_eq_some_iff.1 ho).1
  rw [List.length_append] at hml
  unfold tailB at ht
  have := List.all_eq_true.1 ht (m - l.length) (by simp; omega)
  rw [show l.length + (m - l.length) = m from by omega, ho] at this
  simp only [Bool.and_eq_true] at this
  exact ⟨this.1, this.2.1⟩
 have hedge : ∀ i o, (l ++ t)[i]? = some o → cV i o = true := fun i o hi => by
  rcases Nat.lt_or_ge i l.length with h | h
  ·obtain ⟨_, _, _, _, _, h, _⟩ := DR.get l 0 hd i o (hL1 i o h hi)
   simpa using h
  ·exact (htail i o h hi).2
 obtain ⟨hs1, hs2⟩ := slotsB_spec l [] hsl
 have fin : ∀ fuel done a w S, eA done = fuel → (∀ j, l.length ≤ j → done.getD j false = false) → DJ E O G (l ++ t) ts done a w S → (∀ i, i < l.length → done.getD i false = true) → wpAnyIn (fw E.r) 0 E.P .any (l ++ t).toArray Q fuel done a w := by
  intro fuel done a w S hu hfree h hall
  refine wpAny_tail (n := l.length) (fun m o hm ho => (htail m o hm ho).1) hedge t l.length done fuel a w (Nat.le_refl _) (by simp) h.dsz (fun j hj => ⟨fun hjd => ?_, fun hlt => hall j hlt⟩) hu
   (hQ a w S ⟨h.ext, h.sat, h.own, h.size, h.defers, fun j u hj => ?_⟩)
  ·rcases Nat.lt_or_ge j l.length with h' | h'
   ·exact h'
   ·rw [hfree j h'] at hjd; cases hjd
  ·rcases look_outG l ts j u (fun o ho e => by obtain ⟨d, hd, _⟩ := hs1 o ho; rw [hd] at e; cases e) hlen hj with ⟨i, o, h1, h2, h3⟩ | ⟨h1, h2⟩
   ·exact h.new i o j u (hL2 i o h1) (hall i (List.getElem?_eq_some_iff.1 h1).1) h2 h3
   ·refine h.old j u h1 fun i o ho hdn => ?_
    rcases Nat.lt_or_ge i l.length with h' | h'
    ·exact h2 o (List.mem_of_getElem? (hL1 i o h' ho))
    ·rw [hfree i h'] at hdn; cases hdn
 have lower : ∀ done a w S i, (∀ j, l.length ≤ j → done.getD j false = false) → DJ E O G (l ++ t) ts done a w S → i ∈ Region.ready .any (l ++ t).toArray done → l.length ≤ i → ∀ j, j < l.length → done.getD j false = true := by
  intro done a w S i hfree h hi hge j hj
  obtain ⟨hun, p, hp, hwait⟩ := mem_ready.1 hi
  have hp' : (l ++ t)[i]? = some p := by simpa using hp
  have hcov := (htail i p hge hp').1
  unfold coverB at hcov
  have hre := List.all_eq_true.1 hcov j (by simp; omega)
  exact dA h.down _ i j (fun q hq e he hb => by
   have : q = p := by rw [hp'] at hq; simpa using hq.symm
   subst this
   exact hwait e he hb) hre
 intro fuel
 induction fuel with
 | zero =>
  intro done a w S hu hfree h
  exact fin 0 done a w S hu hfree h fun i hi => undone_zero hu (by rw [h.dsz, List.length_append]; omega)
 | succ fuel ih =>
  intro done a w S hu hfree h
  by_cases hall : ∀ i, i < l.length → done.getD i false = true
  ·exact fin _ done a w S hu hfree h hall
  have hready0 : ∀ m i, i < m → i < l.length → Region.ready .any (l ++ t).toArray done = [] → done.getD i false = true := by
   intro m
   induction m with
   | zero => intro i h; omega
   | succ m ihm =>
    intro i him hil hr
    have his : i < done.size := by rw [h.dsz, List.length_append]; omega
    by_cases hdn : done.getD i true = true
    ·rw [← gJ his]; exact hdn
    ·exfalso
     obtain ⟨o, ho⟩ : ∃ o, (l ++ t)[i]? = some o := ⟨l[i], hL2 i _ (List.getElem?_eq_getElem hil)⟩
     have hmem : i ∈ Region.ready .any (l ++ t).toArray done := by
      rw [mem_ready]
      refine ⟨by simpa using hdn, o, by simpa using ho, fun e he hb => ?_⟩
      have := hedge i o ho
      unfold cV at this
      have := List.all_eq_true.1 this e (by simpa using he)
      simp only [hb, Bool.not_true, Bool.false_or, Nat.blt_eq] at this
      exact ihm e.on (by omega) (by omega) hr
     rw [hr] at hmem; cases hmem
  refine ⟨fun hr => absurd (fun i hi => hready0 (i + 1) i (by omega) hi hr) hall, fun i hi => ?_⟩
  have hil : i < l.length := by
   rcases Nat.lt_or_ge i l.length with h' | h'
   ·exact h'
   ·exact absurd (lower done a w S i hfree h hi h') hall
  obtain ⟨hun, o, ho, hwait⟩ := mem_ready.1 hi
  have ho' : (l ++ t)[i]? = some o := by simpa using ho
  have hol := hL1 i o hil ho'
  obtain ⟨needs, u, h1, h2, h3, _, h5⟩ := DR.get l 0 hd i o hol
  rw [Nat.zero_add] at h1 h3
  have hF := h.need ho' hun hwait h2 h3
  have h6 := h5 a w S h.sat h.own hF
  have hu' : eA (done.setIfInBounds i true) = fuel := by have := iQ hun; omega
  obtain ⟨d, hdd, hdN, _⟩ := hs1 o (List.mem_of_getElem? hol)
  have huq : ∀ j p, (l ++ t)[j]? = some p → done.getD j false = true → p.dst = some d → i = j := fun j p hj hjd hpd => by
   rcases Nat.lt_or_ge j l.length with h' | h'
   ·exact hs2 i j o p hol (hL1 j p h' hj) (by rw [hdd, hpd])
   ·rw [hfree j h'] at hjd; cases hjd
  have hfree' : ∀ j, l.length ≤ j → (done.setIfInBounds i true).getD j false = false := fun j hj => by
   rw [getD_set_ne false (by omega)]; exact hfree j hj
  unfold wpOpIn
  rw [ho]
  show if _ then _ else _
  by_cases hw : Region.wanted o (yielded (l ++ t).toArray a.tmps) = true
  ·rw [if_pos hw] at h6 ⊢
   refine eX (fun a' w' ⟨v, S', ha, he, hs, hv⟩ => ?_) h6
   subst ha
   exact ih _ _ _ S' hu' hfree' (h.stepT ho' hdd hdN huq hwait h1 hun he hs hv)
  ·rw [if_neg hw] at h6 ⊢
   exact ⟨fun _ _ => trivial, ih _ _ _ S hu' hfree' (h.stepT ho' hdd hdN huq hwait h1 hun (Ext.refl _ _ _) h.sat h6)⟩
theorem CG.drawT {E : En} {O : List OE} {G : Ctx} {Q : Exit → Act → World → Prop} {id : Nat} {l t L : List Oper} {ts : List Ty} (hL : L = l ++ t) (hm : E.P.follows .mixedOrders = true) (hsl : j8 E.N.n [] l = true) (hlen : ts.length = l.length) (ht : tailB L l.length t.length = true) (hd : DR E O G L ts 0 l)
  (k : RG E L.toArray Q t O (outG l ts G)) : CG E Q (.region id L.toArray true) O G := fun a w S st => by
 subst hL
 refine wpIn_region_any hm ?_
 obtain ⟨he, hs⟩ := Ext.draw (w := w) st.sat
 refine wpAny_drawT hsl hlen hd ht (fun a w S st => k a w S st) _ _ _ _ S ?_ (fun j _ => ?_)
  ⟨st.ext.step0 he, hs, st.own.ext0 he, st.facts.size, st.facts.defers, by simp, fun j o hj hdone => ?_, fun k t hk _ => st.facts.at_ k t hk, fun j o d t hj hdone => ?_⟩
 ·unfold eA; rw [Array.toList_replicate, List.countP_replicate]; simp
 ·simp [Array.getElem?_replicate]; split <;> rfl
 ·simp [Array.getElem?_replicate] at hdone
  split at hdone <;> simp at hdone
 ·simp [Array.getElem?_replicate] at hdone
  split at hdone <;> simp at hdone
end Go.Proofs.YtegigakgcnhiaaaGreatDoor

namespace Go.Proofs.YtegigakgcnhiaaaGreatDoor
open Go

abbrev It (α : Type) := (σ : Type) → (α → σ → Option (Bool × σ)) → σ → Option σ

def gA (Se : SH) (O : List OE) : OE where
 fp := fun k => ∃ f ∈ O, f.fp k
 p := fun w S => gy Se S ∧ Own 0 noB w S O
 here := fun ⟨_, h⟩ _ ⟨f, hf, hk⟩ => f.here (Own.mem h f hf).1 _ hk
 kept := fun ⟨h1, h2⟩ k hC => ⟨SH.le_trans h1 k.keep, h2.ext k fun f hf b hb => hC b ⟨f, hf, hb⟩⟩
theorem Own.weak {base : Nat} {B : Nat → Prop} {w : World} {S : SH} : ∀ {O : List OE}, Own base B w S O → Own 0 noB w S O
 | [], _ => trivial
 | _ :: _, ⟨h1, h2, h3⟩ => ⟨⟨h1.1, fun _ _ => .inl (Nat.zero_le _)⟩, h2, Own.weak h3⟩
theorem dv {base : Nat} {B : Nat → Prop} {w : World} {S : SH} : ∀ {O : List OE}, Own 0 noB w S O → (∀ f ∈ O, ∀ k, f.fp k → base ≤ k ∨ B k) → Own base B w S O
 | [], _, _ => trivial
 | _ :: _, ⟨h1, h2, h3⟩, h => ⟨⟨h1.1, h _ (List.mem_cons_self ..)⟩, h2, dv h3 fun f hf => h f (List.mem_cons_of_mem _ hf)⟩
def ko (l : Nat) (r : Loop) (st : LoopState) : OE where
 fp := fun k => k = l
 p := fun w S => S l = none ∧ w.heap[l]? = some (.loop { r with state := st, pending := none })
 here := by
  intro w S h k hk
  subst hk
  exact (Array.getElem?_eq_some_iff.1 h.2).1
 kept := by
  intro C w w' S S' h k hC
  have hlt := (Array.getElem?_eq_some_iff.1 h.2).1
  exact ⟨by rw [k.old l hlt (hC l rfl)]; exact h.1, by rw [k.heap l hlt (hC l rfl)]; exact h.2⟩
def dfb (b : Nat) : OE where
 fp := fun k => k = b
 p := fun w S => S b = none ∧ w.heap[b]? = some (.deferred (some []))
 here := by
  intro w S h k hk
  subst hk
  exact (Array.getElem?_eq_some_iff.1 h.2).1
 kept := by
  intro C w w' S S' h k hC
  have hlt := (Array.getElem?_eq_some_iff.1 h.2).1
  exact ⟨by rw [k.old b hlt (hC b rfl)]; exact h.1, by rw [k.heap b hlt (hC b rfl)]; exact h.2⟩
def markD (b : Nat) : Deferred := { target := .collected b, args := #[] }

def Yld (P : Program) {α σ : Type} (args : α → List Ty) (y : α → σ → Option (Bool × σ)) (I : σ → OE → Prop) (yv : Value) : Prop :=
 ∃ l, yv = .func (.yield l) #[] #[] ∧ ∀ x s r, y x s = some r → ∀ e, I s e → ∀ w S vs, Sat w S → e.p w S → Tys S (args x) vs →
  ∃ f tmps assign body, (Instr.yield l vs.toArray).run P w = .ok (.round l f tmps assign body) w ∧
   RoundIn (fw none) 0 P l f tmps assign body w fun en w' => ∃ e' S', en = .returned (.bool r.1) ∧ I r.2 e' ∧ Ext e.fp w S w' S' ∧ Sat w' S' ∧ e'.p w' S' ∧ ∀ k, e'.fp k → e.fp k ∨ w.heap.size ≤ k
def ItCall (P : Program) {α : Type} (args : α → List Ty) (it : It α) (fid : FuncId) (cap : Array Value) (fp : Nat → Prop) (w : World) (S : SH) : Prop :=
 ∀ (σ : Type) (y : α → σ → Option (Bool × σ)) (s s' : σ), it σ y s = some s' → ∀ I yv, Yld P args y I yv → ∀ e, I s e → e.p w S → (∀ k, e.fp k → ¬ fp k) →
  Calls P fid (#[yv] ++ cap) w fun en w' => ∃ e' S', (∃ v, en = .returned v) ∧ I s' e' ∧ Ext (fun k => e.fp k ∨ fp k) w S w' S' ∧ Sat w' S' ∧ e'.p w' S' ∧ ∀ k, e'.fp k → e.fp k ∨ w.heap.size ≤ k
def itr (P : Program) {α : Type} (args : α → List Ty) (it : It α) (v : Value) (fp : Nat → Prop) : OE where
 fp := fp
 p := fun w S => (∀ k, fp k → k < w.heap.size) ∧ ∃ fid cap, v = .func (.func fid) #[] cap ∧ an P fid = true ∧
  ∀ C w' S', Ext C w S w' S' → (∀ k, fp k → ¬ C k) → Sat w' S' → ItCall P args it fid cap fp w' S'
 here := fun h k hk => h.1 k hk
 kept := by
  rintro C w w' S S' ⟨h1, fid, cap, h2, h3, h4⟩ k hC
  refine ⟨fun b hb => Nat.lt_of_lt_of_le (h1 b hb) k.size, fid, cap, h2, h3, fun C' w'' S'' k' hC' hs => ?_⟩;exact h4 (fun b => C b ∨ C' b) w'' S'' ((k.more fun b hb => .inl hb).trans (k'.more fun b hb => .inr hb)) (fun b hb h => h.elim (hC b hb) (hC' b hb)) hs

def ItSpec (P : Program) (fid : FuncId) {α : Type} (args : α → List Ty) (it : It α) (O : List OE) (cts : List Ty) : Prop :=
 ∀ w S cap, Sat w S → Own 0 noB w S O → Tys S cts cap → ItCall P args it fid cap.toArray (fun k => ∃ f ∈ O, f.fp k) w S
def endI (E : En) {σ : Type} (I : σ → OE → Prop) (s : σ) (e0 : OE) : Ending → World → Prop := fun en w' => ∃ e' S', (∃ v, en = .returned v) ∧ I s e' ∧ Ext E.B E.w0 E.S0 w' S' ∧ Sat w' S' ∧ e'.p w' S' ∧ ∀ k, e'.fp k → e0.fp k ∨ E.w0.heap.size ≤ k
theorem ItSpec.of {P : Program} {f : FuncId} {fn : Func} {c : Code} {N : Nat} {α : Type} {args : α → List Ty} {it : It α} {O : List OE} {cts : List Ty} (hf : P.funcs[f]? = some fn) (hb : fn.body = some c) (hN : fn.ntmps = N) (hn : Nat.ble (cts.length + 1) N = true)
    (h : ∀ (σ : Type) (y : α → σ → Option (Bool × σ)) (s s' : σ), it σ y s = some s' → ∀ I yv, Yld P args y I yv → ∀ e, I s e → ∀ w0 S0 B, (∀ k, B k → e.fp k ∨ ∃ f ∈ O, f.fp k) →
      CG ⟨P, ⟨N, []⟩, B, w0, S0, none⟩ (bodyPost P fn (endI ⟨P, ⟨N, []⟩, B, w0, S0, none⟩ I s' e)) c (e :: O) (jr 0 (tV yv :: cts))) : ItSpec P f args it O cts := by
  subst hN
  intro w S cap hs ho hc σ y s s' hit I yv hy e he hep hap
  have hown : Own w.heap.size (fun k => e.fp k ∨ ∃ f ∈ O, f.fp k) w S (e :: O) :=
    ⟨⟨hep, fun k hk => .inr (.inl hk)⟩, fun f hf b hb hfb => hap b hb ⟨f, hf, hfb⟩, dv ho fun f hf k hk => .inr (.inr ⟨f, hf, hk⟩)⟩
  have hfacts := eS (S := S) (ts := tV yv :: cts) (vs := yv :: cap) ⟨rfl, hc⟩ fn.ntmps (by simpa using Nat.le_of_ble_eq_true hn)
  have := dm.1 (callsIn_of_wp (F := fw none) (n := 0) hf hb trivial (h σ y s s' hit I yv hy e he w S (fun k => e.fp k ∨ ∃ f ∈ O, f.fp k) (fun _ h => h) _ w S ⟨Ext.refl _ _ _, hs, hown, hfacts⟩))
  rw [show (#[yv] ++ cap.toArray : Array Value) = (yv :: cap).toArray from by simp]
  exact this.mono fun en w' ⟨e', S', h1, h2, h3, h4, h5, h6⟩ => ⟨e', S', h1, h2, h3, h4, h5, h6⟩
section
variable {E : En} {O : List OE} {G : Ctx} {Q : Exit → Act → World → Prop} {ops : Array Oper} {rest : List Oper} {d : Nat} {ty : TypeId} {pos : String} {after : Array Edge}
theorem own_turn {base : Nat} {B : Nat → Prop} {w w' : World} {S S' : SH} {e e' : OE} {O : List OE} (h : Own base B w S (e :: O)) (k : Ext e.fp w S w' S') (hp : e'.p w' S') (hn : ∀ b, e'.fp b → e.fp b ∨ w.heap.size ≤ b) (hb : base ≤ w.heap.size) : Own base B w' S' (e' :: O) :=
 ⟨⟨hp, fun b hb' => (hn b hb').elim (fun h2 => h.1.2 b h2) (fun h2 => .inl (by omega))⟩, fun f hf b hb' hfb => (hn b hb').elim (fun h2 => h.2.1 f hf b h2 hfb) (fun h2 => by
  have := f.here (Own.mem h.2.2 f hf).1 b hfb
  omega), h.2.2.ext k fun f hf b hb' h2 => h.2.1 f hf b h2 hb'⟩
theorem RG.yield {α σ : Type} {args : α → List Ty} {y : α → σ → Option (Bool × σ)} {I : σ → OE → Prop} {yv : Value} {x : α} {s : σ} {r : Bool × σ} {e : OE} {fo : Operand} {xs : List Operand} {ats : Array TypeId} (hy : Yld E.P args y I yv) (he : I s e) (hq : y x s = some r) (hf : aA E.N G fo (tV yv)) (hx : HasTys E.N G xs (args x)) (hd : Nat.blt d E.N.n = true)
  (k : ∀ e', I r.2 e' → RG E ops Q rest (e' :: O) ((d, tD rB r.1) :: G)) : RG E ops Q (⟨some d, .call ⟨.value fo, xs.toArray, ats⟩, ty, pos, after, none⟩ :: rest) (e :: O) G := .of rfl fun a w S st => by
 obtain ⟨l, rfl, hyl⟩ := hy
 have h1 : a.eval fo = .func (.yield l) #[] #[] := hf S a st.facts
 obtain ⟨f, tmps, assign, body, h2, h3⟩ := hyl x s r hq e he w S _ st.sat st.own.1.1 (hx.tys st.facts)
 have hr : (execOp a.eval ⟨some d, .call ⟨.value fo, xs.toArray, ats⟩, ty, pos, after, none⟩).run E.P w = .ok (.round l f tmps assign body) w := by
  simp [execOp, resolve, h1, Deferred.ofValue, invoke]
  simpa using h2
 refine ⟨fun c h => (by cases h), ?_⟩
 rw [hr]
 refine h3.mono fun en w' ⟨e', S', h4, h5, h6, h7, h8, h9⟩ => ⟨_, h4, ?_⟩;exact k e' h5 _ _ S' ⟨st.ext.step h6 (fun b hb => st.own.1.2 b hb), h7, own_turn st.own h6 h8 h9 st.base_le, (st.facts.mono h6.keep).put hd (db.2 rfl)⟩
end
def fpsub : List OE → List OE → Prop
 | [], _ => True
 | f :: O, g :: O' => (∀ k, f.fp k → g.fp k) ∧ fpsub O O'
 | _ :: _, [] => False
theorem fpsub.mem : ∀ {O O' : List OE}, fpsub O O' → ∀ k, (∃ f ∈ O, f.fp k) → ∃ f ∈ O', f.fp k
 | f :: O, g :: O', ⟨h1, h2⟩, k, ⟨q, hq, hk⟩ => by
  rcases List.mem_cons.1 hq with e | e
  ·subst e; exact ⟨g, List.mem_cons_self .., h1 k hk⟩
  ·obtain ⟨q', h3, h4⟩ := fpsub.mem h2 k ⟨q, e, hk⟩
   exact ⟨q', List.mem_cons_of_mem _ h3, h4⟩
theorem AT.retI {P : Program} {N : Nat} {B : Nat → Prop} {w0 : World} {S0 : SH} {fn : Func} {σ : Type} {I : σ → OE → Prop} {s : σ} {e0 e : OE} {O0 O : List OE} {G : Ctx} (hr : fn.results = #[]) (he : I s e) (hB : ∀ k, B k → e0.fp k ∨ ∃ f ∈ O0, f.fp k) (hO : fpsub O0 O) :
  AT ⟨P, ⟨N, []⟩, B, w0, S0, none⟩ (bodyPost P fn (endI ⟨P, ⟨N, []⟩, B, w0, S0, none⟩ I s e0)) .ret (e :: O) G := fun _ _ S st =>
 ⟨st.facts.defers, _, jH P fn hr _ _, e, S, ⟨_, rfl⟩, he, st.ext, st.sat, st.own.1.1, fun k hk => (st.own.1.2 k hk).elim .inr fun hb => (hB k hb).elim .inl fun hx => let ⟨f, hf, hfk⟩ := hO.mem k hx; absurd hfk (st.own.2.1 f hf k hk)⟩
theorem AT.normI {P : Program} {N : Nat} {B : Nat → Prop} {w0 : World} {S0 : SH} {fn : Func} {σ : Type} {I : σ → OE → Prop} {s : σ} {e0 e : OE} {O0 O : List OE} {G : Ctx} (hr : fn.results = #[]) (he : I s e) (hB : ∀ k, B k → e0.fp k ∨ ∃ f ∈ O0, f.fp k) (hO : fpsub O0 O) :
  AT ⟨P, ⟨N, []⟩, B, w0, S0, none⟩ (bodyPost P fn (endI ⟨P, ⟨N, []⟩, B, w0, S0, none⟩ I s e0)) .normal (e :: O) G := fun a w S st => AT.retI hr he hB hO a w S st
end Go.Proofs.YtegigakgcnhiaaaGreatDoor

namespace Go.Proofs.YtegigakgcnhiaaaGreatDoor
open Go

theorem gQ {base : Nat} {B : Nat → Prop} {w : World} {S : SH} : ∀ {O1 O2 : List OE}, Own base B w S (O1 ++ O2) → Own base B w S O1 ∧ Own base B w S O2 ∧ ∀ e ∈ O1, ∀ f ∈ O2, e.apart f
 | [], _, h => ⟨trivial, h, fun _ h => (by cases h)⟩
 | e :: O1, O2, ⟨h1, h2, h3⟩ => by
  obtain ⟨k1, k2, k3⟩ := gQ h3
  refine ⟨⟨h1, fun f hf => h2 f (List.mem_append_left _ hf), k1⟩, k2, fun g hg f hf => ?_⟩
  rcases List.mem_cons.1 hg with rfl | hg
  ·exact h2 f (List.mem_append_right _ hf)
  ·exact k3 g hg f hf
theorem Own.cons {base : Nat} {B : Nat → Prop} {w : World} {S : SH} {e : OE} {O : List OE} (h1 : e.holds base B w S) (h2 : ∀ f ∈ O, e.apart f) (h3 : Own base B w S O) : Own base B w S (e :: O) := ⟨h1, h2, h3⟩

def SpecIt (P : Program) (f : FuncId) (ts : List Ty) {α : Type} (args : α → List Ty) (it : It α) : Prop :=
 ∀ w S vs, Sat w S → Tys S ts vs → Calls P f vs.toArray w fun e w' => ∃ v fp S', e = .returned v ∧ Ext noB w S w' S' ∧ Sat w' S' ∧ (itr P args it v fp).holds w.heap.size noB w' S'
def endIt (E : En) {α : Type} (args : α → List Ty) (it : It α) : Ending → World → Prop := fun e w' => ∃ v fp S', e = .returned v ∧ Ext E.B E.w0 E.S0 w' S' ∧ Sat w' S' ∧ (itr E.P args it v fp).holds E.w0.heap.size E.B w' S'
theorem SpecIt.of {P : Program} {f : FuncId} {fn : Func} {c : Code} {ts : List Ty} {N : Nat} {α : Type} {args : α → List Ty} {it : It α} (hf : P.funcs[f]? = some fn) (hb : fn.body = some c) (hN : fn.ntmps = N) (hn : Nat.ble ts.length N = true)
  (h : ∀ w0 S0, CG ⟨P, ⟨N, []⟩, noB, w0, S0, none⟩ (bodyPost P fn (endIt ⟨P, ⟨N, []⟩, noB, w0, S0, none⟩ args it)) c [] (jr 0 ts)) : SpecIt P f ts args it := by
 subst hN
 intro w S vs hs hv
 exact dm.1 (callsIn_of_wp (F := fw none) (n := 0) hf hb trivial (h w S _ w S ⟨Ext.refl _ _ _, hs, trivial, eS hv _ (Nat.le_of_ble_eq_true hn)⟩))
section
variable {E : En} {O : List OE} {G : Ctx} {Q : Exit → Act → World → Prop} {ops : Array Oper} {rest : List Oper}
theorem AT.retIt {P : Program} {N : Nat} {B : Nat → Prop} {w0 : World} {S0 : SH} {fn : Func} {k : Nat} {α : Type} {args : α → List Ty} {it : It α} {v : Value} {fp : Nat → Prop} (hr : fn.results = #[.tmp k]) (hk : look G k = some (tV v)) :
  AT ⟨P, ⟨N, []⟩, B, w0, S0, none⟩ (bodyPost P fn (endIt ⟨P, ⟨N, []⟩, B, w0, S0, none⟩ args it)) .ret (itr P args it v fp :: O) G := fun a w S st => by
 have hv : a.tmps.getD k undef = v := st.facts.at_ k _ hk
 exact ⟨st.facts.defers, _, fI P fn k hr _ _, v, fp, S, by rw [hv], st.ext, st.sat, st.own.1⟩
section
variable {d : Nat} {ty : TypeId} {pos : String} {after : Array Edge}
theorem RG.callIt {f : FuncId} {xs : List Operand} {ats : Array TypeId} {ts : List Ty} {α : Type} {args : α → List Ty} {it : It α} (hc : an E.P f = true) (hs : SpecIt E.P f ts args it) (hx : HasTys E.N G xs ts) (hd : Nat.blt d E.N.n = true)
  (k : ∀ v fp, RG E ops Q rest (itr E.P args it v fp :: O) ((d, tV v) :: G)) :
  RG E ops Q (⟨some d, .call ⟨.value (.func f), xs.toArray, ats⟩, ty, pos, after, none⟩ :: rest) O G := .of rfl fun a w S st => by
 have hr : (execOp a.eval ⟨some d, .call ⟨.value (.func f), xs.toArray, ats⟩, ty, pos, after, none⟩).run E.P w = .ok (.enter f (xs.map a.eval).toArray) w := by
  simp [execOp, resolve, Act.eval, Deferred.ofValue, invoke, cl hc]
 refine ⟨fun c h => (by cases h), ?_⟩
 rw [hr]
 refine (hs w S _ st.sat (hx.tys st.facts)).mono fun e w' ⟨v, fp, S', he, h1, h2, h3⟩ => ⟨_, he, ?_⟩;exact k v fp _ _ S' ⟨st.ext.step0 h1, h2, iC st.own h1 h3.1 (fun b hb => (h3.2 b hb).resolve_right id) st.base_le, (st.facts.mono h1.keep).put hd rfl⟩
theorem RG.makeIter {fid : FuncId} {O1 O2 : List OE} {α : Type} {args : α → List Ty} {it : It α} {cts : List Ty} {caps : List Operand} (hO : O = O1 ++ O2) (hc : an E.P fid = true) (hs : ItSpec E.P fid args it O1 cts) (hcap : HasTys E.N G caps cts) (hd : Nat.blt d E.N.n = true)
  (k : ∀ v fp, RG E ops Q rest (itr E.P args it v fp :: O2) ((d, tV v) :: G)) :
  RG E ops Q (⟨some d, .makeFunc (.func fid) #[] caps.toArray, ty, pos, after, none⟩ :: rest) O G := .of rfl fun a w S st => by
 subst hO
 have hr : (execOp a.eval ⟨some d, .makeFunc (.func fid) #[] caps.toArray, ty, pos, after, none⟩).run E.P w = .ok (.value (.func (.func fid) #[] (caps.map a.eval).toArray)) w := by simp [execOp, Instr.makeFunc]
 refine ⟨fun c h => (by cases h), ?_⟩
 rw [hr]
 obtain ⟨h1, h2, h3⟩ := gQ st.own
 have hcv := hcap.tys st.facts
 refine k (.func (.func fid) #[] (caps.map a.eval).toArray) (fun k => ∃ f ∈ O1, f.fp k) _ _ S ⟨st.ext, st.sat, ?_, st.facts.put hd rfl⟩;refine Own.cons ⟨⟨fun b ⟨f, hf, hb⟩ => f.here (Own.mem h1 f hf).1 b hb, fid, _, rfl, hc, fun C w' S' he hC hs' => ?_⟩, fun b ⟨f, hf, hb⟩ => (Own.mem h1 f hf).2 b hb⟩ (fun f hf b ⟨g, hg, hb⟩ => h3 g hg f hf b hb) h2;exact hs w' S' _ hs' (h1.weak.ext he fun f hf b hb => hC b ⟨f, hf, hb⟩) (hcv.mono he.keep)
end
end

def putsG : List Nat → List Ty → Ctx → Ctx
 | d :: ds, t :: ts, G => putsG ds ts ((d, t) :: G)
 | _, _, G => G
theorem facts_puts {N : Fr} {S : SH} : ∀ (ds : List Nat) (ts : List Ty) (vs : List Value) (a : Act) (G : Ctx), ds.length = ts.length → Tys S ts vs → (ds.all fun d => Nat.blt d N.n) = true → Facts N S a G →
  Facts N S { tmps := (ds.zip vs).foldl (fun t (p : Nat × Value) => t.setIfInBounds p.1 p.2) a.tmps, defers := a.defers } (putsG ds ts G)
 | [], _, _, _, _, hl, _, _, hF => by
  cases List.eq_nil_of_length_eq_zero hl.symm
  simpa [putsG] using hF
 | d :: ds, [], _, _, _, hl, _, _, _ => by simp at hl
 | d :: ds, t :: ts, [], _, _, _, hv, _, _ => hv.elim
 | d :: ds, t :: ts, v :: vs, a, G, hl, ⟨h1, h2⟩, hd, hF => by
  simp only [List.all_cons, Bool.and_eq_true] at hd
  have := facts_puts ds ts vs (a.put (some d) v) ((d, t) :: G) (by simpa using hl) h2 hd.2 (hF.put hd.1 h1)
  simpa [putsG, Act.put] using this
def rndR (E : En) (l : Nat) (rec : Loop) {σ ι : Type} (Oi : ι → List OE) (dat : ι → σ) (s2 : σ) : Ending → World → Prop := fun en w' =>
 ∃ i S', en = .returned (.bool true) ∧ dat i = s2 ∧ Ext E.B E.w0 E.S0 w' S' ∧ Sat w' S' ∧ Own E.base E.B w' S' (ko l rec .ready :: Oi i)
def begQ (E : En) (l : Nat) (body : Code) (R : Ending → World → Prop) : Exit → Act → World → Prop :=
 Exit.then (fun a₁ w₁ => ∃ w₂, (Instr.beginRound l).run E.P w₁ = .ok () w₂ ∧ body.wpIn (fw E.r) 0 E.P (roundPost E.P l R) a₁ w₂) (fun _ _ _ => False)
section
variable {E : En} {O : List OE} {G : Ctx}
theorem own_rec {base : Nat} {B : Nat → Prop} {w : World} {S : SH} {l : Nat} {rec : Loop} {st st' : LoopState} {O : List OE} (h : Own base B w S (ko l rec st :: O)) (hs : Sat w S) :
  Ext (fun k => k = l) w S (w.putObj l (.loop { rec with state := st', pending := none })) S ∧ Sat (w.putObj l (.loop { rec with state := st', pending := none })) S ∧ Own base B (w.putObj l (.loop { rec with state := st', pending := none })) S (ko l rec st' :: O) := by
 obtain ⟨hno, hl⟩ := h.1.1
 have hlt := (Array.getElem?_eq_some_iff.1 hl).1
 have hext : Ext (fun k => k = l) w S (w.putObj l (.loop { rec with state := st', pending := none })) S := ⟨rfl, rfl, rfl, Nat.le_refl _, by simp, fun k _ hk => World.putObj_heap_other hk, SH.le_refl _, fun _ _ _ => rfl⟩
 refine ⟨hext, hs.same fun k o hk => ?_, ⟨⟨hno, World.putObj_heap_same hlt⟩, h.1.2⟩, h.2.1, h.2.2.ext hext fun g hg k hk hkl => h.2.1 g hg k hkl hk⟩
 have hne : k ≠ l := fun e => by subst e; rw [hno] at hk; cases hk
 exact World.putObj_heap_other hne
theorem AT.begin {l : Nat} {rec : Loop} {body : Code} {R : Ending → World → Prop} (h : CG E (roundPost E.P l R) body (ko l rec .busy :: O) G) : AT E (begQ E l body R) .normal (ko l rec .ready :: O) G := fun a w S st => by
 obtain ⟨h1, h2, h3⟩ := own_rec (st' := .busy) st.own st.sat
 obtain ⟨_, hl⟩ := st.own.1.1
 exact ⟨_, run_beginRound hl rfl, h a _ S ⟨st.ext.step h1 (fun c hc => st.own.1.2 c hc), h2, h3, st.facts⟩⟩
theorem AT.endRound {l : Nat} {rec : Loop} {σ ι : Type} {Oi : ι → List OE} {dat : ι → σ} {s2 : σ} (i : ι) (hi : dat i = s2) (hO : O = Oi i) : AT E (roundPost E.P l (rndR E l rec Oi dat s2)) .normal (ko l rec .busy :: O) G := fun a w S st => by
 subst hO
 obtain ⟨h1, h2, h3⟩ := own_rec (st' := .ready) st.own st.sat
 obtain ⟨_, hl⟩ := st.own.1.1
 exact ⟨_, _, run_endRound none hl, i, S, rfl, hi, st.ext.step h1 (fun c hc => st.own.1.2 c hc), h2, h3⟩
theorem foldl_zip_array {ps : Array Nat} {vs : List Value} {tmps : Array Value} : (ps.zip vs.toArray).foldl (fun t (p, v) => t.setIfInBounds p v) tmps = (ps.toList.zip vs).foldl (fun t (p : Nat × Value) => t.setIfInBounds p.1 p.2) tmps := by
 rw [← Array.foldl_toList]
 simp
def bodyY {α σ : Type} (f : α → σ → Option σ) : α → σ → Option (Bool × σ) := fun x s => (f x s).map fun s' => (true, s')
theorem CG.rangeF {Q : Exit → Act → World → Prop} {v : Value} {fp : Nat → Prop} {α : Type} {args : α → List Ty} {it : It α} {σ ι : Type} (Oi : ι → List OE) (dat : ι → σ) {f : α → σ → Option σ} {s' : σ} {g : Operand} {ps : List Nat} {assign body : Code} (hr : E.r = none)
    (hg : aA E.N G g (tV v)) (i0 : ι) (hO : O = itr E.P args it v fp :: Oi i0) (hit : it σ (bodyY f) (dat i0) = some s') (hps : ∀ x, ps.length = (args x).length) (hpn : (ps.all fun d => Nat.blt d E.N.n) = true)
    (hbody : ∀ (i : ι) (x : α) (s2 : σ), f x (dat i) = some s2 → ∀ (l : Nat) (rec : Loop) (w1 : World) (S1 : SH) (B1 : Nat → Prop),
      CG ⟨E.P, ⟨E.N.n, []⟩, B1, w1, S1, some l⟩ (begQ ⟨E.P, ⟨E.N.n, []⟩, B1, w1, S1, some l⟩ l body (rndR ⟨E.P, ⟨E.N.n, []⟩, B1, w1, S1, some l⟩ l rec Oi dat s2)) assign (ko l rec .ready :: Oi i) (putsG ps (args x) G))
    (k : ∀ i', dat i' = s' → ∀ b, AT ⟨E.P, ⟨E.N.n, markD b :: E.N.ds⟩, E.B, E.w0, E.S0, E.r⟩ Q .normal (dfb b :: Oi i') G) : CG E Q (.rangeFunc g ps.toArray assign body) O G := fun a w S st => by
  subst hO
  refine wpIn_rangeFunc fun fn _ => ?_
  have hr0 : (fw E.r).round = none := hr
  have hfw : fw E.r = fw none := by rw [hr]
  rw [hr0]
  obtain ⟨rec, hrec⟩ : ∃ rec : Loop, rec = { state := .ready, pending := none, fn, tmps := a.tmps, params := ps.toArray, assign, body, defers := w.heap.size } := ⟨_, rfl⟩
  obtain ⟨x1, x2, x3⟩ := bT (w := w) (.deferred (some [])) st.sat
  obtain ⟨y1, y2, y3⟩ := bT (w := w.alloc (.deferred (some []))) (.loop rec) x2
  obtain ⟨W1, hW1⟩ : ∃ W1, (w.alloc (.deferred (some []))).alloc (.loop rec) = W1 := ⟨_, rfl⟩
  rw [hW1] at y1 y2
  have hsz : (w.alloc (.deferred (some []))).heap.size = w.heap.size + 1 := by simp
  rw [hsz] at y3
  have hext : Ext noB w S W1 S := x1.trans y1
  have hL1 : W1.heap[w.heap.size + 1]? = some (.loop rec) := by
    rw [← hW1]; have := World.alloc_heap_new (w.alloc (.deferred (some []))) (.loop rec); rwa [hsz] at this
  have hK1 : W1.heap[w.heap.size]? = some (.deferred (some [])) := by
    rw [y1.heap w.heap.size (by omega) (fun h => h)]; exact World.alloc_heap_new w _
  have hW1s : W1.heap.size = w.heap.size + 2 := by rw [← hW1]; simp
  have hg' : a.eval g = v := hg S a st.facts
  obtain ⟨hit1, hap, hoi⟩ := st.own
  obtain ⟨⟨hfp, gf, cap, hv, hcal, hcall⟩, hbase⟩ := hit1
  have hbl := st.base_le
  have hoi1 : Own E.base E.B W1 S (Oi i0) := hoi.ext0 hext
  have hlt : ∀ f ∈ Oi i0, ∀ k, f.fp k → k < w.heap.size := fun f hf k hk => f.here (Own.mem hoi f hf).1 k hk
  refine ⟨w.heap.size + 1, [markD w.heap.size], W1, { target := .fn (.func gf) cap, args := #[.func (.yield (w.heap.size + 1)) #[] #[]] }, W1, gf,
    #[.func (.yield (w.heap.size + 1)) #[] #[]] ++ cap, W1, ?_, ?_, fun _ _ => trivial, ?_, fun h => (by cases h), ?_⟩
  · rw [← hW1, hrec]; exact run_enterLoop_outer _ _ _ _ _
  · simp only [resolve, hg', hv]
    simp [go_sem]
  · simp [invoke, go_sem, cl hcal]
  rw [hfw]
  refine dm.2 ?_
  have hyld : Yld E.P args (bodyY f) (fun s e => ∃ i, dat i = s ∧ e = gA S (ko (w.heap.size + 1) rec .ready :: Oi i)) (.func (.yield (w.heap.size + 1)) #[] #[]) := by
    refine ⟨_, rfl, ?_⟩
    rintro x s r hy e ⟨i, rfl, rfl⟩ w2 S2 vs hs2 ⟨hle, hown⟩ hvs
    obtain ⟨s2, hs2', rfl⟩ : ∃ s2, f x (dat i) = some s2 ∧ r = (true, s2) := by
      unfold bodyY at hy
      cases hf : f x (dat i) with
      | none => rw [hf] at hy; cases hy
      | some s2 => rw [hf] at hy; exact ⟨s2, rfl, by simpa using hy.symm⟩
    have hl2 := hown.1.1.2
    have hvl := hvs.length
    have hyr := run_yield (P := E.P) (args := vs.toArray) hl2 (by rw [hrec]; simp [hps x, hvl])
    refine ⟨_, _, _, _, hyr, roundIn_of_wpIn trivial ?_⟩
    have := hbody i x s2 hs2' (w.heap.size + 1) rec w2 S2 (fun k => ∃ f ∈ ko (w.heap.size + 1) rec .ready :: Oi i, f.fp k)
      { tmps := (ps.zip vs).foldl (fun t (p : Nat × Value) => t.setIfInBounds p.1 p.2) a.tmps, defers := [] } w2 S2
      ⟨Ext.refl _ _ _, hs2, dv hown fun f hf k hk => .inr ⟨f, hf, hk⟩, facts_puts ps (args x) vs ⟨a.tmps, []⟩ G (hps x) hvs hpn ⟨st.facts.size, rfl, fun j t h => t.mono hle (st.facts.at_ j t h)⟩⟩
    rw [hrec]
    rw [hrec] at this
    rw [foldl_zip_array]
    refine wpIn_mono this ?_
    intro e a3 w3 hp
    cases e with
    | normal =>
      obtain ⟨w4, hb4, hp4⟩ := hp
      refine ⟨w4, hb4, wpIn_mono hp4 ?_⟩
      have hR : ∀ en w', rndR ⟨E.P, ⟨E.N.n, []⟩, fun k => ∃ f ∈ ko (w.heap.size + 1) rec .ready :: Oi i, f.fp k, w2, S2, some (w.heap.size + 1)⟩ (w.heap.size + 1) rec Oi dat s2 en w' →
          ∃ e' S', en = .returned (.bool true) ∧ (∃ i', dat i' = s2 ∧ e' = gA S (ko (w.heap.size + 1) rec .ready :: Oi i')) ∧ Ext (gA S (ko (w.heap.size + 1) rec .ready :: Oi i)).fp w2 S2 w' S' ∧ Sat w' S' ∧ e'.p w' S' ∧ ∀ k, e'.fp k → (gA S (ko (w.heap.size + 1) rec .ready :: Oi i)).fp k ∨ w2.heap.size ≤ k := by
        rintro en w' ⟨i', S', h1, h2, h3, h4, h5⟩
        exact ⟨_, S', h1, ⟨i', h2, rfl⟩, h3, h4, ⟨SH.le_trans hle h3.keep, h5.weak⟩, fun k ⟨f, hf, hk⟩ => ((Own.mem h5 f hf).2 k hk).symm⟩
      rw [hrec] at hR
      intro e5 a5 w5 hp5
      cases e5 <;> simp only [roundPost] at hp5 ⊢
      case normal => obtain ⟨v5, w6, h1, h2⟩ := hp5; exact ⟨v5, w6, h1, hR _ _ h2⟩
      case ret => obtain ⟨v5, w6, h1, h2⟩ := hp5; exact ⟨v5, w6, h1, hR _ _ h2⟩
      case exit => obtain ⟨v5, w6, h1, h2⟩ := hp5; exact ⟨v5, w6, h1, hR _ _ h2⟩
      case goto => obtain ⟨v5, w6, h1, h2⟩ := hp5; exact ⟨v5, w6, h1, hR _ _ h2⟩
    | _ => exact hp
  have hrecE : W1.heap[w.heap.size + 1]? = some (.loop { rec with state := .ready, pending := none }) := by rw [hL1, hrec]
  have he0 : (gA S (ko (w.heap.size + 1) rec .ready :: Oi i0)).p W1 S := ⟨SH.le_refl _, ⟨⟨y3, hrecE⟩, fun _ _ => .inl (Nat.zero_le _)⟩, fun f hf k hk hfk => by have := hlt f hf k hfk; have hk' : k = w.heap.size + 1 := hk; omega, hoi1.weak⟩
  have hap0 : ∀ k, (gA S (ko (w.heap.size + 1) rec .ready :: Oi i0)).fp k → ¬ fp k := by
    rintro k ⟨f, hf, hk⟩ hfk
    rcases List.mem_cons.1 hf with rfl | hf
    · have := hfp k hfk; have hk' : k = w.heap.size + 1 := hk; omega
    · exact hap f hf k hfk hk
  refine (hcall noB W1 S hext (fun _ _ h => h) y2 σ (bodyY f) (dat i0) s' hit _ _ hyld _ ⟨i0, rfl, rfl⟩ he0 hap0).mono ?_
  rintro en w2 ⟨e', S2, ⟨vr, rfl⟩, ⟨i', hi', rfl⟩, hx2, hs2, ⟨hle2, hown2⟩, hnew⟩
  have hl2 := hown2.1.1.2
  refine ⟨none, _, run_endLoop hl2 (by simp), ?_⟩
  have hb2 : Own E.base E.B w2 S2 (ko (w.heap.size + 1) rec .ready :: Oi i') := by
    refine dv hown2 fun f hf k hk => ?_
    rcases hnew k ⟨f, hf, hk⟩ with ⟨f0, hf0, hk0⟩ | h
    · rcases List.mem_cons.1 hf0 with rfl | hf0
      · left; have hk' : k = w.heap.size + 1 := hk0; omega
      · exact (Own.mem hoi f0 hf0).2 k hk0
    · left; omega
  obtain ⟨z1, z2, z3⟩ := own_rec (st' := .exhausted) hb2 hs2
  have hdf : (dfb w.heap.size).p W1 S := ⟨x3, hK1⟩
  have hnb : ∀ k, (dfb w.heap.size).fp k → ¬ ((gA S (ko (w.heap.size + 1) rec .ready :: Oi i0)).fp k ∨ fp k) := by
    rintro k hk h
    have hk' : k = w.heap.size := hk
    subst hk'
    rcases h with ⟨f, hf, hfk⟩ | h
    · rcases List.mem_cons.1 hf with rfl | hf
      · have hk' : w.heap.size = w.heap.size + 1 := hfk; omega
      · have := hlt f hf _ hfk; omega
    · have := hfp _ h; omega
  have hd2 : (dfb w.heap.size).p w2 S2 := (dfb w.heap.size).kept hdf hx2 hnb
  have hd3 := (dfb w.heap.size).kept hd2 z1 (fun k hk hkl => by have h1 : k = w.heap.size := hk; have h2 : k = w.heap.size + 1 := hkl; omega)
  have hBin : ∀ k, ((gA S (ko (w.heap.size + 1) rec .ready :: Oi i0)).fp k ∨ fp k) → E.w0.heap.size ≤ k ∨ E.B k := by
    rintro k (⟨f, hf, hk⟩ | h)
    · rcases List.mem_cons.1 hf with rfl | hf
      · left; have hk' : k = w.heap.size + 1 := hk; have : E.w0.heap.size ≤ w.heap.size := hbl; omega
      · exact (Own.mem hoi f hf).2 k hk
    · exact hbase k h
  refine k i' hi' w.heap.size _ _ S2 ⟨((st.ext.step0 hext).step hx2 hBin).step z1 (fun c hc => z3.1.2 c hc), z2, ?_, ?_⟩
  · refine Own.cons ⟨hd3, fun k hk => .inl (by have h1 : k = w.heap.size := hk; rw [h1]; exact hbl)⟩ (fun f hf k hk hfk => ?_) z3.2.2
    have h1 : k = w.heap.size := hk
    rcases hnew k ⟨f, List.mem_cons_of_mem _ hf, hfk⟩ with h2 | h2
    · exact hnb k hk (.inl h2)
    · omega
  · refine ⟨st.facts.size, ?_, fun j t hj => t.mono (SH.le_trans (SH.le_refl S) hle2) (st.facts.at_ j t hj)⟩
    show markD w.heap.size :: a.defers = _
    rw [st.facts.defers]
end
end Go.Proofs.YtegigakgcnhiaaaGreatDoor

namespace Go.Proofs.YtegigakgcnhiaaaGreatDoor
open Go

section
variable {O : List OE} {G : Ctx} {P : Program} {N : Nat} {B : Nat → Prop} {w0 : World} {S0 : SH} {fn : Func} {R : Ending → World → Prop} {ds : List Deferred}
theorem gz (h : AT ⟨P, ⟨N, []⟩, B, w0, S0, none⟩ (bodyPost P fn R) .ret O G) : AT ⟨P, ⟨N, []⟩, B, w0, S0, none⟩ (bodyPostM (fw none) 0 P fn R) .ret O G := fun a w S st => by
 obtain ⟨h1, v, h2, h3⟩ := h a w S st
 show LeavesInM (fw none) 0 P fn a.tmps R a.defers .returning w
 rw [h1]
 exact ⟨v, h2, h3⟩
theorem AT.shut {b : Nat} (h : AT ⟨P, ⟨N, ds⟩, B, w0, S0, none⟩ (bodyPostM (fw none) 0 P fn R) .ret O G) : AT ⟨P, ⟨N, markD b :: ds⟩, B, w0, S0, none⟩ (bodyPostM (fw none) 0 P fn R) .ret (dfb b :: O) G := fun a w S st => by
 show LeavesInM (fw none) 0 P fn a.tmps R a.defers .returning w
 rw [st.facts.defers]
 obtain ⟨hno, hb⟩ := st.own.1.1
 have hlt := (Array.getElem?_eq_some_iff.1 hb).1
 have hext : Ext (fun k => k = b) w S (w.putObj b (.deferred none)) S := ⟨rfl, rfl, rfl, Nat.le_refl _, by simp, fun k _ hk => World.putObj_heap_other hk, SH.le_refl _, fun _ _ _ => rfl⟩
 have hsat : Sat (w.putObj b (.deferred none)) S := st.sat.same fun k o hk => by
  have hne : k ≠ b := fun e => by subst e; rw [hno] at hk; cases hk
  exact World.putObj_heap_other hne
 have := h { a with defers := ds } (w.putObj b (.deferred none)) S ⟨st.ext.step hext (fun c hc => st.own.1.2 c hc), hsat, st.own.2.2.ext hext (fun g hg k hk hkb => st.own.2.1 g hg k hkb hk), ⟨st.facts.size, rfl, st.facts.at_⟩⟩
 exact ⟨by simp, .inl ⟨b, _, rfl, run_takeDeferred hb, this⟩⟩
end
theorem Spec.ofM {P : Program} {f : FuncId} {fn : Func} {c : Code} {ts : List Ty} {t : Ty} {N : Nat} (hf : P.funcs[f]? = some fn) (hb : fn.body = some c) (hN : fn.ntmps = N) (hn : Nat.ble ts.length N = true)
  (h : ∀ w0 S0, CG ⟨P, ⟨N, []⟩, noB, w0, S0, none⟩ (bodyPostM (fw none) 0 P fn (endQ ⟨P, ⟨N, []⟩, noB, w0, S0, none⟩ t)) c [] (jr 0 ts)) : Spec P f ts t := by
 subst hN
 intro w S vs hs hv
 exact dm.1 (callsIn_of_wp_marks (F := fw none) (n := 0) hf hb trivial (h w S _ w S ⟨Ext.refl _ _ _, hs, trivial, eS hv _ (Nat.le_of_ble_eq_true hn)⟩))

def rT (t : Ty) : Rp Unit where
 sz := 1
 agg := false
 rc := fun S cs _ => ∃ v, cs = [v] ∧ v.oneCell' = true ∧ t.p S v
 mono := fun h ⟨v, e, k, l⟩ => ⟨v, e, k, t.mono h l⟩
 len := fun ⟨_, e, _⟩ => by rw [e]; rfl
 one := fun ⟨v, e, k, _⟩ c hc => by rw [e] at hc; simp at hc; subst hc; exact k
 sc := fun _ => rfl
theorem tRT {t : Ty} {u : Unit} {S : SH} {v : Value} : (tD (rT t) u).p S v ↔ v.oneCell' = true ∧ t.p S v := by
 constructor
 ·rintro ⟨cs, rfl, w, rfl, h1, h2⟩; exact ⟨h1, h2⟩
 ·rintro ⟨h1, h2⟩; exact ⟨[v], rfl, v, rfl, h1, h2⟩
section
variable {E : En} {O : List OE} {G : Ctx} {dst : Option Tmp} {ty : TypeId} {pos : String} {after : Array Edge} {g : Option (Nat × Bool)}
theorem OpOK.imp {o : Oper} {t u : Ty} (h : OpOK E O G o t) (k : ∀ S v, t.p S v → u.p S v) : OpOK E O G o u := fun a w S hs ho hf =>
 e9 (fun _ _ ⟨v, S', h1, h2, h3, h4⟩ => ⟨v, S', h1, h2, h3, k S' v h4⟩) (h a w S hs ho hf)
theorem ok_boxF {α β : Type} {args : α → List Ty} {res : β → Ty} {f : α → Option β} {x : Operand} {T : TypeId} (hx : aA E.N G x (cU E.P args res f)) : OpOK E O G ⟨dst, .box T x, ty, pos, after, g⟩ (aF (rT (cU E.P args res f)) ()) :=
 aS (fun S a hf => tRT.2 ⟨by obtain ⟨_, _, e, _⟩ := hx S a hf; rw [e]; rfl, hx S a hf⟩)
theorem ok_loadF {t : Ty} {U : TypeId} {bytes : Nat} {z : List Value} {p : Operand} (ti : TI E.P U 1 bytes false z) (hp : aA E.N G p (aF (rT t) ())) : OpOK E O G ⟨dst, .load U p, ty, pos, after, g⟩ t :=
 (ai (r := rT t) (x := ()) ti rfl rfl hp).imp fun _ _ h => (tRT.1 h).2

theorem rV_osl {S : SH} : rV.rc S [.slice none 0 0] (aD none 0 0) := ⟨rfl, rfl⟩
theorem hRV {N : Fr} {x : Operand} {l : Option Nat} {cap n : Nat} (h : aA N G x (tV (aD l cap n))) : aA N G x (tD rV (aD l cap n)) := fun S a hf => j5.2 ⟨h S a hf, by cases l <;> rfl⟩
theorem ok_loadA {U T : TypeId} {b bytes : Nat} {z : List Value} {p : Operand} {l : Option Nat} {cap n : Nat} (ti : TI E.P U 1 bytes false z) (hm : bx rV T b (aD l cap n) ∈ O) (hp : aA E.N G p (tV (aR b 0))) :
  OpOK E O G ⟨dst, .load U p, ty, pos, after, g⟩ (tV (aD l cap n)) := (dP (q := rV) (get := fun x => x) ti rfl rfl fe hm hp).imp fun _ _ h => (j5.1 h).1

def sliceF {α : Type} (xs : List α) (lo hi : Int) : Option (List α) := if 0 ≤ lo ∧ lo ≤ hi ∧ hi ≤ (xs.length : Int) then some ((xs.take hi.toNat).drop lo.toNat) else none
theorem sliceF_some {α : Type} {xs ys : List α} {lo hi : Int} (h : sliceF xs lo hi = some ys) : ∃ l m : Nat, lo = l ∧ hi = m ∧ l ≤ m ∧ m ≤ xs.length ∧ ys = (xs.take m).drop l := by
 unfold sliceF at h
 split at h
 ·rename_i hc
  exact ⟨lo.toNat, hi.toNat, by omega, by omega, by omega, by omega, by simpa using h.symm⟩
 ·cases h
end
theorem CG.drawM {E : En} {O : List OE} {G : Ctx} {Q : Exit → Act → World → Prop} {id : Nat} {L : List Oper} {ts : List Ty} (m : Nat) (hm : E.P.follows .mixedOrders = true) (hsl : j8 E.N.n [] (L.take m) = true) (hlen : ts.length = (L.take m).length) (ht : tailB L (L.take m).length (L.drop m).length = true) (hd : DR E O G L ts 0 (L.take m))
  (k : RG E L.toArray Q (L.drop m) O (outG (L.take m) ts G)) : CG E Q (.region id L.toArray true) O G := CG.drawT (List.take_append_drop m L).symm hm hsl hlen ht hd k
end Go.Proofs.YtegigakgcnhiaaaGreatDoor

namespace Go.Proofs.YtegigakgcnhiaaaGreatDoor
open Go

def EqAtR (P : Program) {α : Type} [DecidableEq α] (t : TypeId) (r : Rp α) (n : Nat) : Prop :=
 ∀ (S : SH) (cs ds : List Value) (x y : α) (d : Nat) (w : World), r.rc S cs x → r.rc S ds y → (Op.equalIn (d + n) t (r.val cs) (r.val ds)).run P w = .ok (decide (x = y)) w
theorem eqr_int {P : Program} {t : TypeId} {k k' : IntKind} (h : P.underlying t = some (.int k')) {n : Nat} : EqAtR P t (rI k) (n + 1) := fun S cs ds x y d w hx hy => by
 have h1 : cs = [.int k x] := hx
 have h2 : ds = [.int k y] := hy
 subst h1 h2
 have : (Op.equalIn (d + n + 1) t (.int k x) (.int k y)).run P w = .ok (x == y) w := by simp [Op.equalIn, run_underlying h]
 have e : (x == y) = decide (x = y) := by by_cases h : x = y <;> simp [h]
 rw [e] at this
 exact this
theorem eqr_str {P : Program} {t : TypeId} (h : P.underlying t = some .string) {n : Nat} : EqAtR P t rS (n + 1) := fun S cs ds x y d w hx hy => by
 have h1 : cs = [.string ⟨x.toArray⟩] := hx
 have h2 : ds = [.string ⟨y.toArray⟩] := hy
 subst h1 h2
 have := run_equalIn_string (P := P) w (d + n) t ⟨x.toArray⟩ ⟨y.toArray⟩ h
 simp only [Rp.val, rS, List.headD_cons, Bool.false_eq_true, if_false]
 rw [show d + (n + 1) = d + n + 1 from rfl, this]
 simp only [ByteArray.toList_eq]
 by_cases e : x = y <;> simp [e]
abbrev Fd := TypeId × Nat × Bool
def fdOf (f : Field) : Fd := (f.type, f.offset, f.name == "_")
def eqFs (d : Nat) (xs ys : Array Value) : List Fd → Sem Bool
 | [] => pure true
 | f :: fs =>
  if f.2.2 = false then do
   let a ← part f.1 xs f.2.1
   let b ← part f.1 ys f.2.1
   let r ← Op.equalIn d f.1 a b
   if (!r) = true then pure false else eqFs d xs ys fs
  else eqFs d xs ys fs
theorem eqFs_map (d : Nat) (xs ys : Array Value) : ∀ fs : List Field, Op.eqFields d xs ys fs = eqFs d xs ys (fs.map fdOf)
 | [] => rfl
 | f :: fs => by
  unfold Op.eqFields eqFs
  rw [eqFs_map d xs ys fs]
  by_cases h : f.name = "_"
  ·have e : ((fdOf f).2.2 = false) = False := by simp [fdOf, h]
   simp only [List.map_cons, e, if_false]
   rw [if_neg (by simpa using h)]
  ·have e : ((fdOf f).2.2 = false) = True := by simp [fdOf, h]
   simp only [List.map_cons, e, if_true]
   rw [if_pos (by simpa using h)]
   rfl
def EFs (P : Program) {α : Type} (r : Rp α) (n : Nat) (fs : List Fd) (c : α → α → Bool) : Prop :=
 ∀ (S : SH) (cs ds : List Value) (x y : α) (d : Nat) (w : World), r.rc S cs x → r.rc S ds y → (eqFs (d + n) cs.toArray ds.toArray fs).run P w = .ok (c x y) w
theorem EFs.nil {P : Program} {α : Type} {r : Rp α} {n : Nat} : EFs P r n [] (fun _ _ => true) := fun _ _ _ _ _ _ _ _ _ => rfl
theorem kb {P : Program} {α β : Type} {r : Rp α} {q : Rp β} {get : α → β} {t : TypeId} {off sz bytes : Nat} {agg : Bool} {z : List Value} (ti : TI P t sz bytes agg z) (hsz : q.sz = sz) (hag : q.agg = agg) (hf : Fld r off q get) {S : SH} {cs : List Value} {x : α} (hx : r.rc S cs x) (w : World) :
  (part t cs.toArray off).run P w = .ok (q.val ((cs.drop off).take q.sz)) w := by
 have h := hf S cs x hx
 have hl := q.len h
 subst hsz hag
 unfold part
 by_cases ha : q.agg = true
 ·have e1 := ti.isAgg w
  simp only [Sem.run_bind, e1, ha, Result.andThen_ok, if_true, ti.sizeOf, Sem.run_pure]
  unfold Rp.val
  rw [if_pos ha]
  congr 2
  apply Array.ext'
  simp
 ·rw [Bool.not_eq_true] at ha
  have e1 := ti.isAgg w
  have hs1 := q.sc ha
  simp only [Sem.run_bind, e1, ha, Result.andThen_ok, Bool.false_eq_true, if_false]
  rw [hs1] at hl ⊢
  obtain ⟨v, hv⟩ := List.length_eq_one_iff.1 hl
  have hc : cs[off]? = some v := by
   have : ((cs.drop off).take 1)[0]? = some v := by rw [hv]; rfl
   rw [List.getElem?_take_of_lt (by omega), List.getElem?_drop] at this
   simpa using this
  unfold Rp.val
  rw [hv, ha]
  simp [hc]
theorem EFs.cons {P : Program} {α β : Type} [DecidableEq β] {r : Rp α} {q : Rp β} {get : α → β} {n t off sz bytes : Nat} {agg : Bool} {z : List Value} {fs : List Fd} {c : α → α → Bool} (ti : TI P t sz bytes agg z) (hsz : q.sz = sz) (hag : q.agg = agg) (hf : Fld r off q get) (he : EqAtR P t q n) (hr : EFs P r n fs c) :
  EFs P r n ((t, off, false) :: fs) (fun x y => decide (get x = get y) && c x y) := fun S cs ds x y d w hx hy => by
 have h1 := kb ti hsz hag hf hx w
 have h2 := kb ti hsz hag hf hy w
 have h3 := he S _ _ _ _ d w (hf S cs x hx) (hf S ds y hy)
 unfold eqFs
 simp only [if_true, Sem.run_bind, h1, h2, h3, Result.andThen_ok]
 by_cases e : get x = get y
 ·simp only [e, decide_true, Bool.not_true, Bool.false_eq_true, if_false, Bool.true_and]
  exact hr S cs ds x y d w hx hy
 ·simp [e]
theorem EFs.skip {P : Program} {α : Type} {r : Rp α} {n t off : Nat} {fs : List Fd} {c : α → α → Bool} (hr : EFs P r n fs c) : EFs P r n ((t, off, true) :: fs) c := fun S cs ds x y d w hx hy => by
 unfold eqFs
 simp only [Bool.true_eq_false, if_false]
 exact hr S cs ds x y d w hx hy
theorem eqr_struct {P : Program} {α : Type} [DecidableEq α] {r : Rp α} {n t : Nat} {fs : List Fd} {c : α → α → Bool} (ht : (P.underlying t).map (fun d => match d with | .struct l => (true, l.toList.map fdOf) | _ => (false, [])) = some (true, fs)) (hp : P.stoodInHeld t = false) (ha : r.agg = true) (hr : EFs P r n fs c) (hc : ∀ x y, c x y = decide (x = y)) : EqAtR P t r (n + 1) := fun S cs ds x y d w hx hy => by
 obtain ⟨l, h1, h2⟩ : ∃ l, P.underlying t = some (.struct l) ∧ l.toList.map fdOf = fs := by
  cases hu : P.underlying t with
  | none => rw [hu] at ht; cases ht
  | some d =>
   rw [hu] at ht
   cases d <;> simp at ht
   exact ⟨_, rfl, ht⟩
 have hfo : P.fieldsOf t = l := by unfold Program.fieldsOf; rw [h1]
 have := run_equalIn_struct (P := P) w (d + n) t cs.toArray ds.toArray (by rw [hfo]; exact h1) hp
 rw [iq ha, iq ha, show d + (n + 1) = d + n + 1 from rfl, this, hfo, eqFs_map, h2, hr S cs ds x y d w hx hy, hc]
theorem EqAtR.up {P : Program} {α : Type} [DecidableEq α] {t : TypeId} {r : Rp α} {n : Nat} (h : EqAtR P t r n) (m : Nat) : EqAtR P t r (m + n) := fun S cs ds x y d w hx hy => by
 have := h S cs ds x y (d + m) w hx hy
 rwa [Nat.add_assoc] at this
theorem EqD.of {P : Program} {α : Type} [DecidableEq α] {t : TypeId} {r : Rp α} (hg : P.eqGuardType P.depth t = false) (h : EqAtR P t r 20) : EqD P t r := ⟨hg, fun S cs ds x y d w hx hy => h S cs ds x y d w hx hy⟩
end Go.Proofs.YtegigakgcnhiaaaGreatDoor

namespace Go.Proofs.YtegigakgcnhiaaaGreatDoor
open Go

theorem bz {α : Type} {xs l : List α} {i : Nat} {e : α} (h : xs.drop i = e :: l) : decide ((i : Int) < (xs.length : Int)) = true := by
 have : i < xs.length := by
  rcases Nat.lt_or_ge i xs.length with h' | h'
  ·exact h'
  ·rw [List.drop_eq_nil_of_le h'] at h; cases h
 simp; omega
theorem bH {α : Type} {xs : List α} {i : Nat} (h : xs.drop i = []) : decide ((i : Int) < (xs.length : Int)) = false := by
 have := List.drop_eq_nil_iff.1 h
 simp; omega
theorem bG {α : Type} {xs l : List α} {i : Nat} {e : α} (h : xs.drop i = e :: l) : xs.drop (i + 1) = l := by
 rw [← List.drop_drop, h]; rfl
theorem bc {α : Type} {xs l : List α} {i : Nat} {e : α} (h : xs.drop i = e :: l) : idx xs (i : Int) = some e := by
 rw [be]
 have := List.getElem?_drop (xs := xs) (i := i) (j := 0)
 rw [h] at this
 simpa using this.symm
theorem bA {α : Type} {xs l : List α} {i : Nat} {e : α} (h : xs.drop i = e :: l) (hN : xs.length ≤ maxLen) : i < 9223372036854775807 := by
 have := of_decide_eq_true (bz h)
 simp only [maxLen] at hN
 omega
theorem natT {i k N : Nat} (h : N - i = k + 1) : decide ((i : Int) < (N : Int)) = true := by simp; omega
theorem natF {i N : Nat} (h : N - i = 0) : decide ((i : Int) < (N : Int)) = false := by simp; omega
theorem natS {i k N : Nat} (h : N - i = k + 1) : N - (i + 1) = k := by omega
theorem natL {i k N : Nat} (h : N - i = k + 1) (hN : N ≤ 9223372036854775807) : i < 9223372036854775807 := by omega
theorem maxN {n : Nat} (h : n ≤ maxLen) : n ≤ 9223372036854775807 := by simp only [maxLen] at h; omega
section
variable {E : En} {O : List OE} {G : Ctx} {Q : Exit → Act → World → Prop} {ops : Array Oper} {rest : List Oper} {c : Code} {e : Exit}
section
variable {dst : Option Tmp} {ty : TypeId} {pos : String} {after : Array Edge} {g : Option (Nat × Bool)}
theorem aP {i : Nat} {x one : Operand} {xt yt : TypeId} (hi : i < 9223372036854775807) (hx : aA E.N G x (tD (rI .i64) (i : Int))) (h1 : aA E.N G one (tD (rI .i64) 1)) :
  OpOK E O G ⟨dst, .binOp .add xt x one yt, ty, pos, after, g⟩ (tD (rI .i64) ((i + 1 : Nat) : Int)) := by
 have e : IntKind.i64.wrap ((i : Int) + 1) = ((i + 1 : Nat) : Int) := by
  rw [IntKind.wrap_i64]; omega
 have := cj (E := E) (O := O) (dst := dst) (ty := ty) (pos := pos) (after := after) (g := g) (xt := xt) (yt := yt) hx h1
 rwa [e] at this
end
theorem CG.have_lenA {α : Type} {mm : Bool} {r : Rp α} {T : TypeId} {l : Option Nat} {cap : Nat} {xs : List α} (hm : d6 mm r T l cap xs ∈ O) (h : xs.length ≤ maxLen → CG E Q c O G) : CG E Q c O G := fun a w S st => by
 refine h ?_ a w S st
 obtain ⟨cells, h1, _⟩ := (st.own.mem _ hm).1
 cases l with
 | none => have := h1.1; omega
 | some b => obtain ⟨cur, _, g2, g3, _⟩ := h1; exact Nat.le_trans g2 g3
theorem St.dataAt {a : Act} {w : World} {S : SH} {α : Type} {r : Rp α} {l : Option Nat} {cap : Nat} {xs : List α} {k : Nat} (h : St E O G a w S) (hk : look G k = some (tO r l cap xs)) : St E O ((k, tD (rSl r) xs) :: G) a w S := h.cons (h.facts.at_ k _ hk).2
theorem RG.dataAt {α : Type} {r : Rp α} {l : Option Nat} {cap : Nat} {xs : List α} (k : Nat) (hk : look G k = some (tO r l cap xs)) (h : RG E ops Q rest O ((k, tD (rSl r) xs) :: G)) : RG E ops Q rest O G := fun a w S st => h a w S (st.dataAt hk)
theorem CG.dataAt {α : Type} {r : Rp α} {l : Option Nat} {cap : Nat} {xs : List α} (k : Nat) (hk : look G k = some (tO r l cap xs)) (h : CG E Q c O ((k, tD (rSl r) xs) :: G)) : CG E Q c O G := fun a w S st => h a w S (st.dataAt hk)
theorem AT.dataAt {α : Type} {r : Rp α} {l : Option Nat} {cap : Nat} {xs : List α} (k : Nat) (hk : look G k = some (tO r l cap xs)) (h : AT E Q e O ((k, tD (rSl r) xs) :: G)) : AT E Q e O G := fun a w S st => h a w S (st.dataAt hk)
theorem LG.dataAt {α : Type} {r : Rp α} {l : Option Nat} {cap : Nat} {xs : List α} (k : Nat) (hk : look G k = some (tO r l cap xs)) (h : LG E Q c O ((k, tD (rSl r) xs) :: G)) : LG E Q c O G := fun a w S st => h a w S (st.dataAt hk)

def cB (l : Option Nat) (off : Nat) : Value :=
 match l with
 | none => .pointer none
 | some b => aR b off
theorem raw_part {α : Type} {r : Rp α} {w : World} {T : TypeId} {l : Option Nat} {cap : Nat} {xs : List α} {S : SH} {mm : Bool} (h : j1 mm r T l cap xs w S) {i : Nat} {e : α} (hi : xs[i]? = some e) :
  ∃ b cur, l = some b ∧ w.heap[b]? = some (.cells cur T (0, 0)) ∧ xs.length ≤ cap ∧ cur.size = cap * r.sz ∧ r.rc S ((cur.toList.drop (i * r.sz)).take r.sz) e := by
 obtain ⟨cells, h1, h2, _⟩ := h
 have hlt := (List.getElem?_eq_some_iff.1 hi).1
 cases l with
 | none => have := h1.1; omega
 | some b =>
  obtain ⟨cur, g1, g2, g3, g4, g5⟩ := h1
  refine ⟨b, cur, rfl, g1, g2, g4, ?_⟩
  have h3 := rcs_get h2 hi
  rw [← g5, List.drop_take, List.take_take] at h3
  have h4 : i * r.sz + r.sz ≤ xs.length * r.sz := by
   rw [← Nat.succ_mul]; exact Nat.mul_le_mul_right _ hlt
  rwa [Nat.min_eq_left (by omega)] at h3
theorem bo {α : Type} {xs : List α} {i : Int} {e : α} (h : idx xs i = some e) : 0 ≤ i ∧ xs[i.toNat]? = some e := by
 unfold idx at h
 split at h
 ·exact ⟨by assumption, h⟩
 ·cases h
section
variable {dst : Option Tmp} {ty : TypeId} {pos : String} {after : Array Edge} {g : Option (Nat × Bool)}
theorem cZ {α : Type} {mm : Bool} {r : Rp α} {U : TypeId} {l : Option Nat} {cap n : Nat} {xs : List α} {x ix : Operand} {y : α} {t e : TypeId} {k : IntKind} {i : Int} {sz bytes : Nat} {agg : Bool} {z : List Value} (ht : E.P.underlying t = some (.slice e)) (ti : TI E.P e sz bytes agg z)
  (hm : d6 mm r U l cap xs ∈ O) (hx : aA E.N G x (tV (aD l cap n))) (hi : aA E.N G ix (tD (rI k) i)) (hy : idx xs i = some y) (hn : n = xs.length := by rfl) :
  OpOK E O G ⟨dst, .indexAddr t x ix, ty, pos, after, g⟩ (tV (cB l (i.toNat * sz + 0))) :=
 .of_pure fun a w S _ ho hf => by
  subst hn
  have h1 : a.eval x = aD l cap xs.length := hx S a hf
  have h3 : a.eval ix = .int k i := bD.1 (hi S a hf)
  obtain ⟨h0, hy'⟩ := bo hy
  obtain ⟨b, cur, rfl, _⟩ := raw_part (ho.mem _ hm).1 hy'
  have hlt : i.toNat < xs.length := (List.getElem?_eq_some_iff.1 hy').1
  refine ⟨_, ?_, rfl⟩
  have hc : 0 ≤ i ∧ i < (xs.length : Int) := ⟨h0, by omega⟩
  simp [execOp, h1, h3, aD, Instr.indexAt, asIntOf, run_underlying ht, hc, ti.sizeOf, cG, cB, aR]
theorem jT {α β : Type} {mm : Bool} {r : Rp α} {q : Rp β} {get : α → β} {U T : TypeId} {l : Option Nat} {cap foff : Nat} {xs : List α} {y : α} {i : Int} {sz bytes : Nat} {agg : Bool} {z : List Value} {p : Operand} (ti : TI E.P T sz bytes agg z) (hsz : q.sz = sz) (hag : q.agg = agg) (hget : Fld r foff q get) (hoff : Nat.ble (foff + q.sz) r.sz = true)
  (hm : d6 mm r U l cap xs ∈ O) (hy : idx xs i = some y) (hp : aA E.N G p (tV (cB l (i.toNat * r.sz + foff)))) : OpOK E O G ⟨dst, .load T p, ty, pos, after, g⟩ (tD q (get y)) :=
 .of_pure fun a w S _ ho hf => by
  have h1 : a.eval p = cB l (i.toNat * r.sz + foff) := hp S a hf
  obtain ⟨h0, hy'⟩ := bo hy
  obtain ⟨b, cur, rfl, hb, _, _, h6⟩ := raw_part (ho.mem _ hm).1 hy'
  have hoff' := Nat.le_of_ble_eq_true hoff
  have h7 := hget S _ _ h6
  rw [List.drop_take, List.take_take, List.drop_drop, Nat.min_eq_left (by omega)] at h7
  refine ⟨_, ?_, _, rfl, h7⟩
  simp [execOp, h1, cB, aR, Instr.loadAt, Instr.sureAddr, bP ti hb hsz hag h7]
theorem ok_fieldAddrE {α : Type} {mm : Bool} {r : Rp α} {U T : TypeId} {l : Option Nat} {cap o i off sz : Nat} {xs : List α} {y : α} {j : Int} {p : Operand} (hf : ci E.P T i = some (off, sz)) (h0 : Nat.beq sz 0 = false) (hm : d6 mm r U l cap xs ∈ O) (hy : idx xs j = some y) (hp : aA E.N G p (tV (cB l o))) :
  OpOK E O G ⟨dst, .fieldAddr T p i, ty, pos, after, g⟩ (tV (cB l (o + off))) :=
 .of_pure fun a w S _ ho hF => by
  have h1 : a.eval p = cB l o := hp S a hF
  obtain ⟨_, hy'⟩ := bo hy
  obtain ⟨b, cur, rfl, _⟩ := raw_part (ho.mem _ hm).1 hy'
  obtain ⟨fs, f, e1, e2, e3, e4⟩ := run_field hf
  have h0' : sz ≠ 0 := fun e => by subst e; simp at h0
  refine ⟨_, ?_, rfl⟩
  simp [execOp, h1, cB, aR, Instr.fieldAt, run_underlying e1, e2, Instr.sureAddr, fieldPlace, e4, h0', e3, cG]
end
theorem rcs_set {α : Type} {r : Rp α} {S : SH} {y : α} {c : List Value} (hc : r.rc S c y) : ∀ {xs : List α} {i : Nat} {cs : List Value}, rcs r S cs xs → i < xs.length → rcs r S (cs.take (i * r.sz) ++ c ++ cs.drop (i * r.sz + r.sz)) (xs.set i y)
 | [], _, _, _, h => by simp at h
 | x :: xs, 0, cs, ⟨a, b, e, h1, h2⟩, _ => by
  have hl := r.len h1
  refine ⟨c, b, ?_, hc, h2⟩
  rw [e, ← hl]; simp
 | x :: xs, i + 1, cs, ⟨a, b, e, h1, h2⟩, h => by
  have hl := r.len h1
  have ih := rcs_set hc h2 (i := i) (by simpa using h)
  refine ⟨a, _, ?_, h1, ih⟩
  have e1 : (i + 1) * r.sz = a.length + i * r.sz := by rw [hl, Nat.add_mul]; omega
  rw [e, e1, List.take_length_add_append, Nat.add_assoc, List.drop_length_add_append]
  simp
section
variable {dst : Option Tmp} {ty : TypeId} {pos : String} {after : Array Edge} {g : Option (Nat × Bool)}
end
theorem arr_cut {α : Type} {r : Rp α} {U : TypeId} {l : Option Nat} {cap : Nat} {xs ys : List α} {j : Int} {w : World} {S : SH} (h : sliceF xs 0 j = some ys) (k : j1 false r U l cap xs w S) : j1 false r U l cap ys w S := by
 obtain ⟨lo, m, hl, rfl, h7, h8, rfl⟩ := sliceF_some h
 have hl0 : lo = 0 := by omega
 subst hl0
 obtain ⟨cells, h1, h2, h3⟩ := k
 have hlen : ((xs.take m).drop 0).length = m := by simp; omega
 have h4 : rcs r S (cells.take (m * r.sz)) (xs.take m) := by
  have e : xs = xs.take m ++ xs.drop m := (List.take_append_drop _ _).symm
  rw [e] at h2
  have := (rcs_split h2).1
  rwa [show (xs.take m).length = m from by simp; omega] at this
 refine ⟨cells.take (m * r.sz), ?_, by simpa using h4, fun b hb => h3 b hb⟩
 rw [hlen]
 cases l with
 | none =>
  obtain ⟨g1, g2⟩ := h1
  exact ⟨by omega, by rw [g2]; simp⟩
 | some b =>
  obtain ⟨cur, g1, g2, g3, g4, g5⟩ := h1
  exact ⟨cur, g1, by omega, g3, g4, by rw [← g5, List.take_take, Nat.min_eq_left (Nat.mul_le_mul_right _ h8)]⟩
theorem St.cut {a : Act} {w : World} {S : SH} {α : Type} {r : Rp α} {U : TypeId} {l : Option Nat} {cap : Nat} {xs ys : List α} {j : Int} (h : sliceF xs 0 j = some ys) (st : St E (arr r U l cap xs :: O) G a w S) : St E (arr r U l cap ys :: O) G a w S :=
 st.own_map fun ho => ⟨⟨arr_cut h ho.1.1, ho.1.2⟩, ho.2.1, ho.2.2⟩
theorem RG.cut {α : Type} {r : Rp α} {U : TypeId} {l : Option Nat} {cap : Nat} {xs ys : List α} {j : Int} (h : sliceF xs 0 j = some ys) (k : RG E ops Q rest (arr r U l cap ys :: O) G) : RG E ops Q rest (arr r U l cap xs :: O) G := fun a w S st => k a w S (st.cut h)
theorem AT.cut {α : Type} {r : Rp α} {U : TypeId} {l : Option Nat} {cap : Nat} {xs ys : List α} {j : Int} (h : sliceF xs 0 j = some ys) (k : AT E Q e (arr r U l cap ys :: O) G) : AT E Q e (arr r U l cap xs :: O) G := fun a w S st => k a w S (st.cut h)
theorem LG.cut {α : Type} {r : Rp α} {U : TypeId} {l : Option Nat} {cap : Nat} {xs ys : List α} {j : Int} (h : sliceF xs 0 j = some ys) (k : LG E Q c (arr r U l cap ys :: O) G) : LG E Q c (arr r U l cap xs :: O) G := fun a w S st => k a w S (st.cut h)
end
end Go.Proofs.YtegigakgcnhiaaaGreatDoor

namespace Go.Proofs.YtegigakgcnhiaaaGreatDoor
open Go

section
variable {E : En} {O : List OE} {G : Ctx} {Q : Exit → Act → World → Prop} {ops : Array Oper} {rest : List Oper} {c : Code} {e : Exit}
end

theorem set_len {α : Type} {xs zs : List α} {i : Nat} {y : α} (h : xs.set i y = zs) : zs.length = xs.length := by rw [← h, List.length_set]
section
variable {E : En} {O : List OE} {G : Ctx} {Q : Exit → Act → World → Prop} {ops : Array Oper} {rest : List Oper}
theorem RG.relen2 {n m : Nat} {l : Option Nat} {cap : Nat} (hl : m = n) (s : Nat) (hs : look G s = some (tV (aD l cap n))) (k : RG E ops Q rest O ((s, tV (aD l cap m)) :: G)) : RG E ops Q rest O G := by
 subst hl
 exact fun a w S st => k a w S (st.cons (st.facts.at_ s _ hs))
end

def SpecM (P : Program) (f : FuncId) (ts : List Ty) (O1 : List OE) {ι : Type} (t : ι → Ty) (O2 : ι → List OE) : Prop :=
 ∀ w S vs, Sat w S → Tys S ts vs → Own 0 noB w S O1 → Calls P f vs.toArray w fun en w' => ∃ i v S', en = .returned v ∧ (t i).p S' v ∧ Ext (fun k => ∃ f ∈ O1, f.fp k) w S w' S' ∧ Sat w' S' ∧ Own 0 noB w' S' (O2 i) ∧ ∀ k, (∃ f ∈ O2 i, f.fp k) → (∃ f ∈ O1, f.fp k) ∨ w.heap.size ≤ k
def endM (E : En) (O1 : List OE) {ι : Type} (t : ι → Ty) (O2 : ι → List OE) : Ending → World → Prop := fun en w' =>
 ∃ i v S', en = .returned v ∧ (t i).p S' v ∧ Ext E.B E.w0 E.S0 w' S' ∧ Sat w' S' ∧ Own 0 noB w' S' (O2 i) ∧ ∀ k, (∃ f ∈ O2 i, f.fp k) → (∃ f ∈ O1, f.fp k) ∨ E.w0.heap.size ≤ k
def fpB (O1 : List OE) : Nat → Prop := fun k => ∃ f ∈ O1, f.fp k
theorem SpecM.of {P : Program} {f : FuncId} {fn : Func} {c : Code} {ts : List Ty} {N : Nat} {O1 : List OE} {ι : Type} {t : ι → Ty} {O2 : ι → List OE} (hf : P.funcs[f]? = some fn) (hb : fn.body = some c) (hN : fn.ntmps = N) (hn : Nat.ble ts.length N = true)
  (h : ∀ w0 S0, CG ⟨P, ⟨N, []⟩, fpB O1, w0, S0, none⟩ (bodyPost P fn (endM ⟨P, ⟨N, []⟩, fpB O1, w0, S0, none⟩ O1 t O2)) c O1 (jr 0 ts)) : SpecM P f ts O1 t O2 := by
 subst hN
 intro w S vs hs hv ho
 exact dm.1 (callsIn_of_wp (F := fw none) (n := 0) hf hb trivial (h w S _ w S ⟨Ext.refl _ _ _, hs, dv ho fun f hf k hk => .inr ⟨f, hf, hk⟩, eS hv _ (Nat.le_of_ble_eq_true hn)⟩))
theorem endM_of {E : En} {O1 O : List OE} {ι : Type} {t : ι → Ty} {O2 : ι → List OE} {G : Ctx} {a : Act} {w : World} {S : SH} {v : Value} (st : St E O G a w S) (hB : E.B = fpB O1) (i : ι) (hO : O = O2 i) (hv : (t i).p S v) : endM E O1 t O2 (.returned v) w := by
 subst hO
 refine ⟨i, v, S, rfl, hv, st.ext, st.sat, st.own.weak, fun k ⟨f, hf, hk⟩ => ?_⟩
 rcases (Own.mem st.own f hf).2 k hk with h | h
 ·exact .inr h
 ·rw [hB] at h; exact .inl h
section
variable {P : Program} {N : Nat} {w0 : World} {S0 : SH} {fn : Func} {O1 O : List OE} {G : Ctx} {ι : Type} {t : ι → Ty} {O2 : ι → List OE}
theorem AT.retM1 {k : Nat} {u : Ty} (hr : fn.results = #[.tmp k]) (i : ι) (hO : O = O2 i) (hk : look G k = some u) (hu : ∀ S v, u.p S v → (t i).p S v) :
  AT ⟨P, ⟨N, []⟩, fpB O1, w0, S0, none⟩ (bodyPost P fn (endM ⟨P, ⟨N, []⟩, fpB O1, w0, S0, none⟩ O1 t O2)) .ret O G := fun _ _ S st =>
 ⟨st.facts.defers, _, fI P fn k hr _ _, endM_of st rfl i hO (hu S _ (st.facts.at_ k u hk))⟩
theorem AT.normM0 (hr : fn.results = #[]) (i : ι) (hO : O = O2 i) (ht : t i = tT []) :
  AT ⟨P, ⟨N, []⟩, fpB O1, w0, S0, none⟩ (bodyPost P fn (endM ⟨P, ⟨N, []⟩, fpB O1, w0, S0, none⟩ O1 t O2)) .normal O G := fun _ _ S st =>
 ⟨st.facts.defers, _, jH P fn hr _ _, endM_of st rfl i hO (by rw [ht]; exact ⟨[], rfl, trivial⟩)⟩
end
theorem Own.join {base : Nat} {B : Nat → Prop} {w : World} {S : SH} : ∀ {O1 O2 : List OE}, Own base B w S O1 → Own base B w S O2 → (∀ e ∈ O1, ∀ f ∈ O2, e.apart f) → Own base B w S (O1 ++ O2)
 | [], _, _, h, _ => h
 | e :: O1, O2, ⟨h1, h2, h3⟩, h, ha => ⟨h1, fun f hf => (List.mem_append.1 hf).elim (h2 f) (ha e (List.mem_cons_self ..) f), Own.join h3 h fun g hg f hf => ha g (List.mem_cons_of_mem _ hg) f hf⟩
section
variable {E : En} {O : List OE} {G : Ctx} {Q : Exit → Act → World → Prop} {ops : Array Oper} {rest : List Oper} {d : Nat} {ty : TypeId} {pos : String} {after : Array Edge}
theorem St.turn {a : Act} {w w' : World} {S S' : SH} {O1 Or O2 : List OE} (st : St E (O1 ++ Or) G a w S) (hx : Ext (fun k => ∃ f ∈ O1, f.fp k) w S w' S') (hs : Sat w' S') (ho : Own 0 noB w' S' O2) (hn : ∀ k, (∃ f ∈ O2, f.fp k) → (∃ f ∈ O1, f.fp k) ∨ w.heap.size ≤ k) : St E (O2 ++ Or) G a w' S' := by
 obtain ⟨h1, h2, h3⟩ := gQ st.own
 have hbl := st.base_le
 refine ⟨st.ext.step hx (fun b ⟨f, hf, hb⟩ => (Own.mem h1 f hf).2 b hb), hs, Own.join (dv ho fun f hf k hk => ?_) (h2.ext hx fun f hf b hb ⟨g, hg, hgb⟩ => h3 g hg f hf b hgb hb) (fun e he f hf b heb hfb => ?_), st.facts.mono hx.keep⟩
 ·rcases hn k ⟨f, hf, hk⟩ with ⟨g, hg, hgk⟩ | h
  ·exact (Own.mem h1 g hg).2 k hgk
  ·exact .inl (Nat.le_trans hbl h)
 ·rcases hn b ⟨e, he, heb⟩ with ⟨g, hg, hgb⟩ | h
  ·exact h3 g hg f hf b hgb hfb
  ·have := f.here (Own.mem h2 f hf).1 b hfb
   omega
theorem RG.callM {f : FuncId} {xs : List Operand} {ats : Array TypeId} {ts : List Ty} (O1 Or : List OE) {ι : Type} {t : ι → Ty} {O2 : ι → List OE} (hO : O = O1 ++ Or) (hc : an E.P f = true) (hs : SpecM E.P f ts O1 t O2) (hx : HasTys E.N G xs ts) (hd : Nat.blt d E.N.n = true)
  (k : ∀ i, RG E ops Q rest (O2 i ++ Or) ((d, t i) :: G)) :
  RG E ops Q (⟨some d, .call ⟨.value (.func f), xs.toArray, ats⟩, ty, pos, after, none⟩ :: rest) O G := .of rfl fun a w S st => by
 subst hO
 have hr : (execOp a.eval ⟨some d, .call ⟨.value (.func f), xs.toArray, ats⟩, ty, pos, after, none⟩).run E.P w = .ok (.enter f (xs.map a.eval).toArray) w := by
  simp [execOp, resolve, Act.eval, Deferred.ofValue, invoke, cl hc]
 refine ⟨fun c h => (by cases h), ?_⟩
 rw [hr]
 refine (hs w S _ st.sat (hx.tys st.facts) (gQ st.own).1.weak).mono fun en w' ⟨i, v, S', he, hv, h1, h2, h3, h4⟩ => ⟨_, he, ?_⟩;exact k i _ _ S' ((st.turn h1 h2 h3 h4).put hd hv)
end
end Go.Proofs.YtegigakgcnhiaaaGreatDoor

namespace Go.Proofs.YtegigakgcnhiaaaGreatDoor
open Go

structure OI where
 h : Nat → Option Nat × Nat := fun _ => (none, 0)
 os : List (Option Nat × Nat) := []
 fp : Nat → Prop := noB
 v : Value := undef
 ng : Nat → (Option Nat × Nat) × (Nat → Option Nat × Nat) := fun _ => ((none, 0), fun _ => (none, 0))
def zoi : OI := {}
def oi (l : Option Nat) (c : Nat) : OI := { h := fun _ => (l, c) }
def EffOK (E : En) (O : List OE) (need : Ctx) (o : Oper) (post : OI → List OE) (t : OI → Ty) : Prop :=
 ∀ a w S, Sat w S → Own E.base E.B w S O → Facts E.N S a need → E.base ≤ w.heap.size →
  opWp E.P o a w (fun a' w' => ∃ v S' x, a' = a.put o.dst v ∧ Ext (fpB O) w S w' S' ∧ Sat w' S' ∧ Own E.base E.B w' S' (post x) ∧ (t x).p S' v)
section
variable {E : En} {O : List OE} {G : Ctx} {Q : Exit → Act → World → Prop} {ops : Array Oper} {rest : List Oper} {d : Nat} {ty : TypeId} {pos : String} {after : Array Edge} {g : Option (Nat × Bool)}
theorem eff_append {α : Type} {r : Rp α} {T t t' : TypeId} {sz bytes : Nat} {agg : Bool} {z : List Value} {mm : Bool} {l : Option Nat} {cap n : Nat} {xs ys zs : List α} {x y : Operand} {u : OI → Ty} (ti : TI E.P T sz bytes agg z) (hsz : r.sz = sz) (hz : Nat.beq z.length sz = true) (h0 : Nat.blt 0 sz = true) (h128 : Nat.ble bytes 2048 = true)
  (ht : E.P.underlying t = some (.slice T)) (hx : aA E.N G x (tV (aD l cap n))) (hy : ∀ a w S, Sat w S → Facts E.N S a G → ∃ news, Src E.P r.sz t' (a.eval y) ys.length news w ∧ rcs r S news ys) (happ : app xs ys = some zs)
  (hu : ∀ l' cap' w0 S, (d6 mm r T l' cap' zs).p w0 S → (u (oi l' cap')).p S (aD l' cap' zs.length)) (hn : n = xs.length) :
  EffOK E (d6 mm r T l cap xs :: O) G ⟨some d, .call ⟨.builtin .append, #[x, y], #[t, t']⟩, ty, pos, after, g⟩ (fun i => d6 mm r T (i.h 0).1 (i.h 0).2 zs :: O) u := fun a w S hs ho hf hb => by
 subst hn
 have h1 : a.eval x = aD l cap xs.length := hx S a hf
 obtain ⟨news, h2, h3⟩ := hy a w S hs hf
 obtain ⟨l', cap', w', S', hr, hext, hsat, hh, hnew⟩ := run_arr_append (ty := ty) ti hsz hz h0 h128 ht hs ho.1 hb h2 h3 happ
 have hrun : (execOp a.eval ⟨some d, .call ⟨.builtin .append, #[x, y], #[t, t']⟩, ty, pos, after, g⟩).run E.P w = .ok (.value (aD l' cap' zs.length)) w' := by
  simp [execOp, resolve, invoke, builtin, h1, hr]
 refine ⟨fun c h => (by cases h), ?_⟩
 rw [hrun]
 refine ⟨_, S', oi l' cap', rfl, hext.more fun b hb => ⟨_, List.mem_cons_self .., hb⟩, hsat, ⟨hh, fun f hf b hb hfb => ?_, ho.2.2.ext hext fun f hf b hb hbl => ho.2.1 f hf b hbl hb⟩, hu l' cap' w' S' hh.1⟩
 rcases hnew b hb with h | h
 ·exact ho.2.1 f hf b h hfb
 ·have := f.here (Own.mem ho.2.2 f hf).1 b hfb
  omega
theorem eff_appendT {α : Type} {r : Rp α} {T t t' : TypeId} {sz bytes : Nat} {agg : Bool} {z : List Value} {l : Option Nat} {cap : Nat} {xs ys zs : List α} {x y : Operand} (ti : TI E.P T sz bytes agg z) (hsz : r.sz = sz) (hz : Nat.beq z.length sz = true) (h0 : Nat.blt 0 sz = true) (h128 : Nat.ble bytes 2048 = true)
  (ht : E.P.underlying t = some (.slice T)) (ht' : t' = t) (hx : aA E.N G x (tO r l cap xs)) (hy : aA E.N G y (tD (rSl r) ys)) (happ : app xs ys = some zs) :
  EffOK E (tip r T l cap xs :: O) G ⟨some d, .call ⟨.builtin .append, #[x, y], #[t, t']⟩, ty, pos, after, g⟩ (fun i => tip r T (i.h 0).1 (i.h 0).2 zs :: O) (fun i => tO r (i.h 0).1 (i.h 0).2 zs) := by
 subst ht'
 exact eff_append ti hsz hz h0 h128 ht (tO_v hx) (fun a w S hs hf => src_of_data ht hs (hy S a hf)) happ (fun _ _ _ _ h => ⟨rfl, d8 h⟩) rfl
theorem SpecO.tip {P : Program} {f : FuncId} {ts : List Ty} {mm : Bool} {α : Type} {r : Rp α} {T : TypeId} {ys : List α} (h : SpecO P f ts mm r T ys) : SpecO P f ts true r T ys := by
 cases mm with
 | true => exact h
 | false =>
  intro w S vs hs hv
  refine (h w S vs hs hv).mono fun e w' ⟨l, cap, S', he, h1, h2, h3⟩ => ?_
  have st : St ⟨default, ⟨0, []⟩, noB, w, S, none⟩ [arr r T l cap ys] [] ⟨#[], []⟩ w' S' := ⟨h1, h2, ⟨h3, fun _ hf => (by cases hf), trivial⟩, ⟨rfl, rfl, fun _ _ h => (by simp [look] at h)⟩⟩
  obtain ⟨S'', h4⟩ := st.freeze
  exact ⟨l, cap, S'', he, h4.ext, h4.sat, h4.own.1⟩
theorem Own.turn {base : Nat} {B : Nat → Prop} {w w' : World} {S S' : SH} {O1 Or O2 : List OE} (h : Own base B w S (O1 ++ Or)) (hbl : base ≤ w.heap.size) (hx : Ext (fpB O1) w S w' S') (ho : Own 0 noB w' S' O2) (hn : ∀ k, (∃ f ∈ O2, f.fp k) → (∃ f ∈ O1, f.fp k) ∨ w.heap.size ≤ k) : Own base B w' S' (O2 ++ Or) := by
 obtain ⟨h1, h2, h3⟩ := gQ h
 refine Own.join (dv ho fun f hf k hk => ?_) (h2.ext hx fun f hf b hb ⟨g, hg, hgb⟩ => h3 g hg f hf b hgb hb) (fun e he f hf b heb hfb => ?_)
 ·rcases hn k ⟨f, hf, hk⟩ with ⟨g, hg, hgk⟩ | h
  ·exact (Own.mem h1 g hg).2 k hgk
  ·exact .inl (Nat.le_trans hbl h)
 ·rcases hn b ⟨e, he, heb⟩ with ⟨g, hg, hgb⟩ | h
  ·exact h3 g hg f hf b hgb hfb
  ·have := f.here (Own.mem h2 f hf).1 b hfb
   omega
theorem eff_callM {f : FuncId} {xs : List Operand} {ats : Array TypeId} {ts : List Ty} (O1 Or : List OE) {t : OI → Ty} {O2 post : OI → List OE} (hO : O = O1 ++ Or) (hc : an E.P f = true) (hs : SpecM E.P f ts O1 t O2) (hx : HasTys E.N G xs ts) (hpost : ∀ i, O2 i ++ Or = post i) :
  EffOK E O G ⟨some d, .call ⟨.value (.func f), xs.toArray, ats⟩, ty, pos, after, g⟩ post t := fun a w S hsat ho hf hb => by
 subst hO
 obtain rfl : (fun i => O2 i ++ Or) = post := funext hpost
 have hr : (execOp a.eval ⟨some d, .call ⟨.value (.func f), xs.toArray, ats⟩, ty, pos, after, g⟩).run E.P w = .ok (.enter f (xs.map a.eval).toArray) w := by
  simp [execOp, resolve, Act.eval, Deferred.ofValue, invoke, cl hc]
 refine ⟨fun c h => (by cases h), ?_⟩
 rw [hr]
 exact (hs w S _ hsat (hx.tys hf) (gQ ho).1.weak).mono fun en w' ⟨i, v, S', he, hv, h1, h2, h3, h4⟩ => ⟨_, he, v, S', i, rfl, h1.more fun b ⟨f, hf, hb⟩ => ⟨f, List.mem_append_left _ hf, hb⟩, h2, Own.turn ho hb h1 h3 h4, hv⟩
theorem RG.eff {op : Op} {post : OI → List OE} {t : OI → Ty} (h : EffOK E O G ⟨some d, op, ty, pos, after, none⟩ post t) (hd : Nat.blt d E.N.n = true) (k : ∀ x : OI, RG E ops Q rest (post x) ((d, t x) :: G)) : RG E ops Q (⟨some d, op, ty, pos, after, none⟩ :: rest) O G := .of rfl fun a w S st =>
 e9 (fun a' w' ⟨v, S', x, ha, hx, hs, ho, hv⟩ => by
  subst ha
  exact k x _ _ S' ⟨st.ext.step hx fun b ⟨f, hf, hb⟩ => (Own.mem st.own f hf).2 b hb, hs, ho, (st.facts.mono hx.keep).put hd hv⟩) (h a w S st.sat st.own st.facts st.base_le)
end

def upd (σ : Nat → OI) (k : Nat) (x : OI) : Nat → OI := fun j => bif Nat.beq j k then x else σ j
theorem upd_same (σ : Nat → OI) (k : Nat) (x : OI) : upd σ k x k = x := by simp [upd]
theorem upd_ne (σ : Nat → OI) {k j : Nat} (x : OI) (h : j ≠ k) : upd σ k x j = σ j := by
 have : Nat.beq j k = false := by
  cases hb : Nat.beq j k with
  | false => rfl
  | true => exact absurd (Nat.eq_of_beq_eq_true hb) h
 simp [upd, this]
structure NE where
 slot : Nat
 ty : (Nat → OI) → Ty
 src : Option Nat
def NE.at (n : NE) (σ : Nat → OI) : Nd := ⟨n.slot, n.ty σ, n.src⟩
def NEOK (G : Ctx) (ts : List (OI → Ty)) (n : NE) : Prop :=
 match n.src with
 | some j => ∀ σ, (ts[j]?).map (fun f => f (σ j)) = some (n.ty σ)
 | none => ∀ σ, look G n.slot = some (n.ty σ)
def NEsOK (G : Ctx) (ts : List (OI → Ty)) : List NE → Prop
 | [] => True
 | n :: l => NEOK G ts n ∧ NEsOK G ts l
theorem NEsOK.mem {G : Ctx} {ts : List (OI → Ty)} : ∀ {l : List NE}, NEsOK G ts l → ∀ n ∈ l, NEOK G ts n
 | _ :: _, ⟨h, _⟩, _, .head _ => h
 | _ :: _, ⟨_, h⟩, _, .tail _ hm => NEsOK.mem h _ hm
def needE (l : List NE) (σ : Nat → OI) : Ctx := ex (l.map (·.at σ))
def EffG (E : En) (ops : Array Oper) (O : List OE) (need : Ctx) (o : Oper) (post : OI → List OE) (t : OI → Ty) : Prop :=
 ∀ a w S, Sat w S → Own E.base E.B w S O → Facts E.N S a need → E.base ≤ w.heap.size →
  if Region.wanted o (yielded ops a.tmps) then opWp E.P o a w (fun a' w' => ∃ v S' x, a' = a.put o.dst v ∧ Ext (fpB O) w S w' S' ∧ Sat w' S' ∧ Own E.base E.B w' S' (post x) ∧ (t x).p S' v)
  else ∃ x, Own E.base E.B w S (post x) ∧ (t x).p S undef
theorem eW {E : En} {ops : Array Oper} {O : List OE} {need : Ctx} {o : Oper} {post : OI → List OE} {t : OI → Ty} (hg : o.guard = none) (h : EffOK E O need o post t) : EffG E ops O need o post t := fun a w S hs ho hf hb => by
 have : Region.wanted o (yielded ops a.tmps) = true := by unfold Region.wanted; rw [hg]
 rw [this, if_pos rfl]
 exact h a w S hs ho hf hb
def DE (E : En) (G : Ctx) (L : List Oper) (ts : List (OI → Ty)) (Om : Nat → (Nat → OI) → List OE) : Nat → Nat → List Oper → List Bool → Prop
 | _, _, [], _ => True
 | i, c, o :: rest, false :: es => (∃ (needs : List NE) (t : OI → Ty), ts[i]? = some t ∧ NEsOK G ts needs ∧ (needs.all fun n => j7 L o i (n.at fun _ => zoi)) = true ∧ cV i o = true ∧
   ∃ t', t = (fun _ => t') ∧ ∀ O σ, OpG E O L.toArray (needE needs σ) o t') ∧ DE E G L ts Om (i + 1) c rest es
 | i, c, o :: rest, true :: es => (∃ (needs : List NE) (t : OI → Ty), ts[i]? = some t ∧ NEsOK G ts needs ∧ (needs.all fun n => j7 L o i (n.at fun _ => zoi)) = true ∧ cV i o = true ∧
   ∀ σ, EffG E L.toArray (Om c σ) (needE needs σ) o (fun x => Om (c + 1) (upd σ i x)) t) ∧ DE E G L ts Om (i + 1) (c + 1) rest es
 | _, _, _ :: _, [] => False
def bu (es : List Bool) (i : Nat) : Nat := (es.take i).countP (· == true)
theorem DE.get {E : En} {G : Ctx} {L : List Oper} {ts : List (OI → Ty)} {Om : Nat → (Nat → OI) → List OE} : ∀ (r : List Oper) (es : List Bool) (k c : Nat), DE E G L ts Om k c r es → ∀ (j : Nat) (o : Oper), r[j]? = some o →
    ∃ e, es[j]? = some e ∧ ∃ (needs : List NE) (t : OI → Ty), ts[k + j]? = some t ∧ NEsOK G ts needs ∧ (needs.all fun n => j7 L o (k + j) (n.at fun _ => zoi)) = true ∧ cV (k + j) o = true ∧
      (match e with
       | false => ∃ t', t = (fun _ => t') ∧ ∀ O σ, OpG E O L.toArray (needE needs σ) o t'
       | true => ∀ σ, EffG E L.toArray (Om (c + bu es j) σ) (needE needs σ) o (fun x => Om (c + bu es j + 1) (upd σ (k + j) x)) t) := by
  intro r
  induction r with
  | nil => intro es k c _ j o h; simp at h
  | cons p r ih =>
    intro es k c h j o ho
    cases es with
    | nil => exact h.elim
    | cons e es =>
      cases e with
      | false =>
        obtain ⟨h1, h2⟩ := h
        cases j with
        | zero =>
          simp at ho; subst ho
          exact ⟨false, rfl, h1⟩
        | succ j =>
          obtain ⟨e', g1, g2⟩ := ih es (k + 1) _ h2 j o (by simpa using ho)
          refine ⟨e', by simpa using g1, ?_⟩
          rw [show k + 1 + j = k + (j + 1) from by omega] at g2
          have e1 : c + bu (false :: es) (j + 1) = c + bu es j := by simp [bu]
          rw [e1]; exact g2
      | true =>
        obtain ⟨h1, h2⟩ := h
        cases j with
        | zero =>
          simp at ho; subst ho
          exact ⟨true, rfl, h1⟩
        | succ j =>
          obtain ⟨e', g1, g2⟩ := ih es (k + 1) _ h2 j o (by simpa using ho)
          refine ⟨e', by simpa using g1, ?_⟩
          rw [show k + 1 + j = k + (j + 1) from by omega] at g2
          have e1 : c + bu (true :: es) (j + 1) = c + 1 + bu es j := by simp [bu]; omega
          rw [e1]; exact g2
def chainB (L : List Oper) (es : List Bool) : Bool := (List.range es.length).all fun i => (List.range i).all fun j => !((es[i]?).getD false && (es[j]?).getD false) || ew L L.length i j
structure DJE (E : En) (G : Ctx) (l : List Oper) (ts : List (OI → Ty)) (Om : Nat → (Nat → OI) → List OE) (es : List Bool) (done : Array Bool) (a : Act) (w : World) (S : SH) (σ : Nat → OI) (c : Nat) : Prop where
 ext : Ext E.B E.w0 E.S0 w S
 sat : Sat w S
 own : Own E.base E.B w S (Om c σ)
 size : a.tmps.size = E.N.n
 defers : a.defers = E.N.ds
 dsz : done.size = l.length
 down : ∀ j o, l[j]? = some o → done.getD j false = true → ∀ e ∈ o.after, Region.binds .any e = true → done.getD e.on false = true
 old : ∀ k t, look G k = some t → (∀ j o, l[j]? = some o → done.getD j false = true → o.dst ≠ some k) → t.p S (a.tmps.getD k undef)
 new : ∀ j o d f, l[j]? = some o → done.getD j false = true → o.dst = some d → ts[j]? = some f → (f (σ j)).p S (a.tmps.getD d undef)
 chain : ∀ k, es[k]? = some true → (done.getD k false = true ↔ bu es k < c)
theorem ahead_lt {es : List Bool} : ∀ {i j : Nat}, i < j → es[i]? = some true → bu es i < bu es j := by
 induction es with
 | nil => intro i j _ h; simp at h
 | cons e es ih =>
  intro i j hij h
  cases j with
  | zero => omega
  | succ j =>
   cases i with
   | zero => simp at h; subst h; simp [bu]
   | succ i =>
    have := ih (i := i) (j := j) (by omega) (by simpa using h)
    cases e <;> simp [bu] at this ⊢ <;> omega
theorem kF {es : List Bool} : ∀ {c k : Nat}, c < bu es k → ∃ i, i < k ∧ es[i]? = some true ∧ bu es i = c := by
 induction es with
 | nil => intro c k h; simp [bu] at h
 | cons e es ih =>
  intro c k h
  cases k with
  | zero => simp [bu] at h
  | succ k =>
   cases e with
   | false =>
    obtain ⟨i, h1, h2, h3⟩ := ih (c := c) (k := k) (by simpa [bu] using h)
    exact ⟨i + 1, by omega, by simpa using h2, by simpa [bu] using h3⟩
   | true =>
    cases c with
    | zero => exact ⟨0, by omega, rfl, by simp [bu]⟩
    | succ c =>
     obtain ⟨i, h1, h2, h3⟩ := ih (c := c) (k := k) (by simp [bu] at h ⊢; omega)
     exact ⟨i + 1, by omega, by simpa using h2, by simp [bu] at h3 ⊢; omega⟩
section
variable {E : En} {G : Ctx} {L : List Oper} {ts : List (OI → Ty)} {Om : Nat → (Nat → OI) → List OE} {es : List Bool}
theorem DJE.need {done : Array Bool} {a : Act} {w : World} {S : SH} {σ : Nat → OI} {c : Nat} (h : DJE E G L ts Om es done a w S σ c) {i : Nat} {o : Oper} (hi : L[i]? = some o) (hun : done.getD i true = false)
  (hwait : ∀ e ∈ o.after, Region.binds .any e = true → done.getD e.on false = true) {needs : List NE} (h1 : NEsOK G ts needs) (h2 : (needs.all fun n => j7 L o i (n.at fun _ => zoi)) = true) : Facts E.N S a (needE needs σ) := by
 have hlt : i < done.size := by rw [h.dsz]; exact (List.getElem?_eq_some_iff.1 hi).1
 have hun' : done.getD i false = false := by
  simp [hlt] at hun ⊢; exact hun
 refine ⟨h.size, h.defers, ?_⟩
 have key : ∀ n ∈ needs, (n.ty σ).p S (a.tmps.getD n.slot undef) := by
  intro n hn
  have hs := List.all_eq_true.1 h2 n hn
  have ho := h1.mem n hn
  unfold j7 NE.at at hs
  unfold NEOK at ho
  cases hsrc : n.src with
  | some j =>
   rw [hsrc] at hs ho
   simp only [Bool.and_eq_true] at hs
   obtain ⟨hs1, hs2⟩ := hs
   cases hj : L[j]? with
   | none => rw [hj] at hs1; cases hs1
   | some p =>
    rw [hj] at hs1
    cases hd : p.dst with
    | none => simp only [hd] at hs1; cases hs1
    | some d =>
     simp only [hd] at hs1
     have hd' := Nat.eq_of_beq_eq_true hs1
     subst hd'
     have hdone : done.getD j false = true := by
      unfold waits at hs2
      obtain ⟨e, he0, hb⟩ := List.any_eq_true.1 hs2
      have he : e ∈ o.after := by simpa using he0
      simp only [Bool.and_eq_true] at hb
      have := hwait e he hb.2
      rwa [Nat.eq_of_beq_eq_true hb.1] at this
     have hm := ho σ
     cases hf : ts[j]? with
     | none => rw [hf] at hm; simp at hm
     | some f =>
      rw [hf] at hm
      have e : f (σ j) = n.ty σ := by simpa using hm
      rw [← e]
      exact h.new j p n.slot f hj hdone hd hf
  | none =>
   rw [hsrc] at hs ho
   refine h.old _ _ (ho σ) fun j p hj hdone hd => ?_
   have := List.all_eq_true.1 hs p (List.mem_of_getElem? hj)
   simp only [hd, Nat.beq_refl, Bool.not_true, Bool.false_or] at this
   unfold waits at this
   obtain ⟨e, he0, hb⟩ := List.any_eq_true.1 this
   have he : e ∈ p.after := by simpa using he0
   simp only [Bool.and_eq_true] at hb
   have h3 := h.down j p hj hdone e he hb.2
   rw [Nat.eq_of_beq_eq_true hb.1] at h3
   rw [h3] at hun'
   cases hun'
 clear h1 h2
 intro k t hk
 unfold needE at hk
 induction needs with
 | nil => simp [ex, look] at hk
 | cons n needs ih =>
  simp only [List.map_cons] at hk
  unfold ex look at hk
  by_cases hb : Nat.beq n.slot k = true
  ·have hb' : Nat.beq (n.at σ).slot k = true := hb
   rw [hb'] at hk
   have := Nat.eq_of_beq_eq_true hb
   subst this
   have h9 : some (n.at σ).ty = some t := by simpa using hk
   have e : n.ty σ = t := Option.some.inj h9
   rw [← e]
   exact key n (List.mem_cons_self ..)
  ·rw [Bool.not_eq_true] at hb
   have hb' : Nat.beq (n.at σ).slot k = false := hb
   rw [hb'] at hk
   exact ih (fun m hm => key m (List.mem_cons_of_mem _ hm)) hk
theorem DJE.step {done : Array Bool} {a : Act} {w w' : World} {S S' : SH} {σ : Nat → OI} {c c' : Nat} (h : DJE E G L ts Om es done a w S σ c) {i d : Nat} {o : Oper} {f : OI → Ty} {v : Value} {x : OI} {C : Nat → Prop} (hi : L[i]? = some o)
  (hd : o.dst = some d) (hdN : d < E.N.n) (hs2 : ∀ j p, L[j]? = some p → done.getD j false = true → p.dst = some d → i = j)
  (hwait : ∀ e ∈ o.after, Region.binds .any e = true → done.getD e.on false = true) (ht : ts[i]? = some f) (hun : done.getD i true = false)
  (hext : Ext C w S w' S') (hC : ∀ b, C b → E.base ≤ b ∨ E.B b) (hsat : Sat w' S') (hown : Own E.base E.B w' S' (Om c' (upd σ i x))) (hv : (f x).p S' v) (hch : ∀ k, es[k]? = some true → ((done.setIfInBounds i true).getD k false = true ↔ bu es k < c')) :
  DJE E G L ts Om es (done.setIfInBounds i true) (a.put o.dst v) w' S' (upd σ i x) c' := by
 have hda : d < a.tmps.size := by rw [h.size]; exact hdN
 have hlt : i < done.size := by rw [h.dsz]; exact (List.getElem?_eq_some_iff.1 hi).1
 have hset : ∀ j, (done.setIfInBounds i true).getD j false = true → j = i ∨ done.getD j false = true := fun j hj => by
  by_cases hij : i = j
  ·exact .inl hij.symm
  ·rw [getD_set_ne false hij] at hj; exact .inr hj
 have hseti : (done.setIfInBounds i true).getD i false = true := by simp [hlt]
 have hun' : done.getD i false = false := by simp [hlt] at hun ⊢; exact hun
 refine ⟨h.ext.step hext hC, hsat, hown, ?_, ?_, by simp [h.dsz], fun j p hj hdone e he hb => ?_, fun k u hk hno => ?_, fun j p d' u hj hdone hd' hu => ?_, hch⟩
 ·rw [hd]; simp [Act.put, h.size]
 ·rw [hd]; exact h.defers
 ·rcases hset j hdone with rfl | hj'
  ·rw [hi] at hj
   have : o = p := by simpa using hj
   subst this
   exact getD_set_true (hwait e he hb)
  ·exact getD_set_true (h.down j p hj hj' e he hb)
 ·have hne : d ≠ k := fun e => hno i o hi hseti (by rw [hd, e])
  rw [hd, gR hda, if_neg hne]
  exact u.mono hext.keep (h.old k u hk fun j p hj hdone => hno j p hj (getD_set_true hdone))
 ·rw [hd, gR hda]
  by_cases hij : j = i
  ·subst hij
   rw [hi] at hj
   have : o = p := by simpa using hj
   subst this
   rw [hd] at hd'
   have : d = d' := by simpa using hd'
   subst this
   rw [if_pos rfl]
   rw [ht] at hu
   have : f = u := by simpa using hu
   subst this
   rw [upd_same]
   exact hv
  ·have hj' := (hset j hdone).resolve_left hij
   have hne : d ≠ d' := fun e => by
    subst e
    have := hs2 j p hj hj' hd'
    exact hij this.symm
   rw [if_neg hne, upd_ne σ x hij]
   exact Ty.mono _ hext.keep (h.new j p d' u hj hj' hd' hu)
end
end Go.Proofs.YtegigakgcnhiaaaGreatDoor

namespace Go.Proofs.YtegigakgcnhiaaaGreatDoor
open Go

def ge0 (n : Int) : Option Unit := if 0 ≤ n then some () else none
theorem ge0_some {n : Int} {u : Unit} (h : ge0 n = some u) : 0 ≤ n := by
 unfold ge0 at h
 split at h
 ·assumption
 ·cases h
section
variable {E : En} {O : List OE} {G : Ctx} {dst : Option Tmp} {ty : TypeId} {pos : String} {after : Array Edge} {g : Option (Nat × Bool)}
theorem ok_convSB {s : Str} {x : Operand} {st dt e : TypeId} (hs : E.P.underlying st = some .string) (hd : E.P.underlying dt = some (.slice e)) (he : E.P.underlying e = some (.int .u8)) (hx : aA E.N G x (tD rS s)) (hmax : s.length ≤ 68719476736) :
  OpOK E O G ⟨dst, .convert st dt x, ty, pos, after, g⟩ (tD (rSl (rI .u8)) (dG s)) :=
 .of_run fun a w S hsat _ hf => by
  have h1 : a.eval x = .string ⟨s.toArray⟩ := iS.1 (hx S a hf)
  have hr := Lib.run_convert_string_bytes (P := E.P) w st dt e ⟨s.toArray⟩ hs hd he
  have hnew := Lib.bytesWorld_at_new w e ⟨s.toArray⟩
  have hold := fun j hj => Lib.bytesWorld_at_old w e ⟨s.toArray⟩ j hj
  have hsz := Lib.bytesWorld_size w e ⟨s.toArray⟩
  have hno : S w.heap.size = none := by
   cases h : S w.heap.size with
   | none => rfl
   | some q => have := hsat.lt h; omega
  have hbs : (ByteArray.mk s.toArray).size = s.length := by simp [ByteArray.size]
  obtain ⟨W, hW⟩ : ∃ W, Lib.bytesWorld w e ⟨s.toArray⟩ = W := ⟨_, rfl⟩
  have hos : W.os = w.os ∧ W.tape = w.tape ∧ W.output = w.output ∧ w.drawn ≤ W.drawn := by
   subst hW
   unfold Lib.bytesWorld World.freeze
   split <;> exact ⟨rfl, rfl, rfl, Nat.le_succ _⟩
  rw [hW] at hr hnew hold hsz
  have hge := grownCap_ge w s.length 0 e
  have hle : grownCap w s.length 0 e ≤ maxLen := grownCap_le_maxLen _ _ _ _ (by simp only [maxLen]; omega)
  have hlb : (dG s).length = s.length := by simp [dG]
  refine ⟨_, W, S.set w.heap.size _, by simp only [execOp, h1, Sem.run_bind, hr, Result.andThen_ok, Sem.run_pure]; rfl,
   ⟨hos.1, hos.2.1, hos.2.2.1, hos.2.2.2, by omega, fun k hk _ => hold k hk, SH.le_set fun q hq => (by rw [hno] at hq; cases hq), fun k hk _ => fU _ _ (by omega)⟩, (hsat.same fun b o hb => hold b (hsat.lt hb)).set hnew (ib _) (fun q hq => (by rw [hno] at hq; cases hq)), ?_⟩
  refine gb.2 ⟨_, grownCap w s.length 0 e, by rw [hlb, hbs], by rw [hlb]; exact hge, hle, .inr ⟨w.heap.size, 0, _, _, _, rfl, eT _ _ _, ?_⟩⟩
  have e1 : ((Lib.bytesCells w e ⟨s.toArray⟩).toList.drop 0).take ((dG s).length * (rI .u8).sz) = s.map fun b => Value.int .u8 b.toNat := by
   have : (rI .u8).sz = 1 := rfl
   rw [this, Nat.mul_one, hlb, List.drop_zero]
   unfold Lib.bytesCells
   rw [Array.toList_append, List.take_append_of_le_length (by simp)]
   simp
   exact List.take_of_length_le (by simp)
  rw [e1]
  exact rcs_bytes s
end

def jB {α : Type} (n : Int) (z : α) : Option (List α) := if 0 ≤ n ∧ n ≤ 68719476736 then some (List.replicate n.toNat z) else none
theorem zerosF_some {α : Type} {n : Int} {z : α} {zs : List α} (h : jB n z = some zs) : ∃ m : Nat, n = m ∧ m ≤ 68719476736 ∧ zs = List.replicate m z := by
 unfold jB at h
 split at h
 ·rename_i hc; exact ⟨n.toNat, by omega, by omega, by simpa using h.symm⟩
 ·cases h
theorem rcs_zeros {α : Type} {r : Rp α} {x : α} {z : List Value} (hx : ∀ S, r.rc S z x) (S : SH) : ∀ n : Nat, rcs r S (List.replicate n z).flatten (List.replicate n x)
 | 0 => rfl
 | n + 1 => ⟨z, _, by rw [List.replicate_succ, List.flatten_cons], hx S, rcs_zeros hx S n⟩
theorem range_map_self (z : List Value) : (List.range z.length).map (fun i => z[i % z.length]?.getD default) = z := by
 apply List.ext_getElem?
 intro k
 rcases Nat.lt_or_ge k z.length with h | h
 ·rw [List.getElem?_map, List.getElem?_range h]
  simp [Nat.mod_eq_of_lt h, h]
 ·rw [List.getElem?_eq_none (by simpa using h), List.getElem?_eq_none h]
theorem zeroCells_toList (z : List Value) (n : Nat) : (Builtin.zeroCells z.toArray n).toList = (List.replicate n z).flatten := by
 unfold Builtin.zeroCells
 simp
 induction n with
 | zero => simp
 | succ n ih =>
  rw [List.replicate_succ, List.flatten_cons, ← ih, Nat.succ_mul, Nat.add_comm, List.range_add, List.map_append, range_map_self, List.map_map]
  congr 1
  apply List.map_congr_left
  intro i _
  simp
theorem madeCells_toList (z : List Value) (n sz : Nat) (h : z.length = sz) : (madeCells z.toArray (n * sz)).toList = (List.replicate n z).flatten := by
 subst h
 have := zeroCells_toList z n
 unfold Builtin.zeroCells at this
 unfold madeCells
 simpa using this
section
variable {E : En} {O : List OE} {G : Ctx} {Q : Exit → Act → World → Prop} {ops : Array Oper} {rest : List Oper} {d : Nat} {ty : TypeId} {pos : String} {after : Array Edge} {g : Option (Nat × Bool)}
theorem flat_len {z : List Value} {sz : Nat} (h : z.length = sz) (n : Nat) : (List.replicate n z).flatten.length = n * sz := by
 simp [h]
theorem eff_make {α : Type} {r : Rp α} {x : α} {T t : TypeId} {sz bytes : Nat} {agg : Bool} {z : List Value} {n : Int} {zs : List α} {y y' : Operand} {k k' : IntKind} (ti : TI E.P T sz bytes agg z) (hsz : r.sz = sz) (hz : Nat.beq z.length sz = true) (h128 : Nat.ble bytes 2048 = true) (ht : E.P.underlying t = some (.slice T)) (hx : ∀ S, r.rc S z x)
  (hy : aA E.N G y (tD (rI k) n)) (hy' : aA E.N G y' (tD (rI k') n)) (h : jB n x = some zs) :
  EffOK E O G ⟨some d, .makeSlice t y y', ty, pos, after, g⟩ (fun i => arr r T (i.h 0).1 (i.h 0).2 zs :: O) (fun i => tV (aD (i.h 0).1 (i.h 0).2 zs.length)) := fun a w S hs ho hf hb => by
 subst hsz
 obtain ⟨i, zv, hi, h1, h2, h3, h4⟩ := ti.get
 obtain ⟨m, rfl, hm, rfl⟩ := zerosF_some h
 have hyv := bD.1 (hy S a hf)
 have hyv' := bD.1 (hy' S a hf)
 have hz2 : z.length = r.sz := Nat.eq_of_beq_eq_true hz
 have h128' := Nat.le_of_ble_eq_true h128
 have hbytes : (i.bytes : Int) * (m : Int) ≤ 281474976710656 := by
  have : i.bytes * m ≤ 2048 * 68719476736 := Nat.mul_le_mul (by omega) hm
  have h5 : ((i.bytes * m : Nat) : Int) ≤ 281474976710656 := by omega
  rwa [Int.natCast_mul] at h5
 have hr := run_make (P := E.P) w t T i zv ht hi h3 k k' (m : Int) (m : Int) (by omega) (Int.le_refl _) hbytes (by omega)
 rw [Int.toNat_natCast, h1, h4] at hr
 obtain ⟨he, hs', hno⟩ := bT (w := w) (.cells (madeCells z.toArray (m * r.sz)) T (0, 0)) hs
 have hrun : (execOp a.eval ⟨some d, .makeSlice t y y', ty, pos, after, g⟩).run E.P w = .ok (.value (.slice (some ⟨w.heap.size, 0, none⟩) m m)) (w.alloc (.cells (madeCells z.toArray (m * r.sz)) T (0, 0))) := by
  simp [execOp, hyv, hyv', hr]
 refine ⟨fun c h => (by cases h), ?_⟩
 rw [hrun]
 have hfl := flat_len hz2 m
 refine ⟨_, S, oi (some w.heap.size) m, rfl, he.more fun _ hb => hb.elim, hs', iC ho he (e := arr r T (some w.heap.size) m (List.replicate m x)) ⟨(List.replicate m z).flatten, ⟨_, heap_alloc_new w _, by simp, by simp only [maxLen]; omega, by rw [size_madeCells], ?_⟩, rcs_zeros hx S m, fun b hb => by rw [← Option.some.inj hb]; exact hno⟩ (fun b hb => Nat.le_of_eq (Option.some.inj hb)) hb, ?_⟩
 ·rw [madeCells_toList z m r.sz hz2, List.length_replicate]
  exact List.take_of_length_le (by omega)
 ·show _ = aD _ _ _
  rw [List.length_replicate]; rfl
end

def gE {α : Type} (r : Rp α) (n : Nat) : Rp (List α) where
 sz := n * r.sz
 agg := true
 rc := fun S cs xs => xs.length = n ∧ rcs r S cs xs
 mono := fun h ⟨h1, h2⟩ => ⟨h1, iV h h2⟩
 len := fun ⟨h1, h2⟩ => by rw [gk h2, h1]
 one := fun ⟨_, h2⟩ => rcs_one h2
 sc := fun h => by cases h
section
variable {E : En} {O : List OE} {G : Ctx} {Q : Exit → Act → World → Prop} {ops : Array Oper} {rest : List Oper}
section
variable {dst : Option Tmp} {ty : TypeId} {pos : String} {after : Array Edge} {g : Option (Nat × Bool)}
theorem ok_indexAddrP {α : Type} {r : Rp α} {n : Nat} {xs : List α} {x ix : Operand} {y : α} {t e : TypeId} {k : IntKind} {i : Int} {sz bytes : Nat} {agg : Bool} {z : List Value} (ht : E.P.underlying t = some (.array n e)) (ti : TI E.P e sz bytes agg z) (hsz : r.sz = sz) (hx : aA E.N G x (aF (gE r n) xs)) (hi : aA E.N G ix (tD (rI k) i)) (hy : idx xs i = some y) :
  OpOK E O G ⟨dst, .indexAddr t x ix, ty, pos, after, g⟩ (aF r y) :=
 .of_pure fun a w S _ _ hf => by
  subst hsz
  obtain ⟨b, off, c, T, fr, h1, h2, h3, h4⟩ := hx S a hf
  have h5 : a.eval ix = .int k i := bD.1 (hi S a hf)
  obtain ⟨h0, hy'⟩ := bo hy
  have hlt : i.toNat < xs.length := (List.getElem?_eq_some_iff.1 hy').1
  have hc : 0 ≤ i ∧ i < (n : Int) := ⟨h0, by omega⟩
  refine ⟨.pointer (some ⟨b, off + i.toNat * r.sz, none⟩), ?_, b, _, c, T, fr, rfl, h2, ?_⟩
  ·simp [execOp, h1, h5, Instr.indexAt, asIntOf, run_underlying ht, Instr.sureAddr, hc, ti.sizeOf, cG]
  ·have h6 := rcs_get h4 hy'
   rw [List.drop_take, List.take_take, List.drop_drop] at h6
   have hmul : i.toNat * r.sz + r.sz ≤ n * r.sz := by rw [← Nat.succ_mul]; exact Nat.mul_le_mul_right _ (by omega)
   have hmin : min r.sz ((gE r n).sz - i.toNat * r.sz) = r.sz := by
    show min r.sz (n * r.sz - i.toNat * r.sz) = r.sz
    omega
   rwa [hmin] at h6
theorem cY {α : Type} {r : Rp α} {n : Nat} {T : TypeId} {b : Nat} {xs : List α} {x ix : Operand} {y : α} {t e : TypeId} {k : IntKind} {i : Int} {sz bytes : Nat} {agg : Bool} {z : List Value} (ht : E.P.underlying t = some (.array n e)) (ti : TI E.P e sz bytes agg z)
  (hm : bx (gE r n) T b xs ∈ O) (hx : aA E.N G x (tV (aR b 0))) (hi : aA E.N G ix (tD (rI k) i)) (hy : idx xs i = some y) :
  OpOK E O G ⟨dst, .indexAddr t x ix, ty, pos, after, g⟩ (tV (aR b (i.toNat * sz))) :=
 .of_pure fun a w S _ ho hf => by
  have h1 : a.eval x = aR b 0 := hx S a hf
  have h5 : a.eval ix = .int k i := bD.1 (hi S a hf)
  obtain ⟨⟨_, c, _, h4, _⟩, _⟩ := ho.mem _ hm
  obtain ⟨h0, hy'⟩ := bo hy
  have hlt : i.toNat < xs.length := (List.getElem?_eq_some_iff.1 hy').1
  have hc : 0 ≤ i ∧ i < (n : Int) := ⟨h0, by omega⟩
  refine ⟨_, ?_, rfl⟩
  simp [execOp, h1, h5, aR, Instr.indexAt, asIntOf, run_underlying ht, Instr.sureAddr, hc, ti.sizeOf, cG]
end
theorem fld_arr {α : Type} {r : Rp α} {n : Nat} {xs : List α} {i : Int} {y : α} (hy : idx xs i = some y) {S : SH} {cs : List Value} (h : (gE r n).rc S cs xs) : r.rc S ((cs.drop (i.toNat * r.sz)).take r.sz) y := rcs_get h.2 (bo hy).2
theorem ok_loadX {α : Type} {r : Rp α} {n : Nat} {T U : TypeId} {b : Nat} {xs : List α} {y : α} {i : Int} {sz bytes : Nat} {agg : Bool} {z : List Value} {p : Operand} {dst : Option Tmp} {ty : TypeId} {pos : String} {after : Array Edge} {g : Option (Nat × Bool)} (ti : TI E.P U sz bytes agg z) (hsz : r.sz = sz) (hag : r.agg = agg)
  (hm : bx (gE r n) T b xs ∈ O) (hy : idx xs i = some y) (hp : aA E.N G p (tV (aR b (i.toNat * r.sz)))) : OpOK E O G ⟨dst, .load U p, ty, pos, after, g⟩ (tD r y) :=
 .of_pure fun a w S _ ho hf => by
  have h1 : a.eval p = aR b (i.toNat * r.sz) := hp S a hf
  obtain ⟨⟨_, cur, h5, h6⟩, _⟩ := ho.mem _ hm
  have h7 := fld_arr hy h6
  refine ⟨_, ?_, _, rfl, h7⟩
  simp [execOp, h1, aR, Instr.loadAt, Instr.sureAddr, bP ti h5 hsz hag h7]
theorem RG.storeX {α : Type} {r : Rp α} {n : Nat} {T U : TypeId} {b : Nat} {xs zs : List α} {y v : α} {i : Int} {sz bytes : Nat} {agg : Bool} {z : List Value} {p x : Operand} {ty : TypeId} {pos : String} {after : Array Edge} (ti : TI E.P U sz bytes agg z) (hsz : r.sz = sz)
  (hy : idx xs i = some y) (hz : xs.set i.toNat v = zs) (hp : aA E.N G p (tV (aR b (i.toNat * r.sz)))) (hv : aA E.N G x (tD r v)) (k : RG E ops Q rest (bx (gE r n) T b zs :: O) G) : RG E ops Q (⟨none, .store U p x, ty, pos, after, none⟩ :: rest) (bx (gE r n) T b xs :: O) G := .of rfl fun a w S st => by
 subst hz
 have h1 : a.eval p = aR b (i.toNat * r.sz) := hp S a st.facts
 obtain ⟨ds, h2, h3⟩ := hv S a st.facts
 obtain ⟨⟨hno, cur, h5, h6⟩, _⟩ := st.own.1
 obtain ⟨h0, hy'⟩ := bo hy
 have hlt : i.toNat < xs.length := (List.getElem?_eq_some_iff.1 hy').1
 have hl := gk h6.2
 simp only [Array.length_toList] at hl
 have hmul : i.toNat * r.sz + r.sz ≤ xs.length * r.sz := by rw [← Nat.succ_mul]; exact Nat.mul_le_mul_right _ hlt
 obtain ⟨w', hr, e1, e2, e3, e4, e5, e6⟩ := d9 ti hsz h3 h5 (off := i.toNat * r.sz) (by omega)
 have hrun : (execOp a.eval ⟨none, .store U p x, ty, pos, after, none⟩).run E.P w = .ok .skip w' := by
  simp [execOp, h1, h2, Instr.storeAt, aR, Instr.sureAddr, hr]
 refine ⟨fun c h => (by cases h), ?_⟩
 rw [hrun]
 obtain ⟨g1, g2, g3⟩ := jS (O := O) st.sat (bx (gE r n) T b xs) (bx (gE r n) T b (xs.set i.toNat v)) st.own (fun _ => Iff.rfl) (fun _ => Iff.rfl) ⟨e1, e2, e3, e4.1, e4.2⟩ e6 ⟨hno, _, e5, by rw [List.length_set]; exact h6.1, rcs_set h3 h6.2 hlt⟩ hno
 exact k _ _ S ⟨st.ext.step g1 (fun c hc => st.own.1.2 c hc), g2, g3, st.facts⟩
end
theorem rcs_replicate {α : Type} {r : Rp α} {c : Value} {x : α} (h : ∀ S, r.rc S [c] x) (S : SH) : ∀ n, rcs r S (List.replicate n c) (List.replicate n x)
 | 0 => rfl
 | n + 1 => ⟨[c], _, rfl, h S, rcs_replicate h S n⟩
theorem arr_zero {α : Type} {r : Rp α} {c : Value} {x : α} (n : Nat) (h : ∀ S, r.rc S [c] x) : ∀ S, (gE r n).rc S (List.replicate n c) (List.replicate n x) := fun S => ⟨List.length_replicate, rcs_replicate h S n⟩
def fits (n : Nat) : Option Unit := if n ≤ 68719476736 then some () else none
theorem fits_some {n : Nat} {u : Unit} (h : fits n = some u) : n ≤ 68719476736 := by
 unfold fits at h
 split at h
 ·assumption
 ·cases h
theorem AT.fresh {α : Type} {E : En} {Q : Exit → Act → World → Prop} {e : Exit} {O : List OE} {G : Ctx} (mm : Bool) (r : Rp α) (T : TypeId) (h : AT E Q e (d6 mm r T none 0 [] :: O) G) : AT E Q e O G := fun a w S st => h a w S (st.fresh mm r T)
end Go.Proofs.YtegigakgcnhiaaaGreatDoor

namespace Go.Proofs.YtegigakgcnhiaaaGreatDoor
open Go

def tC (n : FuncId) (cts : List Ty) : Ty where
 p := fun S v => ∃ cap : List Value, v = .func (.func n) #[] cap.toArray ∧ Tys S cts cap
 mono := fun h ⟨cap, e, k⟩ => ⟨cap, e, Tys.mono h k⟩
section
variable {E : En} {O : List OE} {G : Ctx} {Q : Exit → Act → World → Prop} {ops : Array Oper} {rest : List Oper}
section
variable {dst : Option Tmp} {ty : TypeId} {pos : String} {after : Array Edge} {g : Option (Nat × Bool)}
theorem ok_makeC {fid : FuncId} {caps : List Operand} {cts : List Ty} (hcap : HasTys E.N G caps cts) : OpOK E O G ⟨dst, .makeFunc (.func fid) #[] caps.toArray, ty, pos, after, g⟩ (tC fid cts) :=
 .of_pure fun a w S _ _ hf => ⟨.func (.func fid) #[] (caps.map a.eval).toArray, by simp [execOp, Instr.makeFunc], _, rfl, hcap.tys hf⟩
end
theorem eff_callC {n : FuncId} {cts ts : List Ty} {d : Nat} {ty : TypeId} {pos : String} {after : Array Edge} {g : Option (Nat × Bool)} {fo : Operand} {xs : List Operand} {ats : Array TypeId} (O1 Or : List OE) {t : OI → Ty} {O2 post : OI → List OE} (hO : O = O1 ++ Or) (hc : an E.P n = true) (hs : SpecM E.P n (ts ++ cts) O1 t O2) (hf : aA E.N G fo (tC n cts)) (hx : HasTys E.N G xs ts) (hpost : ∀ i, O2 i ++ Or = post i) :
  EffOK E O G ⟨some d, .call ⟨.value fo, xs.toArray, ats⟩, ty, pos, after, g⟩ post t := fun a w S hsat ho hF hb => by
 subst hO
 obtain rfl : (fun i => O2 i ++ Or) = post := funext hpost
 obtain ⟨cap, e, hcap⟩ := hf S a hF
 have hr : (execOp a.eval ⟨some d, .call ⟨.value fo, xs.toArray, ats⟩, ty, pos, after, g⟩).run E.P w = .ok (.enter n ((xs.map a.eval).toArray ++ cap.toArray)) w := by
  simp [execOp, resolve, e, Deferred.ofValue, invoke, cl hc]
 refine ⟨fun c h => (by cases h), ?_⟩
 rw [hr]
 have e2 : (xs.map a.eval).toArray ++ cap.toArray = ((xs.map a.eval) ++ cap).toArray := by simp
 rw [e2]
 exact (hs w S _ hsat ((hx.tys hF).append hcap) (gQ ho).1.weak).mono fun en w' ⟨i, v, S', he, hv, h1, h2, h3, h4⟩ => ⟨_, he, v, S', i, rfl, h1.more fun b ⟨f, hf, hb⟩ => ⟨f, List.mem_append_left _ hf, hb⟩, h2, Own.turn ho hb h1 h3 h4, hv⟩
end

section
variable {E : En} {O : List OE} {G : Ctx} {Q : Exit → Act → World → Prop} {ops : Array Oper} {rest : List Oper}
section
variable {dst : Option Tmp} {ty : TypeId} {pos : String} {after : Array Edge} {g : Option (Nat × Bool)}
end
end

section
variable {E : En} {O : List OE} {G : Ctx} {Q : Exit → Act → World → Prop} {rest : List Oper} {d : Nat} {ty : TypeId} {pos : String} {after : Array Edge} {l : List Oper}
end
end Go.Proofs.YtegigakgcnhiaaaGreatDoor

namespace Go.Proofs.YtegigakgcnhiaaaGreatDoor
open Go

theorem og3 {α β : Type} [Inhabited α] {c b : Bool} {x : Option α} {k : α → Option β} {d : Option β} {r : β} (h : c = true → (if b = true then x.bind k else d) = some r) : ∃ y, ((c && b) = true → x = some y ∧ k y = some r) ∧ (c = true → b = false → d = some r) := by
 cases c with
 | false => exact ⟨default, fun e => (by cases e), fun e => (by cases e)⟩
 | true =>
  obtain ⟨y, h1, h2⟩ := og (h rfl)
  exact ⟨y, fun e => h1 e, fun _ e => h2 e⟩
def jb {κ β : Type} [DecidableEq κ] : List (κ × β) → κ → Option β
 | [], _ => none
 | p :: m, k => if p.1 = k then some p.2 else jb m k
def gH {κ β : Type} [DecidableEq κ] : List (κ × β) → κ → β → List (κ × β)
 | [], k, v => [(k, v)]
 | p :: m, k, v => if p.1 = k then (k, v) :: m else p :: gH m k v
def KeyOK {κ : Type} (P : Program) (kt : TypeId) (kv : κ → Value) : Prop := ∃ d, P.underlying kt = some d ∧ (∀ a, MapKept.IsKey d (kv a)) ∧ ∀ a b, kv a = kv b → a = b
def kvI (k : IntKind) (n : Int) : Value := .int k n
theorem key_int {P : Program} {kt : TypeId} {k : IntKind} (h : P.underlying kt = some (.int k)) : KeyOK P kt (kvI k) := ⟨_, h, fun _ => rfl, fun a b e => by injection e⟩
structure MV (β : Type) where
 p : World → SH → β → Option Nat × Nat → Value → Prop
 here : ∀ {w S y o v}, p w S y o v → ∀ j, o.1 = some j → j < w.heap.size
 kept : ∀ {C w w' S S' y o v}, p w S y o v → Ext C w S w' S' → (∀ j, o.1 = some j → ¬ C j) → p w' S' y o v
def mvY {β : Type} (ty : β → Ty) : MV β where
 p := fun _ S y o v => o.1 = none ∧ (ty y).p S v
 here := fun h j hj => by rw [h.1] at hj; cases hj
 kept := fun h k _ => ⟨h.1, (ty _).mono k.keep h.2⟩
section
variable {κ β : Type} [DecidableEq κ] {V : MV β} {kv : κ → Value} {w w' : World} {S S' : SH} {d : TypeDesc} {k : κ}
def ents (V : MV β) (kv : κ → Value) (w : World) (S : SH) (h : Option κ) : List MapEntry → List (Option Nat × Nat) → List (κ × β) → Prop
 | [], [], [] => True
 | e :: es, o :: os, q :: m => e.key = kv q.1 ∧ (if h = some q.1 then o.1 = none else V.p w S q.2 o e.val) ∧ (∀ o' ∈ os, ∀ j, o.1 = some j → o'.1 ≠ some j) ∧ (∀ p ∈ m, p.1 ≠ q.1) ∧ ents V kv w S h es os m
 | _, _, _ => False
theorem ents_here {h : Option κ} : ∀ {es : List MapEntry} {os : List (Option Nat × Nat)} {m : List (κ × β)}, ents V kv w S h es os m → ∀ o ∈ os, ∀ j, o.1 = some j → j < w.heap.size
 | [], [], [], _, o, ho, _, _ => by cases ho
 | e :: es, o :: os, q :: m, ⟨_, h2, _, _, h5⟩, o', ho, j, hj => by
  rcases List.mem_cons.1 ho with rfl | ho
  ·split at h2
   ·rw [h2] at hj; cases hj
   ·exact V.here h2 j hj
  ·exact ents_here h5 o' ho j hj
theorem ents_ext {C : Nat → Prop} (k : Ext C w S w' S') {h : Option κ} : ∀ {es : List MapEntry} {os : List (Option Nat × Nat)} {m : List (κ × β)}, ents V kv w S h es os m → (∀ o ∈ os, ∀ j, o.1 = some j → ¬ C j) → ents V kv w' S' h es os m
 | [], [], [], _, _ => trivial
 | e :: es, o :: os, q :: m, ⟨h1, h2, h3, h4, h5⟩, hC => ⟨h1, by
  split
  ·rename_i hh; rw [if_pos hh] at h2; exact h2
  ·rename_i hh; rw [if_neg hh] at h2; exact V.kept h2 k (hC o (List.mem_cons_self ..)), h3, h4, ents_ext k h5 fun o' ho => hC o' (List.mem_cons_of_mem _ ho)⟩
theorem ents_nohole {h : Option κ} : ∀ {es : List MapEntry} {os : List (Option Nat × Nat)} {m : List (κ × β)}, ents V kv w S h es os m → (∀ p ∈ m, h ≠ some p.1) → ents V kv w S none es os m
 | [], [], [], _, _ => trivial
 | e :: es, o :: os, q :: m, ⟨h1, h2, h3, h4, h5⟩, hk => ⟨h1, by
  rw [if_neg (hk q (List.mem_cons_self ..))] at h2
  rw [if_neg (by simp)]; exact h2, h3, h4, ents_nohole h5 fun p hp => hk p (List.mem_cons_of_mem _ hp)⟩
theorem iw (hd : ∀ a, MapKept.IsKey d (kv a)) (hi : ∀ a b, kv a = kv b → a = b) (a b : κ) : Instr.sameNow d (kv a) (kv b) = some (decide (a = b)) := by
 obtain ⟨r, h1, h2⟩ := MapKept.sameNow_of_keys (hd a) (hd b)
 rw [h1]
 by_cases h : a = b
 ·subst h; rw [h2.2 rfl]; simp
 ·rw [decide_eq_false h]
  cases r with
  | false => rfl
  | true => exact absurd (hi _ _ (h2.1 rfl)) h
theorem ents_punch (hd : ∀ a, MapKept.IsKey d (kv a)) (hi : ∀ a b, kv a = kv b → a = b) : ∀ {es : List MapEntry} {os : List (Option Nat × Nat)} {m : List (κ × β)} (i : Nat), ents V kv w S none es os m →
  ∃ os', (∀ x ∈ os', x ∈ os ∨ x.1 = none) ∧ ents V kv w S (some k) es os' m ∧
   ((jb m k = none ∧ Instr.findNow d (kv k) es i = some none) ∨ ∃ (y : β) (o : Option Nat × Nat) (e : MapEntry) (j : Nat), jb m k = some y ∧ o ∈ os ∧ V.p w S y o e.val ∧ Instr.findNow d (kv k) es i = some (some (j, e.val)) ∧ ∀ x ∈ os', ∀ q, o.1 = some q → x.1 ≠ some q)
 | [], [], [], i, _ => ⟨[], fun x hx => (by cases hx), trivial, .inl ⟨rfl, rfl⟩⟩
 | e :: es, o :: os, q :: m, i, ⟨h1, h2, h3, h4, h5⟩ => by
  rw [if_neg (by simp)] at h2
  by_cases hk : q.1 = k
  ·refine ⟨(none, 0) :: os, fun x hx => ?_, ⟨h1, by rw [if_pos (by rw [hk])], fun _ _ _ hj => (by cases hj), h4, ?_⟩, .inr ⟨q.2, o, e, i, by unfold jb; rw [if_pos hk], List.mem_cons_self .., h2, ?_, fun x hx j hj => ?_⟩⟩
   ·rcases List.mem_cons.1 hx with rfl | hx
    ·exact .inr rfl
    ·exact .inl (List.mem_cons_of_mem _ hx)
   ·have : ∀ {es : List MapEntry} {os : List (Option Nat × Nat)} {m : List (κ × β)}, ents V kv w S none es os m → (∀ p ∈ m, p.1 ≠ k) → ents V kv w S (some k) es os m := by
     intro es
     induction es with
     | nil => intro os m h _; cases os <;> cases m <;> first | trivial | exact h.elim
     | cons e es ih =>
      intro os m h hm
      cases os with
      | nil => cases m <;> exact h.elim
      | cons o os =>
       cases m with
       | nil => exact h.elim
       | cons q m =>
        obtain ⟨g1, g2, g3, g4, g5⟩ := h
        rw [if_neg (by simp)] at g2
        exact ⟨g1, by rw [if_neg (fun e => hm q (List.mem_cons_self ..) (Option.some.inj e).symm)]; exact g2, g3, g4, ih g5 fun p hp => hm p (List.mem_cons_of_mem _ hp)⟩
    exact this h5 (fun p hp => by rw [← hk]; exact h4 p hp)
   ·unfold Instr.findNow
    rw [h1, iw hd hi, hk, decide_eq_true rfl]
   ·rcases List.mem_cons.1 hx with rfl | hx
    ·exact fun e => by cases e
    ·exact h3 x hx j hj
  ·obtain ⟨os', g1, g2, g3⟩ := ents_punch hd hi (i + 1) h5
   refine ⟨o :: os', fun x hx => ?_, ⟨h1, by rw [if_neg (fun e => hk (Option.some.inj e).symm)]; exact h2, fun o' ho' j hj => ?_, h4, g2⟩, ?_⟩
   ·rcases List.mem_cons.1 hx with rfl | hx
    ·exact .inl (List.mem_cons_self ..)
    ·exact (g1 x hx).imp (List.mem_cons_of_mem _) id
   ·rcases g1 o' ho' with h | h
    ·exact h3 o' h j hj
    ·rw [h]; exact fun e => by cases e
   ·have hf : Instr.findNow d (kv k) (e :: es) i = Instr.findNow d (kv k) es (i + 1) := by
     conv => lhs; unfold Instr.findNow
     rw [h1, iw hd hi, decide_eq_false (fun e => hk e.symm)]
    have hm : jb (q :: m) k = jb m k := by conv => lhs; unfold jb; rw [if_neg hk]
    rw [hf, hm]
    refine g3.imp id fun ⟨y, o1, e1, j, f1, f2, f3, f4, f5⟩ => ⟨y, o1, e1, j, f1, List.mem_cons_of_mem _ f2, f3, f4, fun x hx q hq => ?_⟩
    rcases List.mem_cons.1 hx with rfl | hx
    ·exact fun e => h3 o1 f2 q e hq
    ·exact f5 x hx q hq
theorem modify_cons {α : Type} (x : α) (xs : List α) (j : Nat) (f : α → α) : (x :: xs).modify (j + 1) f = x :: xs.modify j f := by simp [List.modify_succ_cons]
theorem ents_fill (hd : ∀ a, MapKept.IsKey d (kv a)) (hi : ∀ a b, kv a = kv b → a = b) {y : β} {o : Option Nat × Nat} {v : Value} {born : Nat} (hv : V.p w S y o v) : ∀ {es : List MapEntry} {os : List (Option Nat × Nat)} {m : List (κ × β)} (i : Nat), ents V kv w S (some k) es os m → (∀ o' ∈ os, ∀ j, o.1 = some j → o'.1 ≠ some j) →
    ∃ os', (∀ x ∈ os', x ∈ os ∨ x = o) ∧
      ((∃ (j : Nat) (e : MapEntry), Instr.findNow d (kv k) es i = some (some (i + j, e.val)) ∧ es[j]? = some e ∧ e.key = kv k ∧ ents V kv w S none (es.modify j fun e => { e with key := kv k, val := v }) os' (gH m k y)) ∨
        (Instr.findNow d (kv k) es i = some none ∧ ents V kv w S none (es ++ [⟨kv k, v, born⟩]) os' (gH m k y)))
  | [], [], [], i, _, _ => ⟨[o], fun x hx => .inr (List.mem_singleton.1 hx), .inr ⟨rfl, ⟨rfl, by rw [if_neg (by simp)]; exact hv, fun _ h => (by cases h), fun _ h => (by cases h), trivial⟩⟩⟩
  | e :: es, o1 :: os, q :: m, i, ⟨h1, h2, h3, h4, h5⟩, ha => by
    by_cases hk : q.1 = k
    · refine ⟨o :: os, fun x hx => ?_, .inl ⟨0, e, ?_, rfl, by rw [h1, hk], ?_⟩⟩
      · rcases List.mem_cons.1 hx with rfl | hx
        · exact .inr rfl
        · exact .inl (List.mem_cons_of_mem _ hx)
      · unfold Instr.findNow
        rw [h1, iw hd hi, hk, decide_eq_true rfl]
        rfl
      · unfold gH
        rw [if_pos hk, List.modify_zero_cons]
        exact ⟨rfl, by rw [if_neg (by simp)]; exact hv, fun o' ho' => ha o' (List.mem_cons_of_mem _ ho'), fun p hp => by rw [← hk]; exact h4 p hp,
          ents_nohole h5 fun p hp e => h4 p hp (by rw [hk]; exact (Option.some.inj e).symm)⟩
    · obtain ⟨os', g1, g2⟩ := ents_fill hd hi (born := born) hv (i + 1) h5 fun o' ho' => ha o' (List.mem_cons_of_mem _ ho')
      rw [if_neg (fun e => hk (Option.some.inj e).symm)] at h2
      have hf : Instr.findNow d (kv k) (e :: es) i = Instr.findNow d (kv k) es (i + 1) := by
        conv => lhs; unfold Instr.findNow
        rw [h1, iw hd hi, decide_eq_false (fun e => hk e.symm)]
      have hm : gH (q :: m) k y = q :: gH m k y := by conv => lhs; unfold gH; rw [if_neg hk]
      have hap : ∀ o' ∈ os', ∀ j, o1.1 = some j → o'.1 ≠ some j := fun o' ho' j hj => by
        rcases g1 o' ho' with h | rfl
        · exact h3 o' h j hj
        · exact fun e => ha o1 (List.mem_cons_self ..) j e hj
      have hne : ∀ p ∈ gH m k y, p.1 ≠ q.1 := by
        have : ∀ m : List (κ × β), (∀ p ∈ m, p.1 ≠ q.1) → ∀ p ∈ gH m k y, p.1 ≠ q.1 := by
          intro m
          induction m with
          | nil => intro _ p hp; rw [List.mem_singleton.1 hp]; exact fun e => hk e.symm
          | cons p0 m ih =>
            intro hm p hp
            unfold gH at hp
            split at hp
            · rcases List.mem_cons.1 hp with rfl | hp
              · exact fun e => hk e.symm
              · exact hm p (List.mem_cons_of_mem _ hp)
            · rcases List.mem_cons.1 hp with rfl | hp
              · exact hm _ (List.mem_cons_self ..)
              · exact ih (fun p hp => hm p (List.mem_cons_of_mem _ hp)) p hp
        exact this m h4
      rw [hf, hm]
      refine ⟨o1 :: os', fun x hx => ?_, g2.imp (fun ⟨j, e', f1, f2, f3, f4⟩ => ⟨j + 1, e', by rw [f1]; congr 3; omega, by simpa using f2, f3, ?_⟩) fun ⟨f1, f2⟩ => ⟨f1, ?_⟩⟩
      · rcases List.mem_cons.1 hx with rfl | hx
        · exact .inl (List.mem_cons_self ..)
        · exact (g1 x hx).imp (List.mem_cons_of_mem _) id
      · rw [modify_cons]
        exact ⟨h1, by rw [if_neg (by simp)]; exact h2, hap, hne, f4⟩
      · exact ⟨h1, by rw [if_neg (by simp)]; exact h2, hap, hne, f2⟩
theorem ents_keys {h : Option κ} : ∀ {es : List MapEntry} {os : List (Option Nat × Nat)} {m : List (κ × β)}, ents V kv w S h es os m → ∀ x ∈ es, ∃ q ∈ m, x.key = kv q.1
 | [], [], [], _, x, hx => by cases hx
 | e :: es, o :: os, q :: m, ⟨h1, _, _, _, h5⟩, x, hx => by
  rcases List.mem_cons.1 hx with rfl | hx
  ·exact ⟨q, List.mem_cons_self .., h1⟩
  ·obtain ⟨q', g1, g2⟩ := ents_keys h5 x hx
   exact ⟨q', List.mem_cons_of_mem _ g1, g2⟩
theorem fresh_key (hd : ∀ a, MapKept.IsKey d (kv a)) {h : Option κ} {es : List MapEntry} {os : List (Option Nat × Nat)} {m : List (κ × β)} {i : Nat} (h4 : ents V kv w S h es os m) (g1 : Instr.findNow d (kv k) es i = some none) {x : MapEntry} (hx : x ∈ es) : x.key ≠ kv k := by
 rcases MapKept.findNow_spec (hd k) es i (fun y hy => by obtain ⟨q, _, e⟩ := ents_keys h4 y hy; rw [e]; exact hd _) with ⟨_, h2⟩ | ⟨j, e, h2, _⟩
 ·exact h2 x hx
 ·rw [g1] at h2; cases h2
def mapO (V : MV β) (kv : κ → Value) (b : Nat) (h : Option κ) (os : List (Option Nat × Nat)) (m : List (κ × β)) : OE where
 fp := fun j => j = b ∨ ∃ o ∈ os, o.1 = some j
 p := fun w S => S b = none ∧ (∀ o ∈ os, o.1 ≠ some b) ∧ ∃ es clock, w.heap[b]? = some (.map es clock) ∧ ents V kv w S h es.toList os m ∧ MapKept.Stamped es clock
 here := by
  intro w S ⟨_, _, es, clock, h3, h4, _⟩ j hj
  rcases hj with rfl | ⟨o, ho, hj⟩
  ·exact (Array.getElem?_eq_some_iff.1 h3).1
  ·exact ents_here h4 o ho j hj
 kept := by
  intro C w w' S S' ⟨h1, h2, es, clock, h3, h4, hst⟩ k hC
  have hlt := (Array.getElem?_eq_some_iff.1 h3).1
  exact ⟨by rw [k.old b hlt (hC b (.inl rfl))]; exact h1, h2, es, clock, by rw [k.heap b hlt (hC b (.inl rfl))]; exact h3, ents_ext k h4 (fun o ho j hj => hC j (.inr ⟨o, ho, hj⟩)), hst⟩
def ie (b : Nat) : Value := .map (some b)
end
section
variable {E : En} {O : List OE} {G : Ctx} {Q : Exit → Act → World → Prop} {ops : Array Oper} {rest : List Oper} {κ β : Type} [DecidableEq κ] {V : MV β} {kv : κ → Value} {b : Nat} {os : List (Option Nat × Nat)} {m : List (κ × β)} {k : κ} {t kt et : TypeId} {x i v : Operand}
 {d : Nat} {dst : Option Nat} {ty : TypeId} {pos : String} {after : Array Edge} {g : Option (Nat × Bool)}
def KeyAt (N : Fr) (G : Ctx) (x : Operand) (u : Value) : Prop := ∀ S a, Facts N S a G → a.eval x = u
theorem keyI {N : Fr} {q : IntKind} {n : Int} (h : aA N G x (tD (rI q) n)) : KeyAt N G x (kvI q n) := fun S a hf => bD.1 (h S a hf)
def ZV (P : Program) (T : TypeId) (z : Value) : Prop := (P.info? T).bind (·.zero) = some z
theorem ZV.run {P : Program} {T : TypeId} {z : Value} (h : ZV P T z) (w : World) : (zeroValue T).run P w = .ok z w := by
 unfold ZV at h
 cases hi : P.info? T with
 | none => rw [hi] at h; cases h
 | some i =>
  rw [hi] at h
  have h' : i.zero = some z := h
  simp [zeroValue, typeInfo, hi, h']
theorem RG.makeMap (V : MV β) (kv : κ → Value) (hd : Nat.blt d E.N.n = true) (k : ∀ b, RG E ops Q rest (mapO V kv b none [] [] :: O) ((d, tV (ie b)) :: G)) :
  RG E ops Q (⟨some d, .makeMap t none, ty, pos, after, none⟩ :: rest) O G := .of rfl fun a w S st => by
 obtain ⟨he, hs', hno⟩ := bT (w := w) (.map #[] 0) st.sat
 have hrun : (execOp a.eval ⟨some d, .makeMap t none, ty, pos, after, none⟩).run E.P w = .ok (.value (ie w.heap.size)) (w.alloc (.map #[] 0)) := by
  simp [execOp, Instr.makeMap, ie]
 refine ⟨fun c h => (by cases h), ?_⟩
 rw [hrun]
 exact k w.heap.size _ _ S ⟨st.ext.step0 he, hs', iC st.own he ⟨hno, fun _ h => (by cases h), #[], 0, heap_alloc_new w _, trivial, MapKept.stamped_empty 0⟩ (fun b hb => by
  rcases hb with rfl | ⟨_, h, _⟩
  ·exact Nat.le_refl _
  ·cases h) st.base_le, st.facts.put hd rfl⟩
theorem run_lookup_at {P : Program} {w : World} {kk : Value} {es : Array MapEntry} {clock : Nat} {q : TypeDesc} {z : Value} {u : Option (Nat × Value)} (hm : P.underlying t = some (.map kt et)) (hq : P.underlying kt = some q) (hk : MapKept.IsKey q kk) (hb : w.heap[b]? = some (.map es clock)) (hz : ZV P et z)
  (hf : Instr.findNow q kk es.toList 0 = some u) (c : Bool) : (Instr.lookup t (ie b) kk c).run P w = .ok (if c then .tuple #[(u.map (·.2)).getD z, .bool u.isSome] else (u.map (·.2)).getD z) w := by
 cases u with
 | none => simp [Instr.lookup, ie, run_underlying hm, MapKept.run_getObj_map hb, MapKept.run_checkKey hq hk, MapKept.run_findKey hq hf, hz.run, Result.andThen]
 | some r => simp [Instr.lookup, ie, run_underlying hm, MapKept.run_getObj_map hb, MapKept.run_checkKey hq hk, MapKept.run_findKey hq hf, Result.andThen]
theorem ok_lookupY {γ : β → Ty} {z : β} {zv : Value} (hm : E.P.underlying t = some (.map kt et)) (hk : KeyOK E.P kt kv) (hz : ZV E.P et zv) (hzt : ∀ S, (γ z).p S zv) (hmem : mapO (mvY γ) kv b none os m ∈ O) (hx : aA E.N G x (tV (ie b))) (hi : KeyAt E.N G i (kv k)) :
  OpOK E O G ⟨dst, .lookup t x i false, ty, pos, after, g⟩ (γ ((jb m k).getD z)) := .of_pure fun a w S hs ho hf => by
 obtain ⟨⟨_, _, es, clock, h3, h4, _⟩, _⟩ := Own.mem ho _ hmem
 obtain ⟨q, hq, hd, hinj⟩ := hk
 have h1 : a.eval x = ie b := hx S a hf
 have h2 : a.eval i = kv k := hi S a hf
 obtain ⟨_, _, _, h5⟩ := ents_punch hd hinj (k := k) 0 h4
 rcases h5 with ⟨g1, g2⟩ | ⟨y, o, e, j, g1, g2, g3, g4, g5⟩
 ·refine ⟨zv, by simp [execOp, h1, h2, run_lookup_at hm hq (hd k) h3 hz g2], by rw [g1]; exact hzt S⟩
 ·refine ⟨e.val, by simp [execOp, h1, h2, run_lookup_at hm hq (hd k) h3 hz g4], by rw [g1]; exact g3.2⟩
theorem run_mapUpdate_at {P : Program} {w : World} {kk : Value} {es : Array MapEntry} {clock : Nat} {q : TypeDesc} {val : Value} (hm : P.underlying t = some (.map kt et)) (hq : P.underlying kt = some q) (hk : MapKept.IsKey q kk) (hb : w.heap[b]? = some (.map es clock)) :
  (Instr.findNow q kk es.toList 0 = some none → (Instr.mapUpdate t (ie b) kk val).run P w = .ok () { w with heap := w.heap.setIfInBounds b (.map (es.push ⟨kk, val, clock⟩) (clock + 1)) }) ∧
  (∀ j e, Instr.findNow q kk es.toList 0 = some (some (j, e)) → (∀ e', es.toList[j]? = some e' → e'.key = kk) → (∃ e', es.toList[j]? = some e') → (Instr.mapUpdate t (ie b) kk val).run P w = .ok () { w with heap := w.heap.setIfInBounds b (.map (es.modify j fun e => { e with key := kk, val := val }) clock) }) := by
 refine ⟨fun hf => ?_, fun j e hf hj he => ?_⟩
 ·simp [Instr.mapUpdate, ie, run_underlying hm, MapKept.run_getObj_map hb, MapKept.run_checkKey hq hk, MapKept.run_findKey hq hf, MapKept.run_setObj_map _ hb, Result.andThen]
 ·obtain ⟨e', he'⟩ := he
  have h1 := hj e' he'
  have h2 : es[j]? = some e' := by simpa using he'
  simp [Instr.mapUpdate, ie, run_underlying hm, MapKept.run_getObj_map hb, MapKept.run_checkKey hq hk, MapKept.run_findKey hq hf, MapKept.run_setObj_map _ hb, Result.andThen, h2, h1, MapKept.run_keyThatStays hk]
theorem map_write {w : World} {S : SH} {y : β} {o : Option Nat × Nat} {val : Value} (hs : Sat w S) (hm : E.P.underlying t = some (.map kt et)) (hk : KeyOK E.P kt kv) (hp : (mapO V kv b (some k) os m).p w S) (hv : V.p w S y o val) (hob : o.1 ≠ some b) (hap : ∀ o' ∈ os, ∀ j, o.1 = some j → o'.1 ≠ some j) :
  ∃ w' os', (Instr.mapUpdate t (ie b) (kv k) val).run E.P w = .ok () w' ∧ Ext (fun j => j = b) w S w' S ∧ Sat w' S ∧ (mapO V kv b none os' (gH m k y)).p w' S ∧ (∀ j, (mapO V kv b none os' (gH m k y)).fp j → (mapO V kv b (some k) os m).fp j ∨ o.1 = some j) := by
 obtain ⟨hno, hnb, es, clock, h3, h4, hst⟩ := hp
 obtain ⟨q, hq, hdk, hinj⟩ := hk
 obtain ⟨os', p1, p2⟩ := ents_fill hdk hinj (born := clock) hv 0 h4 hap
 have hnb' : ∀ o' ∈ os', o'.1 ≠ some b := fun o' ho' => by
  rcases p1 o' ho' with h | rfl
  ·exact hnb o' h
  ·exact hob
 have hfp : ∀ j, (j = b ∨ ∃ o ∈ os', o.1 = some j) → (j = b ∨ ∃ o ∈ os, o.1 = some j) ∨ o.1 = some j := fun j hj => by
  rcases hj with h | ⟨o', ho', e⟩
  ·exact .inl (.inl h)
  ·rcases p1 o' ho' with h | rfl
   ·exact .inl (.inr ⟨o', h, e⟩)
   ·exact .inr e
 have hw : ∀ X : Obj, Ext (fun j => j = b) w S { w with heap := w.heap.setIfInBounds b X } S ∧ Sat { w with heap := w.heap.setIfInBounds b X } S ∧ ({ w with heap := w.heap.setIfInBounds b X } : World).heap[b]? = some X := fun X =>
  ⟨⟨rfl, rfl, rfl, Nat.le_refl _, by simp, fun j _ hj => (MapKept.heap_set (o' := X) h3).2 j hj, SH.le_refl _, fun _ _ _ => rfl⟩, hs.same fun j o hj => (MapKept.heap_set (o' := X) h3).2 j (fun e => by subst e; rw [hno] at hj; cases hj), (MapKept.heap_set h3).1⟩
 obtain ⟨r1, r2⟩ := run_mapUpdate_at (val := val) hm hq (hdk k) h3
 rcases p2 with ⟨j, e, g1, g2, g3, g4⟩ | ⟨g1, g2⟩
 ·rw [Nat.zero_add] at g1
  obtain ⟨x1, x2, x3⟩ := hw (.map (es.modify j fun e => { e with key := kv k, val := val }) clock)
  refine ⟨_, os', r2 j _ g1 (fun e' he' => by rw [g2] at he'; cases he'; exact g3) ⟨_, g2⟩, x1, x2, ⟨hno, hnb', _, _, x3, ?_, MapKept.stamped_modify hst j _ (fun _ _ => rfl) (fun e' _ he' => by rw [← Array.getElem?_toList, g2] at he'; cases he'; exact g3.symm)⟩, hfp⟩;refine ents_ext x1 (by rw [Array.toList_modify]; exact g4) fun o' ho' j hj e => ?_
  subst e
  exact hnb' o' ho' hj
 ·obtain ⟨x1, x2, x3⟩ := hw (.map (es.push ⟨kv k, val, clock⟩) (clock + 1))
  refine ⟨_, os', r1 g1, x1, x2, ⟨hno, hnb', _, _, x3, ?_, MapKept.stamped_push hst (fun x hx e => ?_)⟩, hfp⟩
  rotate_left
  ·exact fresh_key hdk h4 g1 hx e
  refine ents_ext x1 (by rw [Array.toList_push]; exact g2) fun o' ho' j hj e => ?_
  subst e
  exact hnb' o' ho' hj
theorem RG.putY {γ : β → Ty} {y : β} (hm : E.P.underlying t = some (.map kt et)) (hk : KeyOK E.P kt kv) (hx : aA E.N G x (tV (ie b))) (hi : KeyAt E.N G i (kv k)) (hv : aA E.N G v (γ y))
  (h : ∀ os', RG E ops Q rest (mapO (mvY γ) kv b none os' (gH m k y) :: O) G) :
  RG E ops Q (⟨none, .mapUpdate t x i v, ty, pos, after, none⟩ :: rest) (mapO (mvY γ) kv b none os m :: O) G := .of rfl fun a w S st => by
 have h1 : a.eval x = ie b := hx S a st.facts
 have h2 : a.eval i = kv k := hi S a st.facts
 have h3 : (γ y).p S (a.eval v) := hv S a st.facts
 obtain ⟨⟨hp, hfp⟩, hap, hO⟩ := st.own
 obtain ⟨hno, hnb, es, clock, e3, e4, hst⟩ := hp
 obtain ⟨q, hq, hdk, hinj⟩ := hk
 obtain ⟨os1, p1, p2, _⟩ := ents_punch hdk hinj (k := k) 0 e4
 have hnb1 : ∀ o ∈ os1, o.1 ≠ some b := fun o ho => by
  rcases p1 o ho with h | h
  ·exact hnb o h
  ·rw [h]; exact fun e => by cases e
 obtain ⟨w', os', r, x1, x2, x3, x4⟩ := map_write (V := mvY γ) (E := E) (y := y) (o := (none, 0)) (val := a.eval v) st.sat hm ⟨q, hq, hdk, hinj⟩ ⟨hno, hnb1, es, clock, e3, p2, hst⟩ ⟨rfl, h3⟩ (fun e => by cases e) (fun _ _ _ e => by cases e)
 have hrun : (execOp a.eval ⟨none, .mapUpdate t x i v, ty, pos, after, none⟩).run E.P w = .ok .skip w' := by simp [execOp, h1, h2, r]
 refine ⟨fun c h => (by cases h), ?_⟩
 rw [hrun]
 have hfp' : ∀ j, (mapO (mvY γ) kv b none os' (gH m k y)).fp j → (mapO (mvY γ) kv b none os m).fp j := fun j hj => by
  rcases x4 j hj with (h | ⟨o, ho, e⟩) | e
  ·exact .inl h
  ·rcases p1 o ho with h | h
   ·exact .inr ⟨o, h, e⟩
   ·rw [h] at e; cases e
  ·cases e
 exact h os' _ _ S ⟨st.ext.step x1 (fun c hc => hfp c (.inl hc)), x2, ⟨⟨x3, fun j hj => hfp j (hfp' j hj)⟩, fun f hf j hj => hap f hf j (hfp' j hj), hO.ext x1 fun f hf j hj hjb => hap f hf j (.inl hjb) hj⟩, st.facts⟩
end
end Go.Proofs.YtegigakgcnhiaaaGreatDoor

namespace Go.Proofs.YtegigakgcnhiaaaGreatDoor
open Go

def resRun (tmps : Array Value) : ResultVar → Sem Value
 | .tmp t => pure (tmps.getD t undef)
 | .cell a t => do loadVar t (← asAddr (tmps.getD a undef))
def ResOK (P : Program) (N : Fr) (G : Ctx) (rv : ResultVar) (t : Ty) : Prop := ∀ a w S, Sat w S → Facts N S a G → ∃ v, (resRun a.tmps rv).run P w = .ok v w ∧ t.p S v
theorem res_tmp {P : Program} {N : Fr} {G : Ctx} {k : Nat} {t : Ty} (hk : look G k = some t) : ResOK P N G (.tmp k) t := fun a w S _ hf => ⟨_, rfl, hf.at_ k t hk⟩
theorem jP {P : Program} {N : Fr} {G : Ctx} {k : Nat} {T : TypeId} {α : Type} {r : Rp α} {x : α} {sz bytes : Nat} {agg : Bool} {z : List Value} (ti : TI P T sz bytes agg z) (hsz : r.sz = sz) (hag : r.agg = agg) (hk : look G k = some (aF r x)) : ResOK P N G (.cell k T) (tD r x) := fun a w S hs hf => by
 obtain ⟨b, off, c, U, fr, h1, h2, h3⟩ := hf.at_ k _ hk
 obtain ⟨c', h4, h5⟩ := hs.part h2 (r.len h3)
 rw [← h5] at h3
 have hl := bP ti h4 hsz hag h3
 have h1' : a.tmps[k]?.getD undef = Value.pointer (some ⟨b, off, none⟩) := by simpa [Array.getD_eq_getD_getElem?] using h1
 exact ⟨_, by simp [resRun, h1', asAddr, hl], _, rfl, h3⟩
def ResL (P : Program) (N : Fr) (G : Ctx) : List ResultVar → List Ty → Prop
 | [], [] => True
 | rv :: rvs, t :: ts => ResOK P N G rv t ∧ ResL P N G rvs ts
 | _, _ => False
theorem ResL.run {P : Program} {N : Fr} {G : Ctx} {a : Act} {w : World} {S : SH} (hs : Sat w S) (hf : Facts N S a G) : ∀ {rvs : List ResultVar} {ts : List Ty}, ResL P N G rvs ts → ∃ vs, (rvs.mapM (resRun a.tmps)).run P w = .ok vs w ∧ Tys S ts vs ∧ vs.length = rvs.length
 | [], [], _ => ⟨[], rfl, trivial, rfl⟩
 | rv :: rvs, t :: ts, ⟨h1, h2⟩ => by
  obtain ⟨v, g1, g2⟩ := h1 a w S hs hf
  obtain ⟨vs, k1, k2, k3⟩ := ResL.run hs hf h2
  exact ⟨v :: vs, by simp [List.mapM_cons, g1, k1, Result.andThen], ⟨g2, k2⟩, by simp [k3]⟩
theorem AT.retL {P : Program} {N : Nat} {B : Nat → Prop} {w0 : World} {S0 : SH} {fn : Func} {O : List OE} {G : Ctx} {rvs : List ResultVar} {ts : List Ty} (hr : fn.results = rvs.toArray) (h1 : Nat.beq rvs.length 1 = false) (h : ResL P ⟨N, []⟩ G rvs ts) :
  AT ⟨P, ⟨N, []⟩, B, w0, S0, none⟩ (bodyPost P fn (endQ ⟨P, ⟨N, []⟩, B, w0, S0, none⟩ (tT ts))) .ret O G := fun a w S st => by
 obtain ⟨vs, k1, k2, k3⟩ := h.run st.sat st.facts
 have hne : ¬ vs.length = 1 := by rw [k3]; intro e; rw [e] at h1; cases h1
 refine ⟨st.facts.defers, .tuple vs.toArray, ?_, _, S, rfl, st.ext, st.sat, vs, rfl, k2⟩
 have e1 : (fn.results.mapM (resRun a.tmps)).run P w = .ok vs.toArray w := by
  rw [hr, List.mapM_toArray, Sem.run_map, k1]
  rfl
 have e3 : results fn a.tmps = ((fn.results.mapM (resRun a.tmps)) >>= fun vs => pure (if h : vs.size = 1 then vs[0] else .tuple vs)) := rfl
 rw [e3, Sem.run_bind, e1]
 simp [Result.andThen, hne]

theorem slD_cell {α : Type} {r : Rp α} {S : SH} {v : Value} {xs : List α} (h : (tD (rSl r) xs).p S v) : (rSl r).rc S [v] xs := by
 obtain ⟨cs, e, h2⟩ := h
 obtain ⟨a, cap, e2, h3⟩ := h2
 subst e2
 rw [e]
 exact ⟨a, cap, rfl, h3⟩
section
variable {E : En} {O : List OE} {G : Ctx} {dst : Option Tmp} {ty : TypeId} {pos : String} {after : Array Edge} {g : Option (Nat × Bool)}
theorem el {β : Type} {r : Rp β} {get : β → Value} {x : β} {U T : TypeId} {b off bytes : Nat} {z : List Value} {p : Operand} {l : Option Nat} {cap n : Nat} (ti : TI E.P U 1 bytes false z) (hget : Fld r off rV get) (hm : bx r T b x ∈ O) (hv : get x = aD l cap n) (hp : aA E.N G p (tV (aR b off))) :
  OpOK E O G ⟨dst, .load U p, ty, pos, after, g⟩ (tV (aD l cap n)) := (dP (q := rV) ti rfl rfl hget hm hp).imp fun _ _ h => by rw [← hv]; exact (j5.1 h).1
theorem ok_loadFT {α β : Type} {q : Rp α} {r : Rp β} {get : β → Value} {x : β} {U T V : TypeId} {b off bytes : Nat} {z : List Value} {p : Operand} {l : Option Nat} {cap : Nat} {xs : List α} (ti : TI E.P U 1 bytes false z) (hget : Fld r off rV get) (hm : bx r T b x ∈ O) (hm2 : tip q V l cap xs ∈ O) (hv : get x = aD l cap xs.length) (hp : aA E.N G p (tV (aR b off))) :
  OpOK E O G ⟨dst, .load U p, ty, pos, after, g⟩ (tO q l cap xs) := fun a w S hs ho hf =>
 e9 (fun _ _ ⟨v, S', h1, h2, h3, h4⟩ => ⟨v, S', h1, h2, h3, h4, by
  have h5 : v = aD l cap xs.length := h4
  rw [h5]
  exact d8 (((ho.ext0 h2).mem _ hm2).1)⟩) (el (g := g) (ty := ty) (pos := pos) (after := after) (dst := dst) ti hget hm hv hp a w S hs ho hf)
theorem bb {T : TypeId} {i off sz b o n : Nat} {p : Operand} (hf : ci E.P T i = some (off, sz)) (h0 : Nat.beq sz 0 = false) (hp : aA E.N G p (tV (aR b o))) (he : o + off = n) : OpOK E O G ⟨dst, .fieldAddr T p i, ty, pos, after, g⟩ (tV (aR b n)) := by
 subst he
 exact ok_fieldAddrB hf h0 hp
theorem ok_loadObj {α β : Type} {q : Rp α} {r : Rp β} {x : β} {y : α} {U T : TypeId} {b sz bytes : Nat} {agg : Bool} {z : List Value} {p : Operand} (ti : TI E.P U sz bytes agg z) (hsz : q.sz = sz) (hag : q.agg = agg) (hag2 : r.agg = agg) (hsz2 : r.sz = sz) (hm : bx r T b x ∈ O)
  (hc : ∀ w S cs, Own E.base E.B w S O → r.rc S cs x → q.rc S cs y) (hp : aA E.N G p (tV (aR b 0))) :
  OpOK E O G ⟨dst, .load U p, ty, pos, after, g⟩ (tD q y) := .of_pure fun a w S _ ho hf => by
 have h1 : a.eval p = aR b 0 := hp S a hf
 obtain ⟨⟨_, cur, h5, h6⟩, _⟩ := ho.mem _ hm
 have h7 := hc w S _ ho h6
 have hl := q.len h7
 have h8 : q.rc S ((cur.toList.drop 0).take q.sz) y := by rw [List.drop_zero, List.take_of_length_le (by omega)]; exact h7
 exact ⟨_, by simp [execOp, h1, aR, Instr.loadAt, Instr.sureAddr, bP ti h5 hsz hag h8], _, rfl, h8⟩
theorem own_tip {α : Type} {base : Nat} {B : Nat → Prop} {w : World} {S : SH} {q : Rp α} {V : TypeId} {l : Option Nat} {cap : Nat} {xs : List α} (ho : Own base B w S O) (hm : tip q V l cap xs ∈ O) : (rSl q).rc S [aD l cap xs.length] xs := slD_cell (d8 (ho.mem _ hm).1)
end
def SFldX {α β γ : Type} (r : Rp α) (r' : Rp γ) (off : Nat) (q : Rp β) (x : α) (y : β) (x' : γ) : Prop := ∀ S cs ds, r.rc S cs x → q.rc S ds y → r'.rc S (cs.take off ++ ds ++ cs.drop (off + q.sz)) x'
theorem sfx_of {α β : Type} {r : Rp α} {q : Rp β} {off : Nat} {set : α → β → α} {x : α} {y : β} (h : iH r off q set) : SFldX r r off q x y (set x y) := fun S cs ds h1 h2 => h S cs x ds y h1 h2
theorem sfx_whole {α γ : Type} {r : Rp α} {r' : Rp γ} {x : α} {y : γ} (hs : r.sz = r'.sz) : SFldX r r' 0 r' x y y := fun S cs ds h1 h2 => by
 have hl := r.len h1
 rw [List.take_zero, List.nil_append, List.drop_of_length_le (by omega), List.append_nil]
 exact h2
theorem sfx_map {α β α' β' γ : Type} {p : Rp α} {p' : Rp α'} {f : β → α} {f' : β' → α'} {x : β} {x' : β'} {y : γ} {u : Rp γ} {off : Nat} {z : α'} (h : SFldX p p' off u (f x) y z) (e : f' x' = z) : SFldX (iW p f) (iW p' f') off u x y x' := fun S cs ds h1 h2 => by
 show p'.rc S _ (f' x')
 rw [e]
 exact h S cs ds h1 h2
section
variable {E : En} {O : List OE} {G : Ctx} {Q : Exit → Act → World → Prop} {ops : Array Oper} {rest : List Oper} {c : Code} {e : Exit} {ty : TypeId} {pos : String} {after : Array Edge}
theorem gO {α β γ : Type} {r : Rp α} {r' : Rp γ} {q : Rp β} {x : α} {x' : γ} {y : β} {T U : TypeId} {b off sz bytes : Nat} {agg : Bool} {z : List Value} {p v : Operand} (ti : TI E.P U sz bytes agg z) (hsz : q.sz = sz) (hset : SFldX r r' off q x y x') (hoff : Nat.ble (off + q.sz) r.sz = true)
  (hp : aA E.N G p (tV (aR b off))) (hv : aA E.N G v (tD q y)) (k : RG E ops Q rest (bx r' T b x' :: O) G) : RG E ops Q (⟨none, .store U p v, ty, pos, after, none⟩ :: rest) (bx r T b x :: O) G := .of rfl fun a w S st => by
 have h1 : a.eval p = aR b off := hp S a st.facts
 obtain ⟨ds, h2, h3⟩ := hv S a st.facts
 obtain ⟨⟨hno, cur, h5, h6⟩, _⟩ := st.own.1
 have hl := r.len h6
 have hoff' := Nat.le_of_ble_eq_true hoff
 obtain ⟨w', hr, e1, e2, e3, e4, e5, e6⟩ := d9 ti hsz h3 h5 (off := off) (by simp at hl; omega)
 have hrun : (execOp a.eval ⟨none, .store U p v, ty, pos, after, none⟩).run E.P w = .ok .skip w' := by
  simp [execOp, h1, h2, Instr.storeAt, aR, Instr.sureAddr, hr]
 refine ⟨fun c h => (by cases h), ?_⟩
 rw [hrun]
 obtain ⟨g1, g2, g3⟩ := jS (O := O) st.sat (bx r T b x) (bx r' T b x') st.own (fun _ => Iff.rfl) (fun _ => Iff.rfl) ⟨e1, e2, e3, e4.1, e4.2⟩ e6 ⟨hno, _, e5, by simpa using hset S _ _ h6 h3⟩ hno
 exact k _ _ S ⟨st.ext.step g1 (fun c hc => st.own.1.2 c hc), g2, g3, st.facts⟩
end
end Go.Proofs.YtegigakgcnhiaaaGreatDoor

namespace Go.Proofs.YtegigakgcnhiaaaGreatDoor
open Go

section
variable {P : Program} {b : Frame} {a : Act} {k : List Item} {cs : List Frame} {w : World} {Q : Exit → Act → World → Prop} {F : Fence} {n : Nat}
end
section
variable {E : En} {O : List OE} {G : Ctx} {Q : Exit → Act → World → Prop}
theorem CG.label {l : Nat} (h : AT E Q .normal O G) : CG E Q (.label l) O G := fun a w S st => wpIn_label (h a w S st)
end
end Go.Proofs.YtegigakgcnhiaaaGreatDoor

namespace Go.Proofs.YtegigakgcnhiaaaGreatDoor
open Go

section
variable {E : En} {O : List OE} {G : Ctx} {dst : Option Tmp} {ty : TypeId} {pos : String} {after : Array Edge} {g : Option (Nat × Bool)}
end
end Go.Proofs.YtegigakgcnhiaaaGreatDoor

