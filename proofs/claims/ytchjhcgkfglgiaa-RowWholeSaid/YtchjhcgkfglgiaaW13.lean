/- A small logic over the walk's rules: variables of a call's own in memory. It states nothing of any program. -/
import Derived.Test.YtchjhcgkfglgiaaW12
namespace Go.Proofs.Ytchjhcgkfglgiaa
open Go

def bptr (b off : Nat) : Value := .pointer (some ⟨b, off, none⟩)
/-- A variable of the call's own. -/
def bx {α : Type} (r : Rp α) (T : TypeId) (b : Nat) (x : α) : OE where
  fp := fun k => k = b
  p := fun w S => S b = none ∧ ∃ c, w.heap[b]? = some (.cells c T (0, 0)) ∧ r.rc S c.toList x
  here := by
    intro w S h k hk
    subst hk
    obtain ⟨h1, c, h2, _⟩ := h
    exact (Array.getElem?_eq_some_iff.1 h2).1
  kept := by
    intro C w w' S S' h k hC
    obtain ⟨h1, c, h2, h3⟩ := h
    have hlt := (Array.getElem?_eq_some_iff.1 h2).1
    exact ⟨by rw [k.old b hlt (hC b rfl)]; exact h1, c, by rw [k.heap b hlt (hC b rfl)]; exact h2, r.mono k.keep h3⟩
/-- A raw cell: whatever value it is. -/
def rV : Rp Value where
  sz := 1
  agg := false
  rc := fun _ cs v => cs = [v] ∧ v.oneCell' = true
  mono := fun _ h => h
  len := fun h => by rw [h.1]; rfl
  one := fun h c hc => by rw [h.1] at hc; simp at hc; subst hc; exact h.2
  sc := fun _ => rfl
theorem tRV_iff {u : Value} {S : SH} {v : Value} : (tD rV u).p S v ↔ v = u ∧ u.oneCell' = true := by
  constructor
  · rintro ⟨cs, rfl, h1, h2⟩; subst h1; exact ⟨rfl, h2⟩
  · rintro ⟨rfl, h⟩; exact ⟨[v], rfl, rfl, h⟩
/-- What is stored into a part of a row of cells. -/
def SFld {α β : Type} (r : Rp α) (off : Nat) (q : Rp β) (set : α → β → α) : Prop := ∀ S cs x ds y, r.rc S cs x → q.rc S ds y → r.rc S (cs.take off ++ ds ++ cs.drop (off + q.sz)) (set x y)
section
variable {E : En} {O : List OE} {G : Ctx} {Q : Exit → Act → World → Prop} {ops : Array Oper} {rest : List Oper} {c : Code} {e : Exit}
theorem St.settleB {α : Type} {r : Rp α} {T : TypeId} {b k : Nat} {x : α} {a : Act} {w : World} {S : SH} (h : St E (bx r T b x :: O) G a w S) (hk : look G k = some (tV (bptr b 0))) : ∃ S', St E O ((k, tPtr r x) :: G) a w S' := by
  obtain ⟨⟨hn, cur, h3, h4⟩, _⟩ := h.own.1
  obtain ⟨h8, hle, _, _⟩ := settle_ext h rfl h3 (ole_refl _) hn
  have hv : a.tmps.getD k undef = bptr b 0 := h.facts.at_ k _ hk
  refine ⟨_, h8.cons ⟨b, 0, cur, T, (0, 0), hv, by simp [SH.set], ?_⟩⟩
  have hl : cur.size = r.sz := by have := r.len h4; simpa using this
  have := r.mono hle h4
  rw [List.drop_zero, List.take_of_length_le (by simp [hl])]; exact this
theorem RG.settleB {α : Type} {r : Rp α} {T : TypeId} {b : Nat} {x : α} (k : Nat) (hk : look G k = some (tV (bptr b 0))) (h : RG E ops Q rest O ((k, tPtr r x) :: G)) : RG E ops Q rest (bx r T b x :: O) G :=
  fun a w _ st => let ⟨S', st'⟩ := st.settleB hk; h a w S' st'
theorem CG.settleB {α : Type} {r : Rp α} {T : TypeId} {b : Nat} {x : α} (k : Nat) (hk : look G k = some (tV (bptr b 0))) (h : CG E Q c O ((k, tPtr r x) :: G)) : CG E Q c (bx r T b x :: O) G :=
  fun a w _ st => let ⟨S', st'⟩ := st.settleB hk; h a w S' st'
theorem LG.settleB {α : Type} {r : Rp α} {T : TypeId} {b : Nat} {x : α} (k : Nat) (hk : look G k = some (tV (bptr b 0))) (h : LG E Q c O ((k, tPtr r x) :: G)) : LG E Q c (bx r T b x :: O) G :=
  fun a w _ st => let ⟨S', st'⟩ := st.settleB hk; h a w S' st'
theorem AT.settleB {α : Type} {r : Rp α} {T : TypeId} {b : Nat} {x : α} (k : Nat) (hk : look G k = some (tV (bptr b 0))) (h : AT E Q e O ((k, tPtr r x) :: G)) : AT E Q e (bx r T b x :: O) G :=
  fun a w _ st => let ⟨S', st'⟩ := st.settleB hk; h a w S' st'
section
variable {d : Nat} {ty : TypeId} {pos : String} {after : Array Edge}
theorem RG.alloc {α : Type} {r : Rp α} {x : α} {T : TypeId} {sz bytes : Nat} {agg : Bool} {z : List Value} (ti : TI E.P T sz bytes agg z) (hx : ∀ S, r.rc S z x) (hd : Nat.blt d E.N.n = true)
    (k : ∀ b, RG E ops Q rest (bx r T b x :: O) ((d, tV (bptr b 0)) :: G)) : RG E ops Q (⟨some d, .alloc T, ty, pos, after, none⟩ :: rest) O G := .of rfl fun a w S st => by
  obtain ⟨zv, hzr, hzc⟩ := ti.zero w
  obtain ⟨he, hs', hno⟩ := Ext.alloc_own (w := w) (.cells z.toArray T (0, 0)) st.sat
  have hrun : (execOp a.eval ⟨some d, .alloc T, ty, pos, after, none⟩).run E.P w = .ok (.value (bptr w.heap.size 0)) (w.alloc (.cells z.toArray T (0, 0))) := by
    simp [execOp, Instr.alloc, hzr, newVar, newRow, hzc, bptr]
  refine ⟨fun c h => (by cases h), ?_⟩
  rw [hrun]
  exact k w.heap.size _ _ S ⟨st.ext.step0 he, hs', own_new st.own he ⟨hno, z.toArray, heap_alloc_new w _, by simpa using hx S⟩ (fun b hb => Nat.le_of_eq hb.symm) st.base_le, st.facts.put hd rfl⟩
theorem RG.boxO {α : Type} {r : Rp α} {v : α} {x : Operand} {T : TypeId} (hx : HasTy E.N G x (tD r v)) (hd : Nat.blt d E.N.n = true)
    (k : ∀ b, RG E ops Q rest (bx r T b v :: O) ((d, tV (bptr b 0)) :: G)) : RG E ops Q (⟨some d, .box T x, ty, pos, after, none⟩ :: rest) O G := .of rfl fun a w S st => by
  obtain ⟨cs, hv, hc⟩ := hx S a st.facts
  obtain ⟨he, hs', hno⟩ := Ext.alloc_own (w := w) (.cells cs.toArray T (0, 0)) st.sat
  have hrun : (execOp a.eval ⟨some d, .box T x, ty, pos, after, none⟩).run E.P w = .ok (.value (bptr w.heap.size 0)) (w.alloc (.cells cs.toArray T (0, 0))) := by
    simp [execOp, Instr.box, newVar, newRow, hv, val_cells hc, bptr]
  refine ⟨fun c h => (by cases h), ?_⟩
  rw [hrun]
  exact k w.heap.size _ _ S ⟨st.ext.step0 he, hs', own_new st.own he ⟨hno, cs.toArray, heap_alloc_new w _, by simpa using hc⟩ (fun b hb => Nat.le_of_eq hb.symm) st.base_le, st.facts.put hd rfl⟩
/-- A block of the call's own is written. -/
theorem own_write {base : Nat} {B : Nat → Prop} {w w' : World} {S : SH} {b : Nat} (hs : Sat w S) (f f' : OE) (h : Own base B w S (f :: O)) (hf : ∀ k, f.fp k ↔ k = b) (hf' : ∀ k, f'.fp k ↔ k = b) (hg : w'.os = w.os ∧ w'.tape = w.tape ∧ w'.output = w.output ∧ w'.heap.size = w.heap.size ∧ w.drawn ≤ w'.drawn)
    (ho : ∀ k, k ≠ b → w'.heap[k]? = w.heap[k]?) (hp : f'.p w' S) (hno : S b = none) : Ext (fun k => k = b) w S w' S ∧ Sat w' S ∧ Own base B w' S (f' :: O) := by
  have hext : Ext (fun k => k = b) w S w' S := ⟨hg.1, hg.2.1, hg.2.2.1, hg.2.2.2.2, by omega, fun k _ hk => ho k hk, SH.le_refl _, fun _ _ _ => rfl⟩
  refine ⟨hext, hs.same fun k o hk => ?_, ⟨hp, fun k hk => h.1.2 k ((hf k).2 ((hf' k).1 hk))⟩, fun g hgm k hk => h.2.1 g hgm k ((hf k).2 ((hf' k).1 hk)), h.2.2.ext hext fun g hgm k hk hkb => h.2.1 g hgm k ((hf k).2 hkb) hk⟩
  have hne : k ≠ b := fun e => by subst e; rw [hno] at hk; cases hk
  exact ho k hne
theorem run_storeVar_at {P : Program} {α : Type} {q : Rp α} {U : TypeId} {sz bytes : Nat} {agg : Bool} {z : List Value} (ti : TI P U sz bytes agg z) (hsz : q.sz = sz) {S : SH} {ds : List Value} {y : α} (hy : q.rc S ds y) {w : World} {b off : Nat} {cur : Array Value} {T : TypeId}
    (hg : w.heap[b]? = some (.cells cur T (0, 0))) (hfit : off + q.sz ≤ cur.size) :
    ∃ w', (storeVar U ⟨b, off, none⟩ (q.val ds)).run P w = .ok () w' ∧ w'.os = w.os ∧ w'.tape = w.tape ∧ w'.output = w.output ∧ (w'.heap.size = w.heap.size ∧ w.drawn ≤ w'.drawn) ∧ w'.heap[b]? = some (.cells (cur.toList.take off ++ ds ++ cur.toList.drop (off + q.sz)).toArray T (0, 0)) ∧ ∀ k, k ≠ b → w'.heap[k]? = w.heap[k]? := by
  have hl := q.len hy
  have hst := run_storeCells_at P b off T ds 0 cur w hg (by omega) (q.one hy)
  simp only [Nat.add_zero] at hst
  refine ⟨w.setRow b (cur.toList.take off ++ ds ++ cur.toList.drop (off + ds.length)).toArray, ?_, rfl, rfl, rfl, ⟨?_, Nat.le_refl _⟩, ?_, fun k hk => setRow_other w b k _ hk⟩
  · generalize (cur.toList.take off ++ ds ++ cur.toList.drop (off + ds.length)).toArray = X at hst ⊢
    simp only [storeVar, Sem.run_bind, ti.sizeOf, Result.andThen_ok, val_cells hy, List.size_toArray, hl, hsz]
    simp only [ne_eq, not_true_eq_false, if_false]
    simpa using hst
  · simp [World.setRow]
  · rw [setRow_heap w b cur _ T _ hg, ← hl]
/-- Such a variable is stored into, whole. -/
theorem RG.storeB {α β : Type} {r : Rp α} {q : Rp β} {set : α → β → α} {x : α} {y : β} {T U : TypeId} {b off sz bytes : Nat} {agg : Bool} {z : List Value} {p v : Operand} (ti : TI E.P U sz bytes agg z) (hsz : q.sz = sz) (hset : SFld r off q set) (hoff : Nat.ble (off + q.sz) r.sz = true)
    (hp : HasTy E.N G p (tV (bptr b off))) (hv : HasTy E.N G v (tD q y)) (k : RG E ops Q rest (bx r T b (set x y) :: O) G) : RG E ops Q (⟨none, .store U p v, ty, pos, after, none⟩ :: rest) (bx r T b x :: O) G := .of rfl fun a w S st => by
  have h1 : a.eval p = bptr b off := hp S a st.facts
  obtain ⟨ds, h2, h3⟩ := hv S a st.facts
  obtain ⟨⟨hno, cur, h5, h6⟩, _⟩ := st.own.1
  have hl := r.len h6
  have hoff' := Nat.le_of_ble_eq_true hoff
  obtain ⟨w', hr, e1, e2, e3, e4, e5, e6⟩ := run_storeVar_at ti hsz h3 h5 (off := off) (by simp at hl; omega)
  have hrun : (execOp a.eval ⟨none, .store U p v, ty, pos, after, none⟩).run E.P w = .ok .skip w' := by
    simp [execOp, h1, h2, Instr.storeAt, bptr, Instr.sureAddr, hr]
  refine ⟨fun c h => (by cases h), ?_⟩
  rw [hrun]
  obtain ⟨g1, g2, g3⟩ := own_write (O := O) st.sat (bx r T b x) (bx r T b (set x y)) st.own (fun _ => Iff.rfl) (fun _ => Iff.rfl) ⟨e1, e2, e3, e4.1, e4.2⟩ e6 ⟨hno, _, e5, by simpa using hset S _ _ _ _ h6 h3⟩ hno
  exact k _ _ S ⟨st.ext.step g1 (fun c hc => st.own.1.2 c hc), g2, g3, st.facts⟩
theorem sfld_whole {α : Type} {r : Rp α} : SFld r 0 r (fun _ y => y) := fun S cs x ds y h1 h2 => by
  have hl := r.len h1
  simpa [← hl] using h2
end
section
variable {dst : Option Tmp} {ty : TypeId} {pos : String} {after : Array Edge} {g : Option (Nat × Bool)}
theorem ok_fieldAddrB {T : TypeId} {i off sz b o : Nat} {p : Operand} (hf : fieldIn E.P T i = some (off, sz)) (h0 : Nat.beq sz 0 = false) (hp : HasTy E.N G p (tV (bptr b o))) : OpOK E O G ⟨dst, .fieldAddr T p i, ty, pos, after, g⟩ (tV (bptr b (o + off))) :=
  .of_pure fun a w S _ _ hF => by
    have h1 : a.eval p = bptr b o := hp S a hF
    obtain ⟨fs, f, e1, e2, e3, e4⟩ := run_field hf
    have h0' : sz ≠ 0 := fun e => by subst e; simp at h0
    refine ⟨bptr b (o + off), ?_, rfl⟩
    simp [execOp, h1, bptr, Instr.fieldAt, run_underlying e1, e2, Instr.sureAddr, fieldPlace, e4, h0', e3, addr_add]
theorem ok_loadB {α β : Type} {r : Rp α} {q : Rp β} {get : α → β} {x : α} {T U : TypeId} {b off sz bytes : Nat} {agg : Bool} {z : List Value} {p : Operand} (ti : TI E.P U sz bytes agg z) (hsz : q.sz = sz) (hag : q.agg = agg) (hget : Fld r off q get) (hm : bx r T b x ∈ O) (hp : HasTy E.N G p (tV (bptr b off))) :
    OpOK E O G ⟨dst, .load U p, ty, pos, after, g⟩ (tD q (get x)) :=
  .of_pure fun a w S _ ho hf => by
    have h1 : a.eval p = bptr b off := hp S a hf
    obtain ⟨⟨_, cur, h5, h6⟩, _⟩ := ho.mem _ hm
    have h7 := hget S _ _ h6
    refine ⟨_, ?_, _, rfl, h7⟩
    simp [execOp, h1, bptr, Instr.loadAt, Instr.sureAddr, run_loadVar_in ti h5 hsz hag h7]
theorem fld_whole {α : Type} {r : Rp α} : Fld r 0 r (fun x => x) := fun S cs x h => by
  have hl := r.len h
  simpa [← hl] using h
end
end
end Go.Proofs.Ytchjhcgkfglgiaa
