/- A small logic over the walk's rules: rules on memory that a call makes. It states nothing of any program. -/
import Derived.Test.YtchjhcgkfglgiaaW5
namespace Go.Proofs.Ytchjhcgkfglgiaa
open Go

theorem apart_symm {e f : OE} (h : e.apart f) : f.apart e := fun b hb he => h b he hb
theorem Own.swap {base : Nat} {B : Nat → Prop} {w : World} {S : SH} {e f : OE} {O : List OE} (h : Own base B w S (e :: f :: O)) : Own base B w S (f :: e :: O) := by
  obtain ⟨h1, h2, h3, h4, h5⟩ := h
  refine ⟨h3, ?_, h1, ?_, h5⟩
  · intro g hg
    rcases List.mem_cons.1 hg with rfl | hg
    · exact apart_symm (h2 _ (List.mem_cons_self ..))
    · exact h4 g hg
  · intro g hg
    exact h2 g (List.mem_cons_of_mem _ hg)
theorem Own.cong {base : Nat} {B : Nat → Prop} {w : World} {S : SH} {e : OE} {O O' : List OE} (h : Own base B w S (e :: O)) (k : Own base B w S O → Own base B w S O') (hm : ∀ f ∈ O', f ∈ O) : Own base B w S (e :: O') :=
  ⟨h.1, fun f hf => h.2.1 f (hm f hf), k h.2.2⟩
theorem Own.front2 {base : Nat} {B : Nat → Prop} {w : World} {S : SH} {a b c : OE} {O : List OE} (h : Own base B w S (a :: b :: c :: O)) : Own base B w S (c :: a :: b :: O) :=
  (Own.cong h Own.swap (fun f hf => by simp only [List.mem_cons] at hf ⊢; rcases hf with h | h | h <;> simp [h])).swap
theorem Own.front3 {base : Nat} {B : Nat → Prop} {w : World} {S : SH} {a b c d : OE} {O : List OE} (h : Own base B w S (a :: b :: c :: d :: O)) : Own base B w S (d :: a :: b :: c :: O) :=
  (Own.cong h Own.front2 (fun f hf => by simp only [List.mem_cons] at hf ⊢; rcases hf with h | h | h | h <;> simp [h])).swap
theorem Own.front4 {base : Nat} {B : Nat → Prop} {w : World} {S : SH} {a b c d e : OE} {O : List OE} (h : Own base B w S (a :: b :: c :: d :: e :: O)) : Own base B w S (e :: a :: b :: c :: d :: O) :=
  (Own.cong h Own.front3 (fun f hf => by simp only [List.mem_cons] at hf ⊢; rcases hf with h | h | h | h | h <;> simp [h])).swap

section
variable {E : En} {O : List OE} {G : Ctx} {a : Act} {w : World} {S : SH}
theorem St.own_map {O' : List OE} (h : St E O G a w S) (k : Own E.base E.B w S O → Own E.base E.B w S O') : St E O' G a w S := ⟨h.ext, h.sat, k h.own, h.facts⟩
theorem St.base_le (h : St E O G a w S) : E.base ≤ w.heap.size := h.ext.size
theorem St.drop {e : OE} (h : St E (e :: O) G a w S) : St E O G a w S := h.own_map fun h => h.2.2
theorem St.fresh {α : Type} (mm : Bool) (r : Rp α) (T : TypeId) (h : St E O G a w S) : St E (arrM mm r T none 0 [] :: O) G a w S :=
  h.own_map fun h => by refine ⟨⟨⟨[], ⟨rfl, rfl⟩, rfl, fun b hb => (by cases hb)⟩, fun k hk => ?_⟩, fun f _ b hb => ?_, h⟩ <;> (first | cases hk | cases hb)
/-- What the call has made becomes no one's to write. -/
theorem settle_ext {e : OE} {b : Nat} {o o' : Obj} (h : St E (e :: O) G a w S) (hb : e.fp b) (ho : w.heap[b]? = some o') (hoo : ole o o') (hn : S b = none) : St E O G a w (S.set b o) ∧ SH.le S (S.set b o) ∧ Ext (fun k => k = b) w S w (S.set b o) ∧ Sat w (S.set b o) := by
  have hbase := h.own.1.2 b hb
  have hle : SH.le S (S.set b o) := SH.le_set fun q hq => (by rw [hn] at hq; cases hq)
  have hsat : Sat w (S.set b o) := h.sat.set ho hoo
  have hext : Ext (fun k => k = b) w S w (S.set b o) := ⟨rfl, rfl, rfl, Nat.le_refl _, Nat.le_refl _, fun _ _ _ => rfl, hle, fun k _ hk => SH.set_ne _ _ hk⟩
  refine ⟨⟨h.ext.step hext fun c hc => by subst hc; exact hbase, hsat, h.own.2.2.ext hext fun f hf c hc hm => ?_, h.facts.mono hle⟩, hle, hext, hsat⟩
  subst hm
  exact h.own.2.1 f hf c hb hc
theorem rcs_zero {α : Type} {r : Rp α} {S : SH} {cs : List Value} : rcs r S cs [] ↔ cs = [] := Iff.rfl
/-- A slot that holds a list of one's own that is settled as far as it goes. -/
def tO {α : Type} (r : Rp α) (l : Option Nat) (cap : Nat) (xs : List α) : Ty where
  p := fun S v => v = oslV l cap xs.length ∧ (tD (rSl r) xs).p S v
  mono := fun h ⟨h1, h2⟩ => ⟨h1, Ty.mono _ h h2⟩
theorem tO_v {N : Fr} {G : Ctx} {x : Operand} {α : Type} {r : Rp α} {l : Option Nat} {cap : Nat} {xs : List α} (h : HasTy N G x (tO r l cap xs)) : HasTy N G x (tV (oslV l cap xs.length)) := fun S a hf => (h S a hf).1
theorem tO_d {N : Fr} {G : Ctx} {x : Operand} {α : Type} {r : Rp α} {l : Option Nat} {cap : Nat} {xs : List α} (h : HasTy N G x (tO r l cap xs)) : HasTy N G x (tD (rSl r) xs) := fun S a hf => (h S a hf).2
theorem tip_data {α : Type} {r : Rp α} {T : TypeId} {l : Option Nat} {cap : Nat} {xs : List α} {w : World} {S : SH} (h : arrP true r T l cap xs w S) : (tD (rSl r) xs).p S (oslV l cap xs.length) := by
  obtain ⟨cells, h1, h2, h3⟩ := h
  cases l with
  | none =>
    have hx : xs = [] := List.eq_nil_of_length_eq_zero h1.1
    subst hx
    exact tSl_nil
  | some b =>
    obtain ⟨cur, g1, g2, g3, g4, g5⟩ := h1
    refine tSl_iff.2 ⟨_, cap, rfl, g2, g3, .inr ⟨b, 0, cells.toArray, T, (0, 0), rfl, h3 b rfl, ?_⟩⟩
    have := rcs_len h2
    rw [List.drop_zero, List.take_of_length_le (by simp [this])]
    exact h2
theorem St.freeze {α : Type} {r : Rp α} {T : TypeId} {l : Option Nat} {cap : Nat} {xs : List α} (h : St E (arr r T l cap xs :: O) G a w S) :
    ∃ S', St E (tip r T l cap xs :: O) G a w S' := by
  obtain ⟨⟨cells, h1, h2, h3⟩, hbase⟩ := h.own.1
  cases l with
  | none => exact ⟨S, h.ext, h.sat, ⟨⟨⟨cells, h1, h2, fun b hb => (by cases hb)⟩, hbase⟩, h.own.2⟩, h.facts⟩
  | some b =>
    obtain ⟨cur, g1, g2, g3, g4, g5⟩ := h1
    have hoo : ole (.cells cells.toArray T (0, 0)) (.cells cur T (0, 0)) := by
      refine ⟨cur.toList.drop (xs.length * r.sz), ?_⟩
      congr 1
      apply Array.ext'
      rw [← g5, List.take_append_drop]
    obtain ⟨h8, hle, _, _⟩ := settle_ext h rfl g1 hoo (h3 b rfl)
    refine ⟨_, h8.ext, h8.sat, ⟨⟨⟨cells, ⟨cur, g1, g2, g3, g4, g5⟩, rcs_mono hle h2, fun b' hb' => ?_⟩, hbase⟩, h.own.2.1, h8.own⟩, h8.facts⟩
    have hb2 : b = b' := Option.some.inj hb'
    subst hb2
    exact SH.set_same _ _ _
theorem St.settle {α : Type} {mm : Bool} {r : Rp α} {T : TypeId} {l : Option Nat} {cap : Nat} {xs : List α} (h : St E (arrM mm r T l cap xs :: O) G a w S) :
    ∃ S', St E O G a w S' ∧ (tD (rSl r) xs).p S' (oslV l cap xs.length) := by
  cases mm with
  | true => exact ⟨S, h.drop, tip_data h.own.1.1⟩
  | false =>
    obtain ⟨S', h1⟩ := h.freeze
    exact ⟨S', h1.drop, tip_data h1.own.1.1⟩
end

section
variable {E : En} {O : List OE} {G : Ctx} {Q : Exit → Act → World → Prop} {ops : Array Oper} {rest : List Oper} {c : Code} {e : Exit}
theorem facts_cons {N : Fr} {S : SH} {a : Act} {k : Nat} {t : Ty} (h : Facts N S a G) (hk : t.p S (a.tmps.getD k undef)) : Facts N S a ((k, t) :: G) :=
  ⟨h.size, h.defers, fun j u hj => by
    unfold look at hj
    by_cases hb : Nat.beq k j = true
    · rw [hb] at hj
      have := Nat.eq_of_beq_eq_true hb
      subst this
      rw [← show t = u from by simpa using hj]; exact hk
    · rw [Bool.not_eq_true] at hb
      rw [hb] at hj
      exact h.at_ j u hj⟩
theorem St.cons {a : Act} {w : World} {S : SH} {k : Nat} {t : Ty} (h : St E O G a w S) (hk : t.p S (a.tmps.getD k undef)) : St E O ((k, t) :: G) a w S := ⟨h.ext, h.sat, h.own, facts_cons h.facts hk⟩
theorem St.settleAt {a : Act} {w : World} {S : SH} {α : Type} {mm : Bool} {r : Rp α} {T : TypeId} {l : Option Nat} {cap n : Nat} {xs : List α} {k : Nat} (h : St E (arrM mm r T l cap xs :: O) G a w S) (hk : look G k = some (tV (oslV l cap n))) (hn : n = xs.length) :
    ∃ S', St E O ((k, tD (rSl r) xs) :: G) a w S' := by
  subst hn
  have hv : a.tmps.getD k undef = oslV l cap xs.length := h.facts.at_ k _ hk
  obtain ⟨S', h1, h2⟩ := h.settle
  exact ⟨S', h1.cons (by rw [hv]; exact h2)⟩
theorem St.tipAt {a : Act} {w : World} {S : SH} {α : Type} {r : Rp α} {T : TypeId} {l : Option Nat} {cap n : Nat} {xs : List α} {k : Nat} (h : St E (tip r T l cap xs :: O) G a w S) (hk : look G k = some (tV (oslV l cap n))) (hn : n = xs.length) :
    St E (tip r T l cap xs :: O) ((k, tO r l cap xs) :: G) a w S := by
  subst hn
  have hv : a.tmps.getD k undef = oslV l cap xs.length := h.facts.at_ k _ hk
  exact h.cons ⟨hv, by rw [hv]; exact tip_data h.own.1.1⟩
theorem RG.settle {α : Type} {mm : Bool} {r : Rp α} {T : TypeId} {l : Option Nat} {cap n : Nat} {xs : List α} (k : Nat) (hk : look G k = some (tV (oslV l cap n))) (h : RG E ops Q rest O ((k, tD (rSl r) xs) :: G)) (hn : n = xs.length := by rfl) : RG E ops Q rest (arrM mm r T l cap xs :: O) G :=
  fun a w _ st => let ⟨S', st'⟩ := st.settleAt hk hn; h a w S' st'
theorem CG.settle {α : Type} {mm : Bool} {r : Rp α} {T : TypeId} {l : Option Nat} {cap n : Nat} {xs : List α} (k : Nat) (hk : look G k = some (tV (oslV l cap n))) (h : CG E Q c O ((k, tD (rSl r) xs) :: G)) (hn : n = xs.length := by rfl) : CG E Q c (arrM mm r T l cap xs :: O) G :=
  fun a w _ st => let ⟨S', st'⟩ := st.settleAt hk hn; h a w S' st'
theorem AT.settle {α : Type} {mm : Bool} {r : Rp α} {T : TypeId} {l : Option Nat} {cap n : Nat} {xs : List α} (k : Nat) (hk : look G k = some (tV (oslV l cap n))) (h : AT E Q e O ((k, tD (rSl r) xs) :: G)) (hn : n = xs.length := by rfl) : AT E Q e (arrM mm r T l cap xs :: O) G :=
  fun a w _ st => let ⟨S', st'⟩ := st.settleAt hk hn; h a w S' st'
theorem RG.fresh {α : Type} (mm : Bool) (r : Rp α) (T : TypeId) (h : RG E ops Q rest (arrM mm r T none 0 [] :: O) G) : RG E ops Q rest O G := fun a w S st => h a w S (st.fresh mm r T)
theorem CG.fresh {α : Type} (mm : Bool) (r : Rp α) (T : TypeId) (h : CG E Q c (arrM mm r T none 0 [] :: O) G) : CG E Q c O G := fun a w S st => h a w S (st.fresh mm r T)
theorem RG.drop {f : OE} (h : RG E ops Q rest O G) : RG E ops Q rest (f :: O) G := fun a w S st => h a w S st.drop
theorem CG.drop {f : OE} (h : CG E Q c O G) : CG E Q c (f :: O) G := fun a w S st => h a w S st.drop
theorem AT.drop {f : OE} (h : AT E Q e O G) : AT E Q e (f :: O) G := fun a w S st => h a w S st.drop
theorem RG.front1 {x y : OE} (h : RG E ops Q rest (y :: x :: O) G) : RG E ops Q rest (x :: y :: O) G := fun a w S st => h a w S (st.own_map Own.swap)
theorem CG.front1 {x y : OE} (h : CG E Q c (y :: x :: O) G) : CG E Q c (x :: y :: O) G := fun a w S st => h a w S (st.own_map Own.swap)
theorem AT.front1 {x y : OE} (h : AT E Q e (y :: x :: O) G) : AT E Q e (x :: y :: O) G := fun a w S st => h a w S (st.own_map Own.swap)
theorem RG.front2 {x y z : OE} (h : RG E ops Q rest (z :: x :: y :: O) G) : RG E ops Q rest (x :: y :: z :: O) G := fun a w S st => h a w S (st.own_map Own.front2)
theorem CG.front2 {x y z : OE} (h : CG E Q c (z :: x :: y :: O) G) : CG E Q c (x :: y :: z :: O) G := fun a w S st => h a w S (st.own_map Own.front2)
theorem AT.front2 {x y z : OE} (h : AT E Q e (z :: x :: y :: O) G) : AT E Q e (x :: y :: z :: O) G := fun a w S st => h a w S (st.own_map Own.front2)
theorem RG.front3 {x y z u : OE} (h : RG E ops Q rest (u :: x :: y :: z :: O) G) : RG E ops Q rest (x :: y :: z :: u :: O) G := fun a w S st => h a w S (st.own_map Own.front3)
theorem CG.front3 {x y z u : OE} (h : CG E Q c (u :: x :: y :: z :: O) G) : CG E Q c (x :: y :: z :: u :: O) G := fun a w S st => h a w S (st.own_map Own.front3)
theorem AT.front3 {x y z u : OE} (h : AT E Q e (u :: x :: y :: z :: O) G) : AT E Q e (x :: y :: z :: u :: O) G := fun a w S st => h a w S (st.own_map Own.front3)
theorem RG.front4 {x y z u v : OE} (h : RG E ops Q rest (v :: x :: y :: z :: u :: O) G) : RG E ops Q rest (x :: y :: z :: u :: v :: O) G := fun a w S st => h a w S (st.own_map Own.front4)
theorem CG.front4 {x y z u v : OE} (h : CG E Q c (v :: x :: y :: z :: u :: O) G) : CG E Q c (x :: y :: z :: u :: v :: O) G := fun a w S st => h a w S (st.own_map Own.front4)
theorem AT.front4 {x y z u v : OE} (h : AT E Q e (v :: x :: y :: z :: u :: O) G) : AT E Q e (x :: y :: z :: u :: v :: O) G := fun a w S st => h a w S (st.own_map Own.front4)
theorem LG.settle {α : Type} {mm : Bool} {r : Rp α} {T : TypeId} {l : Option Nat} {cap n : Nat} {xs : List α} (k : Nat) (hk : look G k = some (tV (oslV l cap n))) (h : LG E Q c O ((k, tD (rSl r) xs) :: G)) (hn : n = xs.length := by rfl) : LG E Q c (arrM mm r T l cap xs :: O) G :=
  fun a w _ st => let ⟨S', st'⟩ := st.settleAt hk hn; h a w S' st'
theorem LG.fresh {α : Type} (mm : Bool) (r : Rp α) (T : TypeId) (h : LG E Q c (arrM mm r T none 0 [] :: O) G) : LG E Q c O G := fun a w S st => h a w S (st.fresh mm r T)
theorem LG.drop {f : OE} (h : LG E Q c O G) : LG E Q c (f :: O) G := fun a w S st => h a w S st.drop
theorem LG.front1 {x y : OE} (h : LG E Q c (y :: x :: O) G) : LG E Q c (x :: y :: O) G := fun a w S st => h a w S (st.own_map Own.swap)
theorem LG.front2 {x y z : OE} (h : LG E Q c (z :: x :: y :: O) G) : LG E Q c (x :: y :: z :: O) G := fun a w S st => h a w S (st.own_map Own.front2)
theorem LG.front3 {x y z u : OE} (h : LG E Q c (u :: x :: y :: z :: O) G) : LG E Q c (x :: y :: z :: u :: O) G := fun a w S st => h a w S (st.own_map Own.front3)
theorem LG.front4 {x y z u v : OE} (h : LG E Q c (v :: x :: y :: z :: u :: O) G) : LG E Q c (x :: y :: z :: u :: v :: O) G := fun a w S st => h a w S (st.own_map Own.front4)
theorem RG.freeze {α : Type} {r : Rp α} {T : TypeId} {l : Option Nat} {cap : Nat} {xs : List α} (h : RG E ops Q rest (tip r T l cap xs :: O) G) : RG E ops Q rest (arr r T l cap xs :: O) G := fun a w _ st => let ⟨S', st'⟩ := st.freeze; h a w S' st'
theorem RG.tipAt {α : Type} {r : Rp α} {T : TypeId} {l : Option Nat} {cap n : Nat} {xs : List α} (k : Nat) (hk : look G k = some (tV (oslV l cap n))) (h : RG E ops Q rest (tip r T l cap xs :: O) ((k, tO r l cap xs) :: G)) (hn : n = xs.length := by rfl) : RG E ops Q rest (tip r T l cap xs :: O) G := fun a w S st => h a w S (st.tipAt hk hn)
theorem CG.freeze {α : Type} {r : Rp α} {T : TypeId} {l : Option Nat} {cap : Nat} {xs : List α} (h : CG E Q c (tip r T l cap xs :: O) G) : CG E Q c (arr r T l cap xs :: O) G := fun a w _ st => let ⟨S', st'⟩ := st.freeze; h a w S' st'
theorem CG.tipAt {α : Type} {r : Rp α} {T : TypeId} {l : Option Nat} {cap n : Nat} {xs : List α} (k : Nat) (hk : look G k = some (tV (oslV l cap n))) (h : CG E Q c (tip r T l cap xs :: O) ((k, tO r l cap xs) :: G)) (hn : n = xs.length := by rfl) : CG E Q c (tip r T l cap xs :: O) G := fun a w S st => h a w S (st.tipAt hk hn)
theorem AT.freeze {α : Type} {r : Rp α} {T : TypeId} {l : Option Nat} {cap : Nat} {xs : List α} (h : AT E Q e (tip r T l cap xs :: O) G) : AT E Q e (arr r T l cap xs :: O) G := fun a w _ st => let ⟨S', st'⟩ := st.freeze; h a w S' st'
theorem AT.tipAt {α : Type} {r : Rp α} {T : TypeId} {l : Option Nat} {cap n : Nat} {xs : List α} (k : Nat) (hk : look G k = some (tV (oslV l cap n))) (h : AT E Q e (tip r T l cap xs :: O) ((k, tO r l cap xs) :: G)) (hn : n = xs.length := by rfl) : AT E Q e (tip r T l cap xs :: O) G := fun a w S st => h a w S (st.tipAt hk hn)
theorem LG.freeze {α : Type} {r : Rp α} {T : TypeId} {l : Option Nat} {cap : Nat} {xs : List α} (h : LG E Q c (tip r T l cap xs :: O) G) : LG E Q c (arr r T l cap xs :: O) G := fun a w _ st => let ⟨S', st'⟩ := st.freeze; h a w S' st'
theorem LG.tipAt {α : Type} {r : Rp α} {T : TypeId} {l : Option Nat} {cap n : Nat} {xs : List α} (k : Nat) (hk : look G k = some (tV (oslV l cap n))) (h : LG E Q c (tip r T l cap xs :: O) ((k, tO r l cap xs) :: G)) (hn : n = xs.length := by rfl) : LG E Q c (tip r T l cap xs :: O) G := fun a w S st => h a w S (st.tipAt hk hn)
/-- A bound that a list has because it lies in memory. -/
theorem CG.have_len {α : Type} {r : Rp α} {xs : List α} {k : Nat} (hk : look G k = some (tD (rSl r) xs)) (h : xs.length ≤ maxLen → CG E Q c O G) : CG E Q c O G := fun a w S st => by
  obtain ⟨_, _, _, h1, h2, _⟩ := tSl_iff.1 (st.facts.at_ k _ hk)
  exact h (Nat.le_trans h1 h2) a w S st

section
variable {d : Nat} {ty : TypeId} {pos : String} {after : Array Edge}
theorem St.append {a : Act} {w : World} {S : SH} {mm : Bool} {α : Type} {r : Rp α} {T t t' ty : TypeId} {sz bytes : Nat} {agg : Bool} {z : List Value} {l : Option Nat} {cap : Nat} {xs ys zs : List α} {v : Value} {news : List Value} (ti : TI E.P T sz bytes agg z) (hsz : r.sz = sz) (hz : Nat.beq z.length sz = true) (h0 : Nat.blt 0 sz = true) (h128 : Nat.ble bytes 2048 = true)
    (ht : E.P.underlying t = some (.slice T)) (st : St E (arrM mm r T l cap xs :: O) G a w S) (hsrc : Src E.P r.sz t' v ys.length news w) (hrc : rcs r S news ys) (happ : app xs ys = some zs) :
    ∃ l' cap' w' S', (Builtin.append_ #[t, t'] ty #[oslV l cap xs.length, v]).run E.P w = .ok (oslV l' cap' zs.length) w' ∧ St E (arrM mm r T l' cap' zs :: O) G a w' S' := by
  obtain ⟨l', cap', w', S', hr, hext, hsat, hh, hnew⟩ := run_arr_append (ty := ty) ti hsz hz h0 h128 ht st.sat st.own.1 st.base_le hsrc hrc happ
  refine ⟨l', cap', w', S', hr, st.ext.step hext fun b hb => st.own.1.2 b hb, hsat, ⟨hh, fun f hf b hb hfb => ?_, st.own.2.2.ext hext fun f hf b hb hbl => st.own.2.1 f hf b hbl hb⟩, st.facts.mono hext.keep⟩
  rcases hnew b hb with h | h
  · exact st.own.2.1 f hf b h hfb
  · have := f.here (Own.mem st.own.2.2 f hf).1 b hfb
    omega
theorem St.put {a : Act} {w : World} {S : SH} {d : Nat} {v : Value} {t : Ty} (h : St E O G a w S) (hd : Nat.blt d E.N.n = true) (hv : t.p S v) : St E O ((d, t) :: G) (a.put (some d) v) w S := ⟨h.ext, h.sat, h.own, h.facts.put hd hv⟩
theorem RG.appendG {α : Type} {r : Rp α} {T t t' : TypeId} {sz bytes : Nat} {agg : Bool} {z : List Value} {mm : Bool} {l : Option Nat} {cap n : Nat} {xs ys zs : List α} {x y : Operand} {u : Nat → Option Nat → Ty} (ti : TI E.P T sz bytes agg z) (hsz : r.sz = sz) (hz : Nat.beq z.length sz = true) (h0 : Nat.blt 0 sz = true) (h128 : Nat.ble bytes 2048 = true)
    (ht : E.P.underlying t = some (.slice T)) (hd : Nat.blt d E.N.n = true) (hx : HasTy E.N G x (tV (oslV l cap n))) (hy : ∀ a w S, St E (arrM mm r T l cap xs :: O) G a w S → ∃ news, Src E.P r.sz t' (a.eval y) ys.length news w ∧ rcs r S news ys) (happ : app xs ys = some zs)
    (hu : ∀ l' cap' w0 S, (arrM mm r T l' cap' zs).p w0 S → (u cap' l').p S (oslV l' cap' zs.length))
    (k : ∀ l' cap', RG E ops Q rest (arrM mm r T l' cap' zs :: O) ((d, u cap' l') :: G)) (hn : n = xs.length) :
    RG E ops Q (⟨some d, .call ⟨.builtin .append, #[x, y], #[t, t']⟩, ty, pos, after, none⟩ :: rest) (arrM mm r T l cap xs :: O) G := .of rfl fun a w S st => by
  subst hn
  have h1 : a.eval x = oslV l cap xs.length := hx S a st.facts
  obtain ⟨news, h2, h3⟩ := hy a w S st
  obtain ⟨l', cap', w', S', hr, st'⟩ := st.append (ty := ty) ti hsz hz h0 h128 ht h2 h3 happ
  have hrun : (execOp a.eval ⟨some d, .call ⟨.builtin .append, #[x, y], #[t, t']⟩, ty, pos, after, none⟩).run E.P w = .ok (.value (oslV l' cap' zs.length)) w' := by
    simp [execOp, resolve, invoke, builtin, h1, hr]
  refine ⟨fun c h => (by cases h), ?_⟩
  rw [hrun]
  exact k l' cap' _ _ S' (st'.put hd (hu l' cap' w' S' st'.own.1.1))
theorem RG.append {α : Type} {r : Rp α} {T t t' : TypeId} {sz bytes : Nat} {agg : Bool} {z : List Value} {l : Option Nat} {cap n : Nat} {xs ys zs : List α} {x y : Operand} (ti : TI E.P T sz bytes agg z) (hsz : r.sz = sz) (hz : Nat.beq z.length sz = true) (h0 : Nat.blt 0 sz = true) (h128 : Nat.ble bytes 2048 = true)
    (ht : E.P.underlying t = some (.slice T)) (ht' : t' = t) (hd : Nat.blt d E.N.n = true) (hx : HasTy E.N G x (tV (oslV l cap n))) (hy : HasTy E.N G y (tD (rSl r) ys)) (happ : app xs ys = some zs)
    (k : ∀ l' cap', RG E ops Q rest (arr r T l' cap' zs :: O) ((d, tV (oslV l' cap' zs.length)) :: G)) (hn : n = xs.length := by rfl) :
    RG E ops Q (⟨some d, .call ⟨.builtin .append, #[x, y], #[t, t']⟩, ty, pos, after, none⟩ :: rest) (arr r T l cap xs :: O) G := by
  subst ht'
  exact RG.appendG (u := fun cap' l' => tV (oslV l' cap' zs.length)) ti hsz hz h0 h128 ht hd hx (fun a w S st => src_of_data ht st.sat (hy S a st.facts)) happ (fun _ _ _ _ _ => rfl) k hn
theorem RG.appendT {α : Type} {r : Rp α} {T t t' : TypeId} {sz bytes : Nat} {agg : Bool} {z : List Value} {l : Option Nat} {cap : Nat} {xs ys zs : List α} {x y : Operand} (ti : TI E.P T sz bytes agg z) (hsz : r.sz = sz) (hz : Nat.beq z.length sz = true) (h0 : Nat.blt 0 sz = true) (h128 : Nat.ble bytes 2048 = true)
    (ht : E.P.underlying t = some (.slice T)) (ht' : t' = t) (hd : Nat.blt d E.N.n = true) (hx : HasTy E.N G x (tO r l cap xs)) (hy : HasTy E.N G y (tD (rSl r) ys)) (happ : app xs ys = some zs)
    (k : ∀ l' cap', RG E ops Q rest (tip r T l' cap' zs :: O) ((d, tO r l' cap' zs) :: G)) :
    RG E ops Q (⟨some d, .call ⟨.builtin .append, #[x, y], #[t, t']⟩, ty, pos, after, none⟩ :: rest) (tip r T l cap xs :: O) G := by
  subst ht'
  exact RG.appendG (u := fun cap' l' => tO r l' cap' zs) ti hsz hz h0 h128 ht hd (tO_v hx) (fun a w S st => src_of_data ht st.sat (hy S a st.facts)) happ (fun _ _ _ _ h => ⟨rfl, tip_data h⟩) k rfl
theorem RG.appendS {T t t' : TypeId} {bytes : Nat} {agg : Bool} {z : List Value} {l : Option Nat} {cap n : Nat} {xs zs : List Int} {s : Str} {x y : Operand} (ti : TI E.P T 1 bytes agg z) (hz : Nat.beq z.length 1 = true) (h128 : Nat.ble bytes 2048 = true)
    (ht : E.P.underlying t = some (.slice T)) (ht' : E.P.underlying t' = some .string) (hd : Nat.blt d E.N.n = true) (hx : HasTy E.N G x (tV (oslV l cap n))) (hy : HasTy E.N G y (tD rS s)) (happ : app xs (bytesOf s) = some zs)
    (k : ∀ l' cap', RG E ops Q rest (arr (rI .u8) T l' cap' zs :: O) ((d, tV (oslV l' cap' zs.length)) :: G)) (hn : n = xs.length := by rfl) :
    RG E ops Q (⟨some d, .call ⟨.builtin .append, #[x, y], #[t, t']⟩, ty, pos, after, none⟩ :: rest) (arr (rI .u8) T l cap xs :: O) G :=
  RG.appendG (r := rI .u8) (u := fun cap' l' => tV (oslV l' cap' zs.length)) ti rfl hz rfl h128 ht hd hx (fun a w S st => src_of_str ht' (hy S a st.facts)) happ (fun _ _ _ _ _ => rfl) k hn
theorem RG.appendST {T t t' : TypeId} {bytes : Nat} {agg : Bool} {z : List Value} {l : Option Nat} {cap : Nat} {xs zs : List Int} {s : Str} {x y : Operand} (ti : TI E.P T 1 bytes agg z) (hz : Nat.beq z.length 1 = true) (h128 : Nat.ble bytes 2048 = true)
    (ht : E.P.underlying t = some (.slice T)) (ht' : E.P.underlying t' = some .string) (hd : Nat.blt d E.N.n = true) (hx : HasTy E.N G x (tO (rI .u8) l cap xs)) (hy : HasTy E.N G y (tD rS s)) (happ : app xs (bytesOf s) = some zs)
    (k : ∀ l' cap', RG E ops Q rest (tip (rI .u8) T l' cap' zs :: O) ((d, tO (rI .u8) l' cap' zs) :: G)) :
    RG E ops Q (⟨some d, .call ⟨.builtin .append, #[x, y], #[t, t']⟩, ty, pos, after, none⟩ :: rest) (tip (rI .u8) T l cap xs :: O) G :=
  RG.appendG (r := rI .u8) (u := fun cap' l' => tO (rI .u8) l' cap' zs) ti rfl hz rfl h128 ht hd (tO_v hx) (fun a w S st => src_of_str ht' (hy S a st.facts)) happ (fun _ _ _ _ h => ⟨rfl, tip_data h⟩) k rfl
end
end
end Go.Proofs.Ytchjhcgkfglgiaa
