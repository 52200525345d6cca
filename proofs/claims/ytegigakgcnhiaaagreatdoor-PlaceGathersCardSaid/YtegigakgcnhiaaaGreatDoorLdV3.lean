/- Facts of this claim: W33, W34, W35, W36, W37, W38, W39, W40, W48, W50, W51, W41, W42, W43, W21, W27, W45, W46, W47. -/
import Derived.Test.YtegigakgcnhiaaaGreatDoorLdV2
import Derived.Lib.Bytealg
import Derived.Maps.Range
import Derived.Laws.IdiomRangeMap
import Derived.Test.YtegigakgcnhiaaaGreatDoorLdV1
import Derived.Laws.BytesString
import Derived.Below
import Derived.ProofKit
import Derived.OpenShut
import Derived.LaidMore
namespace Go.Proofs.YtegigakgcnhiaaaGreatDoor
open Go

def slots0 (N : Nat) : List Nat → List Oper → Bool
 | _, [] => true
 | seen, o :: rest => match o.dst with
  | some d => Nat.blt d N && !(seen.any (Nat.beq d)) && slots0 N (d :: seen) rest
  | none => slots0 N seen rest
theorem slots0_spec {N : Nat} (l : List Oper) : ∀ (seen : List Nat), slots0 N seen l = true →
  (∀ o : Oper, o ∈ l → ∀ d, o.dst = some d → d < N ∧ d ∉ seen) ∧ ∀ (i j : Nat) (o p : Oper) (d : Nat), l[i]? = some o → l[j]? = some p → o.dst = some d → p.dst = some d → i = j := by
 induction l with
 | nil => exact fun _ _ => ⟨fun _ h => (by cases h), fun _ _ _ _ _ h => (by simp at h)⟩
 | cons o l ih =>
  intro seen h
  unfold slots0 at h
  cases hd : o.dst with
  | none =>
   rw [hd] at h
   obtain ⟨h1, h2⟩ := ih seen h
   refine ⟨fun q hq d hqd => ?_, fun i j p q d hi hj hp hq => ?_⟩
   ·rcases List.mem_cons.1 hq with rfl | hq
    ·rw [hd] at hqd; cases hqd
    ·exact h1 q hq d hqd
   ·cases i with
    | zero => simp at hi; subst hi; rw [hd] at hp; cases hp
    | succ i =>
     cases j with
     | zero => simp at hj; subst hj; rw [hd] at hq; cases hq
     | succ j => rw [h2 i j p q d (by simpa using hi) (by simpa using hj) hp hq]
  | some d0 =>
   rw [hd] at h
   simp only [Bool.and_eq_true, Nat.blt_eq, Bool.not_eq_true'] at h
   obtain ⟨⟨g1, g2⟩, g3⟩ := h
   obtain ⟨h1, h2⟩ := ih (d0 :: seen) g3
   have hns : d0 ∉ seen := fun hm => by
    have : seen.any (Nat.beq d0) = true := List.any_eq_true.2 ⟨d0, hm, Nat.beq_refl d0⟩
    rw [this] at g2; cases g2
   refine ⟨fun q hq d hqd => ?_, fun i j p q d hi hj hp hq => ?_⟩
   ·rcases List.mem_cons.1 hq with rfl | hq
    ·rw [hd] at hqd; cases hqd; exact ⟨g1, hns⟩
    ·obtain ⟨k1, k2⟩ := h1 q hq d hqd
     exact ⟨k1, fun hm => k2 (List.mem_cons_of_mem _ hm)⟩
   ·cases i with
    | zero =>
     cases j with
     | zero => rfl
     | succ j =>
      simp at hi; subst hi
      rw [hd] at hp; cases hp
      exact absurd (List.mem_cons_self ..) (h1 q (List.mem_of_getElem? (by simpa using hj)) d0 hq).2
    | succ i =>
     cases j with
     | zero =>
      simp at hj; subst hj
      rw [hd] at hq; cases hq
      exact absurd (List.mem_cons_self ..) (h1 p (List.mem_of_getElem? (by simpa using hi)) d0 hp).2
     | succ j => rw [h2 i j p q d (by simpa using hi) (by simpa using hj) hp hq]
def outF : List Oper → List Ty → Ctx → Ctx
 | o :: l, t :: ts, G => match o.dst with
  | some d => (d, t) :: outF l ts G
  | none => outF l ts G
 | _, _, G => G
theorem look_outF {G : Ctx} (l : List Oper) : ∀ (ts : List Ty) (k : Nat) (t : Ty), ts.length = l.length → look (outF l ts G) k = some t →
  (∃ (j : Nat) (o : Oper), l[j]? = some o ∧ o.dst = some k ∧ ts[j]? = some t) ∨ (look G k = some t ∧ ∀ o : Oper, o ∈ l → o.dst ≠ some k) := by
 induction l with
 | nil =>
  intro ts k t hl h
  have : ts = [] := List.eq_nil_of_length_eq_zero (by simpa using hl)
  subst this
  exact .inr ⟨h, fun _ h => (by cases h)⟩
 | cons o l ih =>
  intro ts k t hl h
  cases ts with
  | nil => simp at hl
  | cons u ts =>
   unfold outF at h
   have hl' : ts.length = l.length := by simpa using hl
   have lift : ((∃ (j : Nat) (p : Oper), l[j]? = some p ∧ p.dst = some k ∧ ts[j]? = some t) ∨ (look G k = some t ∧ ∀ p : Oper, p ∈ l → p.dst ≠ some k)) → o.dst ≠ some k →
     (∃ (j : Nat) (p : Oper), (o :: l)[j]? = some p ∧ p.dst = some k ∧ (u :: ts)[j]? = some t) ∨ (look G k = some t ∧ ∀ p : Oper, p ∈ o :: l → p.dst ≠ some k) := by
    rintro (⟨j, p, h1, h2, h3⟩ | ⟨h1, h2⟩) hne
    ·exact .inl ⟨j + 1, p, by simpa using h1, h2, by simpa using h3⟩
    ·exact .inr ⟨h1, fun p hp => (List.mem_cons.1 hp).elim (fun e => by subst e; exact hne) (h2 p)⟩
   cases hd : o.dst with
   | none =>
    rw [hd] at h
    exact lift (ih ts k t hl' h) (by rw [hd]; exact fun e => by cases e)
   | some d =>
    rw [hd] at h
    simp only at h
    unfold look at h
    by_cases hb : Nat.beq d k = true
    ·rw [hb] at h
     have := Nat.eq_of_beq_eq_true hb
     subst this
     have e : u = t := by simpa using h
     subst e
     exact .inl ⟨0, o, rfl, hd, rfl⟩
    ·rw [Bool.not_eq_true] at hb
     rw [hb] at h
     refine lift (ih ts k t hl' h) ?_
     rw [hd]
     intro e
     have : d = k := Option.some.inj e
     subst this
     simp at hb
abbrev TS := List Nat × (List OI → Ty)
def TS.at (p : TS) (σ : Nat → OI) : Ty := p.2 (p.1.map σ)
def tc (t : Ty) : TS := ([], fun _ => t)
def OmS (Ss : List ((Nat → OI) → List OE)) (c : Nat) (σ : Nat → OI) : List OE := match Ss[c]? with | some f => f σ | none => []
structure NS where
 slot : Nat
 ty : (Nat → OI) → Ty
 src : Option Nat
def NS.at (n : NS) (σ : Nat → OI) : Nd := ⟨n.slot, n.ty σ, n.src⟩
def NSOK (G : Ctx) (ts : List TS) (n : NS) : Prop :=
 match n.src with
 | some j => ∀ σ, (ts[j]?).map (fun p => p.at σ) = some (n.ty σ)
 | none => ∀ σ, look G n.slot = some (n.ty σ)
def NSsOK (G : Ctx) (ts : List TS) : List NS → Prop
 | [] => True
 | n :: l => NSOK G ts n ∧ NSsOK G ts l
theorem NSsOK.mem {G : Ctx} {ts : List TS} : ∀ {l : List NS}, NSsOK G ts l → ∀ n ∈ l, NSOK G ts n
 | _ :: _, ⟨h, _⟩, _, .head _ => h
 | _ :: _, ⟨_, h⟩, _, .tail _ hm => NSsOK.mem h _ hm
def needS (l : List NS) (σ : Nat → OI) : Ctx := ex (l.map (·.at σ))
def tsS (ts : List TS) (σ : Nat → OI) : List Ty := ts.map fun p => p.at σ
def depB (L : List Oper) (es : List Bool) (i : Nat) (p : TS) : Bool := p.1.all fun k => (es[k]?).getD false && (Nat.beq k i || ew L L.length i k)
def winB (L : List Oper) (es : List Bool) (i lo hi : Nat) : Bool :=
 Nat.ble lo (bu es es.length) && (List.range es.length).all fun k => !((es[k]?).getD false) || ((Nat.ble lo (bu es k) || ew L L.length i k) && (Nat.blt (bu es k) hi || ew L L.length k i))
def DS (E : En) (G : Ctx) (L : List Oper) (ts : List TS) (Ss : List ((Nat → OI) → List OE)) (es0 : List Bool) : Nat → Nat → List Oper → List Bool → Prop
 | _, _, [], _ => True
 | i, c, o :: rest, false :: es => (∃ (needs : List NS) (t : TS) (lo hi : Nat), ts[i]? = some t ∧ NSsOK G ts needs ∧ (needs.all fun n => j7 L o i (n.at fun _ => zoi)) = true ∧ cV i o = true ∧ depB L es0 i t = true ∧ winB L es0 i lo hi = true ∧ o.dst.isSome = true ∧
   ∀ c σ, lo ≤ c → c ≤ hi → OpG E (OmS Ss c σ) L.toArray (needS needs σ) o (t.at σ)) ∧ DS E G L ts Ss es0 (i + 1) c rest es
 | i, c, o :: rest, true :: es => (∃ (needs : List NS) (t : TS), ts[i]? = some t ∧ NSsOK G ts needs ∧ (needs.all fun n => j7 L o i (n.at fun _ => zoi)) = true ∧ cV i o = true ∧ depB L es0 i t = true ∧
   ∀ σ, EffG E L.toArray (OmS Ss c σ) (needS needs σ) o (fun x => OmS Ss (c + 1) (upd σ i x)) (fun x => t.at (upd σ i x))) ∧ DS E G L ts Ss es0 (i + 1) (c + 1) rest es
 | _, _, _ :: _, [] => False
theorem DS.get {E : En} {G : Ctx} {L : List Oper} {ts : List TS} {Ss : List ((Nat → OI) → List OE)} {es0 : List Bool} : ∀ (r : List Oper) (es : List Bool) (k c : Nat), DS E G L ts Ss es0 k c r es → ∀ (j : Nat) (o : Oper), r[j]? = some o →
    ∃ e, es[j]? = some e ∧ ∃ (needs : List NS) (t : TS), ts[k + j]? = some t ∧ NSsOK G ts needs ∧ (needs.all fun n => j7 L o (k + j) (n.at fun _ => zoi)) = true ∧ cV (k + j) o = true ∧ depB L es0 (k + j) t = true ∧
      (match e with
       | false => o.dst.isSome = true ∧ ∃ lo hi, winB L es0 (k + j) lo hi = true ∧ ∀ c σ, lo ≤ c → c ≤ hi → OpG E (OmS Ss c σ) L.toArray (needS needs σ) o (t.at σ)
       | true => ∀ σ, EffG E L.toArray (OmS Ss (c + bu es j) σ) (needS needs σ) o (fun x => OmS Ss (c + bu es j + 1) (upd σ (k + j) x)) (fun x => t.at (upd σ (k + j) x))) := by
  intro r
  induction r with
  | nil => intro es k c _ j o h; simp at h
  | cons p r ih =>
    intro es k c h j o ho
    cases es with
    | nil => exact h.elim
    | cons e es =>
      cases e with
      | false =>
        obtain ⟨⟨needs, t, lo, hi, g1, g2, g3, g4, g5, g6, g7, g8⟩, h2⟩ := h
        cases j with
        | zero =>
          simp at ho; subst ho
          exact ⟨false, rfl, needs, t, g1, g2, g3, g4, g5, g7, lo, hi, g6, g8⟩
        | succ j =>
          obtain ⟨e', g1, g2⟩ := ih es (k + 1) _ h2 j o (by simpa using ho)
          refine ⟨e', by simpa using g1, ?_⟩
          rw [show k + 1 + j = k + (j + 1) from by omega] at g2
          have e1 : c + bu (false :: es) (j + 1) = c + bu es j := by simp [bu]
          rw [e1]; exact g2
      | true =>
        obtain ⟨h1, h2⟩ := h
        cases j with
        | zero =>
          simp at ho; subst ho
          exact ⟨true, rfl, h1⟩
        | succ j =>
          obtain ⟨e', g1, g2⟩ := ih es (k + 1) _ h2 j o (by simpa using ho)
          refine ⟨e', by simpa using g1, ?_⟩
          rw [show k + 1 + j = k + (j + 1) from by omega] at g2
          have e1 : c + bu (true :: es) (j + 1) = c + 1 + bu es j := by simp [bu]; omega
          rw [e1]; exact g2
structure DJS (E : En) (G : Ctx) (l : List Oper) (ts : List TS) (Ss : List ((Nat → OI) → List OE)) (es : List Bool) (done : Array Bool) (a : Act) (w : World) (S : SH) (σ : Nat → OI) (c : Nat) : Prop where
 ext : Ext E.B E.w0 E.S0 w S
 sat : Sat w S
 own : Own E.base E.B w S (OmS Ss c σ)
 size : a.tmps.size = E.N.n
 defers : a.defers = E.N.ds
 dsz : done.size = l.length
 down : ∀ j o, l[j]? = some o → done.getD j false = true → ∀ e ∈ o.after, Region.binds .any e = true → done.getD e.on false = true
 old : ∀ k t, look G k = some t → (∀ j o, l[j]? = some o → done.getD j false = true → o.dst ≠ some k) → t.p S (a.tmps.getD k undef)
 new : ∀ j o d p, l[j]? = some o → done.getD j false = true → o.dst = some d → ts[j]? = some p → (p.at σ).p S (a.tmps.getD d undef)
 deps : ∀ j p, done.getD j false = true → ts[j]? = some p → ∀ k ∈ p.1, done.getD k false = true
 chain : ∀ k, es[k]? = some true → (done.getD k false = true ↔ bu es k < c)
section
variable {E : En} {G : Ctx} {L : List Oper} {ts : List TS} {Ss : List ((Nat → OI) → List OE)} {es : List Bool}
theorem DJS.need {done : Array Bool} {a : Act} {w : World} {S : SH} {σ : Nat → OI} {c : Nat} (h : DJS E G L ts Ss es done a w S σ c) {i : Nat} {o : Oper} (hi : L[i]? = some o) (hun : done.getD i true = false)
  (hwait : ∀ e ∈ o.after, Region.binds .any e = true → done.getD e.on false = true) {needs : List NS} (h1 : NSsOK G ts needs) (h2 : (needs.all fun n => j7 L o i (n.at fun _ => zoi)) = true) : Facts E.N S a (needS needs σ) := by
 have hlt : i < done.size := by rw [h.dsz]; exact (List.getElem?_eq_some_iff.1 hi).1
 have hun' : done.getD i false = false := by
  simp [hlt] at hun ⊢; exact hun
 refine ⟨h.size, h.defers, ?_⟩
 have key : ∀ n ∈ needs, (n.ty σ).p S (a.tmps.getD n.slot undef) := by
  intro n hn
  have hs := List.all_eq_true.1 h2 n hn
  have ho := h1.mem n hn
  unfold j7 NS.at at hs
  unfold NSOK at ho
  cases hsrc : n.src with
  | some j =>
   rw [hsrc] at hs ho
   simp only [Bool.and_eq_true] at hs
   obtain ⟨hs1, hs2⟩ := hs
   cases hj : L[j]? with
   | none => rw [hj] at hs1; cases hs1
   | some p =>
    rw [hj] at hs1
    cases hd : p.dst with
    | none => simp only [hd] at hs1; cases hs1
    | some d =>
     simp only [hd] at hs1
     have hd' := Nat.eq_of_beq_eq_true hs1
     subst hd'
     have hdone : done.getD j false = true := by
      unfold waits at hs2
      obtain ⟨e, he0, hb⟩ := List.any_eq_true.1 hs2
      have he : e ∈ o.after := by simpa using he0
      simp only [Bool.and_eq_true] at hb
      have := hwait e he hb.2
      rwa [Nat.eq_of_beq_eq_true hb.1] at this
     have hm := ho σ
     cases hf : ts[j]? with
     | none => rw [hf] at hm; simp at hm
     | some f =>
      rw [hf] at hm
      have e : f.at σ = n.ty σ := by simpa using hm
      rw [← e]
      exact h.new j p n.slot f hj hdone hd hf
  | none =>
   rw [hsrc] at hs ho
   refine h.old _ _ (ho σ) fun j p hj hdone hd => ?_
   have := List.all_eq_true.1 hs p (List.mem_of_getElem? hj)
   simp only [hd, Nat.beq_refl, Bool.not_true, Bool.false_or] at this
   unfold waits at this
   obtain ⟨e, he0, hb⟩ := List.any_eq_true.1 this
   have he : e ∈ p.after := by simpa using he0
   simp only [Bool.and_eq_true] at hb
   have h3 := h.down j p hj hdone e he hb.2
   rw [Nat.eq_of_beq_eq_true hb.1] at h3
   rw [h3] at hun'
   cases hun'
 clear h1 h2
 intro k t hk
 unfold needS at hk
 induction needs with
 | nil => simp [ex, look] at hk
 | cons n needs ih =>
  simp only [List.map_cons] at hk
  unfold ex look at hk
  by_cases hb : Nat.beq n.slot k = true
  ·have hb' : Nat.beq (n.at σ).slot k = true := hb
   rw [hb'] at hk
   have := Nat.eq_of_beq_eq_true hb
   subst this
   have h9 : some (n.at σ).ty = some t := by simpa using hk
   have e : n.ty σ = t := Option.some.inj h9
   rw [← e]
   exact key n (List.mem_cons_self ..)
  ·rw [Bool.not_eq_true] at hb
   have hb' : Nat.beq (n.at σ).slot k = false := hb
   rw [hb'] at hk
   exact ih (fun m hm => key m (List.mem_cons_of_mem _ hm)) hk
theorem DJS.step {done : Array Bool} {a : Act} {w w' : World} {S S' : SH} {σ σ' : Nat → OI} {c c' : Nat} (h : DJS E G L ts Ss es done a w S σ c) {i : Nat} {o : Oper} {p0 : TS} {v : Value} {C : Nat → Prop} (hi : L[i]? = some o)
  (hdN : ∀ d, o.dst = some d → d < E.N.n) (hs2 : ∀ d, o.dst = some d → ∀ j p, L[j]? = some p → done.getD j false = true → p.dst = some d → i = j)
  (hwait : ∀ e ∈ o.after, Region.binds .any e = true → done.getD e.on false = true) (ht : ts[i]? = some p0) (hun : done.getD i true = false) (hdep : ∀ k ∈ p0.1, k = i ∨ done.getD k false = true)
  (hext : Ext C w S w' S') (hC : ∀ b, C b → E.base ≤ b ∨ E.B b) (hsat : Sat w' S') (hown : Own E.base E.B w' S' (OmS Ss c' σ')) (hσ : ∀ k, k ≠ i → σ' k = σ k) (hv : (p0.at σ').p S' v) (hch : ∀ k, es[k]? = some true → ((done.setIfInBounds i true).getD k false = true ↔ bu es k < c')) :
  DJS E G L ts Ss es (done.setIfInBounds i true) (a.put o.dst v) w' S' σ' c' := by
 have hlt : i < done.size := by rw [h.dsz]; exact (List.getElem?_eq_some_iff.1 hi).1
 have hset : ∀ j, (done.setIfInBounds i true).getD j false = true → j = i ∨ done.getD j false = true := fun j hj => by
  by_cases hij : i = j
  ·exact .inl hij.symm
  ·rw [getD_set_ne false hij] at hj; exact .inr hj
 have hseti : (done.setIfInBounds i true).getD i false = true := by simp [hlt]
 have hun' : done.getD i false = false := by simp [hlt] at hun ⊢; exact hun
 have hput : ∀ k, (∀ d, o.dst = some d → d ≠ k) → (a.put o.dst v).tmps.getD k undef = a.tmps.getD k undef := fun k hk => by
  cases hd : o.dst with
  | none => rfl
  | some d =>
   have hda : d < a.tmps.size := by rw [h.size]; exact hdN d hd
   rw [gR hda, if_neg (hk d hd)]
 refine ⟨h.ext.step hext hC, hsat, hown, ?_, ?_, by simp [h.dsz], fun j p hj hdone e he hb => ?_, fun k u hk hno => ?_, fun j p d' u hj hdone hd' hu => ?_, fun j u hj hu k hk => ?_, hch⟩
 ·cases o.dst with
  | none => exact h.size
  | some d => simp [Act.put, h.size]
 ·cases o.dst with
  | none => exact h.defers
  | some d => exact h.defers
 ·rcases hset j hdone with rfl | hj'
  ·rw [hi] at hj
   have : o = p := by simpa using hj
   subst this
   exact getD_set_true (hwait e he hb)
  ·exact getD_set_true (h.down j p hj hj' e he hb)
 ·rw [hput k fun d hd e => hno i o hi hseti (by rw [hd, e])]
  exact u.mono hext.keep (h.old k u hk fun j p hj hdone => hno j p hj (getD_set_true hdone))
 ·by_cases hij : j = i
  ·subst hij
   rw [hi] at hj
   have : o = p := by simpa using hj
   subst this
   have hda : d' < a.tmps.size := by rw [h.size]; exact hdN d' hd'
   rw [hd', gR hda, if_pos rfl]
   rw [ht] at hu
   have : p0 = u := by simpa using hu
   subst this
   exact hv
  ·have hj' := (hset j hdone).resolve_left hij
   rw [hput d' fun d hd e => by subst e; exact hij (hs2 d hd j p hj hj' hd').symm]
   have e1 : u.at σ' = u.at σ := congrArg u.2 (List.map_congr_left fun k hk => hσ k fun e => by
     subst e
     rw [h.deps j u hj' hu k hk] at hun'; cases hun')
   rw [e1]
   exact Ty.mono _ hext.keep (h.new j p d' u hj hj' hd' hu)
 ·rcases hset j hj with rfl | hj'
  ·rw [ht] at hu
   have : p0 = u := by simpa using hu
   subst this
   rcases hdep k hk with rfl | h'
   ·exact hseti
   ·exact getD_set_true h'
  ·exact getD_set_true (h.deps j u hj' hu k hk)
end
theorem wpAny_drawS {E : En} {G : Ctx} {l t : List Oper} {ts : List TS} {Ss : List ((Nat → OI) → List OE)} {es : List Bool} {Q : Exit → Act → World → Prop} (hsl : slots0 E.N.n [] l = true) (hlen : ts.length = l.length) (hesl : es.length = l.length)
  (hd : DS E G (l ++ t) ts Ss es 0 0 l es) (hch : chainB (l ++ t) es = true) (ht : tailB (l ++ t) l.length t.length = true)
  (hQ : ∀ a w S σ, St E (OmS Ss (bu es es.length) σ) (outF l (tsS ts σ) G) a w S → wpListIn (fw E.r) 0 E.P (l ++ t).toArray Q t a w) :
  ∀ (fuel : Nat) (done : Array Bool) (a : Act) (w : World) (S : SH) (σ : Nat → OI) (c : Nat), eA done = fuel → (∀ j, l.length ≤ j → done.getD j false = false) → c ≤ bu es es.length → DJS E G (l ++ t) ts Ss es done a w S σ c → wpAnyIn (fw E.r) 0 E.P .any (l ++ t).toArray Q fuel done a w := by
 have hL1 : ∀ i o, i < l.length → (l ++ t)[i]? = some o → l[i]? = some o := fun i o hi h => by rwa [List.getElem?_append_left hi] at h
 have hL2 : ∀ i o, l[i]? = some o → (l ++ t)[i]? = some o := fun i o h => by rw [List.getElem?_append_left (List.getElem?_eq_some_iff.1 h).1]; exact h
 have htail : ∀ m o, l.length ≤ m → (l ++ t)[m]? = some o → coverB (l ++ t) m = true ∧ cV m o = true := fun m o hm ho => by
  have hml : m < (l ++ t).length := (List.getElem?_eq_some_iff.1 ho).1
  rw [List.length_append] at hml
  unfold tailB at ht
  have := List.all_eq_true.1 ht (m - l.length) (by simp; omega)
  rw [show l.length + (m - l.length) = m from by omega, ho] at this
  simp only [Bool.and_eq_true] at this
  exact ⟨this.1, this.2.1⟩
 have hget := fun i o (hi : l[i]? = some o) => DS.get l es 0 0 hd i o hi
 have hedge : ∀ i o, (l ++ t)[i]? = some o → cV i o = true := fun i o hi => by
  rcases Nat.lt_or_ge i l.length with h | h
  ·obtain ⟨_, _, _, _, _, _, _, h, _⟩ := hget i o (hL1 i o h hi)
   simpa using h
  ·exact (htail i o h hi).2
 obtain ⟨hs1, hs2⟩ := slots0_spec l [] hsl
 have fin : ∀ fuel done a w S σ c, eA done = fuel → (∀ j, l.length ≤ j → done.getD j false = false) → c ≤ bu es es.length → DJS E G (l ++ t) ts Ss es done a w S σ c → (∀ i, i < l.length → done.getD i false = true) → wpAnyIn (fw E.r) 0 E.P .any (l ++ t).toArray Q fuel done a w := by
  intro fuel done a w S σ c hu hfree hcle h hall
  have hcc : c = bu es es.length := by
   rcases Nat.lt_or_ge c (bu es es.length) with hlt | hge
   ·obtain ⟨i, h1, h2, h3⟩ := kF hlt
    have := (h.chain i h2).1 (hall i (by omega))
    omega
   ·omega
  subst hcc
  refine wpAny_tail (n := l.length) (fun m o hm ho => (htail m o hm ho).1) hedge t l.length done fuel a w (Nat.le_refl _) (by simp) h.dsz (fun j hj => ⟨fun hjd => ?_, fun hlt => hall j hlt⟩) hu
   (hQ a w S σ ⟨h.ext, h.sat, h.own, h.size, h.defers, fun j u hj => ?_⟩)
  ·rcases Nat.lt_or_ge j l.length with h' | h'
   ·exact h'
   ·rw [hfree j h'] at hjd; cases hjd
  ·rcases look_outF l (tsS ts σ) j u (by unfold tsS; rw [List.length_map]; exact hlen) hj with ⟨i, o, h1, h2, h3⟩ | ⟨h1, h2⟩
   ·unfold tsS at h3
    rw [List.getElem?_map] at h3
    cases hf : ts[i]? with
    | none => rw [hf] at h3; simp at h3
    | some f =>
     rw [hf] at h3
     have e : f.at σ = u := by simpa using h3
     rw [← e]
     exact h.new i o j f (hL2 i o h1) (hall i (List.getElem?_eq_some_iff.1 h1).1) h2 hf
   ·refine h.old j u h1 fun i o ho hdn => ?_
    rcases Nat.lt_or_ge i l.length with h' | h'
    ·exact h2 o (List.mem_of_getElem? (hL1 i o h' ho))
    ·rw [hfree i h'] at hdn; cases hdn
 have lower : ∀ done a w S σ c i, (∀ j, l.length ≤ j → done.getD j false = false) → DJS E G (l ++ t) ts Ss es done a w S σ c → i ∈ Region.ready .any (l ++ t).toArray done → l.length ≤ i → ∀ j, j < l.length → done.getD j false = true := by
  intro done a w S σ c i hfree h hi hge j hj
  obtain ⟨hun, p, hp, hwait⟩ := mem_ready.1 hi
  have hp' : (l ++ t)[i]? = some p := by simpa using hp
  have hcov := (htail i p hge hp').1
  unfold coverB at hcov
  have hre := List.all_eq_true.1 hcov j (by simp; omega)
  exact dA h.down _ i j (fun q hq e he hb => by
   have : q = p := by rw [hp'] at hq; simpa using hq.symm
   subst this
   exact hwait e he hb) hre
 have hchain : ∀ i j, j < i → es[i]? = some true → es[j]? = some true → ew (l ++ t) (l ++ t).length i j = true := fun i j hij h1 h2 => by
  unfold chainB at hch
  have hil : i < es.length := (List.getElem?_eq_some_iff.1 h1).1
  have := List.all_eq_true.1 (List.all_eq_true.1 hch i (by simpa using hil)) j (by simpa using hij)
  rw [h1, h2] at this
  simpa using this
 intro fuel
 induction fuel with
 | zero =>
  intro done a w S σ c hu hfree hcle h
  exact fin 0 done a w S σ c hu hfree hcle h fun i hi => undone_zero hu (by rw [h.dsz, List.length_append]; omega)
 | succ fuel ih =>
  intro done a w S σ c hu hfree hcle h
  by_cases hall : ∀ i, i < l.length → done.getD i false = true
  ·exact fin _ done a w S σ c hu hfree hcle h hall
  have hready0 : ∀ m i, i < m → i < l.length → Region.ready .any (l ++ t).toArray done = [] → done.getD i false = true := by
   intro m
   induction m with
   | zero => intro i h; omega
   | succ m ihm =>
    intro i him hil hr
    have his : i < done.size := by rw [h.dsz, List.length_append]; omega
    by_cases hdn : done.getD i true = true
    ·rw [← gJ his]; exact hdn
    ·exfalso
     obtain ⟨o, ho⟩ : ∃ o, (l ++ t)[i]? = some o := ⟨l[i], hL2 i _ (List.getElem?_eq_getElem hil)⟩
     have hmem : i ∈ Region.ready .any (l ++ t).toArray done := by
      rw [mem_ready]
      refine ⟨by simpa using hdn, o, by simpa using ho, fun e he hb => ?_⟩
      have := hedge i o ho
      unfold cV at this
      have := List.all_eq_true.1 this e (by simpa using he)
      simp only [hb, Bool.not_true, Bool.false_or, Nat.blt_eq] at this
      exact ihm e.on (by omega) (by omega) hr
     rw [hr] at hmem; cases hmem
  refine ⟨fun hr => absurd (fun i hi => hready0 (i + 1) i (by omega) hi hr) hall, fun i hi => ?_⟩
  have hil : i < l.length := by
   rcases Nat.lt_or_ge i l.length with h' | h'
   ·exact h'
   ·exact absurd (lower done a w S σ c i hfree h hi h') hall
  obtain ⟨hun, o, ho, hwait⟩ := mem_ready.1 hi
  have ho' : (l ++ t)[i]? = some o := by simpa using ho
  have hol := hL1 i o hil ho'
  obtain ⟨e, he, needs, u, h1, h2, h3, _, h4, h5⟩ := hget i o hol
  rw [Nat.zero_add] at h1 h3 h4
  have hF := h.need ho' hun hwait h2 h3
  have his : i < done.size := by rw [h.dsz, List.length_append]; omega
  have hun' : done.getD i false = false := by rw [← gJ his]; exact hun
  have hu' : eA (done.setIfInBounds i true) = fuel := by have := iQ hun; omega
  have huq : ∀ d, o.dst = some d → ∀ j p, (l ++ t)[j]? = some p → done.getD j false = true → p.dst = some d → i = j := fun d hdd j p hj hjd hpd => by
   rcases Nat.lt_or_ge j l.length with h' | h'
   ·exact hs2 i j o p d hol (hL1 j p h' hj) hdd hpd
   ·rw [hfree j h'] at hjd; cases hjd
  have hfree' : ∀ j, l.length ≤ j → (done.setIfInBounds i true).getD j false = false := fun j hj => by
   rw [getD_set_ne false (by omega)]; exact hfree j hj
  have hbl : E.base ≤ w.heap.size := h.ext.size
  have hwaits : ∀ q, (l ++ t)[i]? = some q → ∀ e ∈ q.after, Region.binds .any e = true → done.getD e.on false = true := fun q hq e he hb => by
   have : q = o := by rw [ho'] at hq; simpa using hq.symm
   subst this
   exact hwait e he hb
  have hdpp : ∀ k ∈ u.1, k = i ∨ done.getD k false = true := fun k hk => by
   have := List.all_eq_true.1 h4 k hk
   simp only [Bool.and_eq_true, Bool.or_eq_true] at this
   rcases this.2 with hb | hb
   ·exact .inl (Nat.eq_of_beq_eq_true hb)
   ·exact .inr (dA h.down _ i k hwaits hb)
  have hdNN : ∀ d, o.dst = some d → d < E.N.n := fun d hd => (hs1 o (List.mem_of_getElem? hol) d hd).1
  unfold wpOpIn
  rw [ho]
  show if _ then _ else _
  cases e with
  | false =>
   simp only at h5
   obtain ⟨hdS, lo, hi', hwin, h5⟩ := h5
   rw [Nat.zero_add] at hwin
   obtain ⟨d, hdd⟩ := Option.isSome_iff_exists.1 hdS
   have hdN := (hs1 o (List.mem_of_getElem? hol) d hdd).1
   unfold winB at hwin
   rw [Bool.and_eq_true] at hwin
   obtain ⟨hw1, hw2⟩ := hwin
   have hw1' := Nat.le_of_ble_eq_true hw1
   have hwk : ∀ k, es[k]? = some true → (Nat.ble lo (bu es k) = true ∨ ew (l ++ t) (l ++ t).length i k = true) ∧ (Nat.blt (bu es k) hi' = true ∨ ew (l ++ t) (l ++ t).length k i = true) := fun k hk => by
    have hkl : k < es.length := (List.getElem?_eq_some_iff.1 hk).1
    have := List.all_eq_true.1 hw2 k (by simpa using hkl)
    rw [hk] at this
    simpa using this
   have hlo : lo ≤ c := by
    rcases Nat.lt_or_ge c lo with hlt | hge
    ·exfalso
     obtain ⟨k, hk1, hk2, hk3⟩ := kF (es := es) (c := c) (k := es.length) (by omega)
     rcases (hwk k hk2).1 with hb | hb
     ·have := Nat.le_of_ble_eq_true hb; omega
     ·have := (h.chain k hk2).1 (dA h.down _ i k hwaits hb)
      omega
    ·exact hge
   have hhi : c ≤ hi' := by
    rcases Nat.lt_or_ge hi' c with hlt | hge
    ·exfalso
     obtain ⟨k, hk1, hk2, hk3⟩ := kF (es := es) (c := hi') (k := es.length) (by omega)
     rcases (hwk k hk2).2 with hb | hb
     ·simp only [Nat.blt_eq] at hb; omega
     ·have hkd : done.getD k false = true := (h.chain k hk2).2 (by omega)
      have := dA h.down _ k i (fun q hq e he hb => h.down k q hq hkd e he hb) hb
      rw [this] at hun'; cases hun'
    ·exact hge
   have h6 := h5 c σ hlo hhi a w S h.sat h.own hF
   have hch' : ∀ k, es[k]? = some true → ((done.setIfInBounds i true).getD k false = true ↔ bu es k < c) := fun k hk => by
    have hne : i ≠ k := fun e => by subst e; rw [he] at hk; cases hk
    rw [getD_set_ne false hne]; exact h.chain k hk
   by_cases hw : Region.wanted o (yielded (l ++ t).toArray a.tmps) = true
   ·rw [if_pos hw] at h6 ⊢
    refine eX (fun a' w' ⟨v, S', ha, hx, hs, hv⟩ => ?_) h6
    subst ha
    exact ih _ _ _ S' _ c hu' hfree' hcle (h.step ho' hdNN huq hwait h1 hun hdpp hx (fun _ hb => hb.elim) hs (h.own.ext0 hx) (fun _ _ => rfl) hv hch')
   ·rw [if_neg hw] at h6 ⊢
    exact ⟨fun _ _ => trivial, ih _ _ _ S _ c hu' hfree' hcle (h.step ho' hdNN huq hwait h1 hun hdpp (Ext.refl noB _ _) (fun _ hb => hb.elim) h.sat h.own (fun _ _ => rfl) h6 hch')⟩
  | true =>
   simp only [Nat.zero_add] at h5
   -- it is the next one of the chain
   have hca : bu es i = c := by
    have hn : ¬ bu es i < c := fun hlt => by rw [(h.chain i he).2 hlt] at hun'; cases hun'
    rcases Nat.lt_or_ge c (bu es i) with hlt | hge
    ·exfalso
     obtain ⟨k, hk1, hk2, hk3⟩ := kF hlt
     have hkd : done.getD k false = true := dA h.down _ i k hwaits (hchain i k hk1 he hk2)
     have := (h.chain k hk2).1 hkd
     omega
    ·omega
   subst hca
   have h6 := h5 σ a w S h.sat h.own hF hbl
   have hch' : ∀ k, es[k]? = some true → ((done.setIfInBounds i true).getD k false = true ↔ bu es k < bu es i + 1) := fun k hk => by
    by_cases hik : i = k
    ·subst hik
     constructor
     ·intro _; omega
     ·intro _; simp [his]
    ·rw [getD_set_ne false hik, h.chain k hk]
     constructor
     ·intro h; omega
     ·intro hlt
      rcases Nat.lt_or_ge i k with hlk | hlk
      ·have := ahead_lt hlk he; omega
      ·exact ahead_lt (by omega) hk
   have hcle' : bu es i + 1 ≤ bu es es.length := ahead_lt (by omega) he
   by_cases hw : Region.wanted o (yielded (l ++ t).toArray a.tmps) = true
   ·rw [if_pos hw] at h6 ⊢
    refine eX (fun a' w' ⟨v, S', x, ha, hx, hs, hown, hv⟩ => ?_) h6
    subst ha
    exact ih _ _ _ S' _ _ hu' hfree' hcle' (h.step ho' hdNN huq hwait h1 hun hdpp hx (fun b ⟨f, hf, hb⟩ => (Own.mem h.own f hf).2 b hb) hs hown (fun k hk => upd_ne σ x hk) hv hch')
   ·rw [if_neg hw] at h6 ⊢
    obtain ⟨x, hown, hv⟩ := h6
    exact ⟨fun _ _ => trivial, ih _ _ _ S _ _ hu' hfree' hcle' (h.step ho' hdNN huq hwait h1 hun hdpp (Ext.refl noB _ _) (fun _ hb => hb.elim) h.sat hown (fun k hk => upd_ne σ x hk) hv hch')⟩
theorem ja {E : En} {O : List OE} {G : Ctx} {Q : Exit → Act → World → Prop} {id : Nat} {L : List Oper} (m : Nat) (ts : List TS) (es : List Bool) (Ss : List ((Nat → OI) → List OE)) (hO : Ss[0]? = some fun _ => O) (hm : E.P.follows .mixedOrders = true) (hsl : slots0 E.N.n [] (L.take m) = true) (hlen : ts.length = (L.take m).length) (hesl : es.length = (L.take m).length)
  (hch : chainB L es = true) (ht : tailB L (L.take m).length (L.drop m).length = true)
  (hd : DS E G L ts Ss es 0 0 (L.take m) es) (k : ∀ σ : Nat → OI, RG E L.toArray Q (L.drop m) (OmS Ss (bu es es.length) σ) (outF (L.take m) (tsS ts σ) G)) : CG E Q (.region id L.toArray true) O G := fun a w S st => by
 have hL : L = L.take m ++ L.drop m := (List.take_append_drop m L).symm
 generalize L.take m = l at hL hsl hlen hesl ht hd k
 generalize L.drop m = t at hL ht k
 subst hL
 refine wpIn_region_any hm ?_
 obtain ⟨he, hs⟩ := Ext.draw (w := w) st.sat
 have hO0 : OmS Ss 0 (fun _ => zoi) = O := by unfold OmS; rw [hO]
 refine wpAny_drawS hsl hlen hesl hd hch ht (fun a w S σ st => k σ a w S st) _ _ _ _ S (fun _ => zoi) 0 ?_ (fun j _ => ?_) (Nat.zero_le _)
  ⟨st.ext.step0 he, hs, by rw [hO0]; exact st.own.ext0 he, st.facts.size, st.facts.defers, by simp, fun j o hj hdone => ?_, fun k t hk _ => st.facts.at_ k t hk, fun j o d t hj hdone => ?_, fun j p hdone => ?_, fun k _ => ⟨fun hdone => ?_, fun h => (by omega)⟩⟩
 ·unfold eA; rw [Array.toList_replicate, List.countP_replicate]; simp
 ·simp [Array.getElem?_replicate]; split <;> rfl
 ·simp [Array.getElem?_replicate] at hdone
  split at hdone <;> simp at hdone
 ·simp [Array.getElem?_replicate] at hdone
  split at hdone <;> simp at hdone
 ·simp [Array.getElem?_replicate] at hdone
  split at hdone <;> simp at hdone
 ·simp [Array.getElem?_replicate] at hdone
  split at hdone <;> simp at hdone
theorem win1 {p : Nat → (Nat → OI) → Prop} {lo : Nat} (h : ∀ σ, p lo σ) : ∀ c σ, lo ≤ c → c ≤ lo → p c σ := fun c σ h1 h2 => by
 have : c = lo := by omega
 subst this; exact h σ
theorem winS {p : Nat → (Nat → OI) → Prop} {lo hi : Nat} (h : ∀ σ, p lo σ) (k : ∀ c σ, lo + 1 ≤ c → c ≤ hi → p c σ) : ∀ c σ, lo ≤ c → c ≤ hi → p c σ := fun c σ h1 h2 => by
 by_cases e : c = lo
 ·subst e; exact h σ
 ·exact k c σ (by omega) h2
theorem eff_none {E : En} {O : List OE} {G : Ctx} {op : Op} {ty : TypeId} {pos : String} {after : Array Edge} {g : Option (Nat × Bool)} {post : OI → List OE} (hnd : ∀ c, op ≠ .defer c) (h : ∀ a w S, Sat w S → Own E.base E.B w S O → Facts E.N S a G → E.base ≤ w.heap.size → ∃ w' S' x, (execOp a.eval ⟨none, op, ty, pos, after, g⟩).run E.P w = .ok .skip w' ∧ Ext (fpB O) w S w' S' ∧ Sat w' S' ∧ Own E.base E.B w' S' (post x)) :
  EffOK E O G ⟨none, op, ty, pos, after, g⟩ post (fun _ => tAny) := fun a w S hs ho hf hb => by
 obtain ⟨w', S', x, h1, h2, h3, h4⟩ := h a w S hs ho hf hb
 refine ⟨hnd, ?_⟩
 rw [h1]
 exact ⟨undef, S', x, rfl, h2, h3, h4, trivial⟩
end Go.Proofs.YtegigakgcnhiaaaGreatDoor

namespace Go.Proofs.YtegigakgcnhiaaaGreatDoor
open Go

abbrev HL := List (Nat × Value)
def hlook : HL → Nat → Option Value
 | [], _ => none
 | p :: hs, o => bif Nat.beq p.1 o then some p.2 else hlook hs o
theorem hlook_mem : ∀ {hs : HL} {o : Nat} {v : Value}, hlook hs o = some v → (o, v) ∈ hs
 | [], _, _, h => by cases h
 | p :: hs, o, v, h => by
  unfold hlook at h
  by_cases hb : Nat.beq p.1 o = true
  ·rw [hb] at h
   have e1 := Nat.eq_of_beq_eq_true hb
   have e2 : p.2 = v := Option.some.inj h
   subst e1 e2
   exact List.mem_cons_self ..
  ·rw [Bool.not_eq_true] at hb
   rw [hb] at h
   exact List.mem_cons_of_mem _ (hlook_mem h)
def HZ (z : List Value) : HL → Prop
 | [] => True
 | p :: hs => z[p.1]? = some p.2 ∧ HZ z hs
theorem HZ.all {z : List Value} : ∀ {hs : HL}, HZ z hs → ∀ p ∈ hs, z[p.1]? = some p.2
 | _ :: _, ⟨h, _⟩, _, .head _ => h
 | _ :: _, ⟨_, h⟩, _, .tail _ hm => HZ.all h _ hm
def HOK (hs : HL) (off sz : Nat) (v : Option Value) : HL → Prop
 | [] => True
 | p :: l => ((v = some p.2 ∧ p.1 = off ∧ sz = 1) ∨ (hlook hs p.1 = some p.2 ∧ (Nat.blt p.1 off || Nat.ble (off + sz) p.1) = true)) ∧ HOK hs off sz v l
theorem HOK.all {hs : HL} {off sz : Nat} {v : Option Value} : ∀ {l : HL}, HOK hs off sz v l → ∀ p ∈ l, (v = some p.2 ∧ p.1 = off ∧ sz = 1) ∨ (hlook hs p.1 = some p.2 ∧ (Nat.blt p.1 off || Nat.ble (off + sz) p.1) = true)
 | _ :: _, ⟨h, _⟩, _, .head _ => h
 | _ :: _, ⟨_, h⟩, _, .tail _ hm => HOK.all h _ hm
section
variable {E : En} {O : List OE} {G : Ctx} {Q : Exit → Act → World → Prop} {ops : Array Oper} {rest : List Oper} {c : Code} {e : Exit}
section
variable {ty : TypeId} {pos : String} {after : Array Edge} {g : Option (Nat × Bool)}
theorem RG.eff0 {op : Op} {post : OI → List OE} {t : OI → Ty} (h : EffOK E O G ⟨none, op, ty, pos, after, none⟩ post t) (k : ∀ x, RG E ops Q rest (post x) G) : RG E ops Q (⟨none, op, ty, pos, after, none⟩ :: rest) O G := .of rfl fun a w S st =>
 e9 (fun a' w' ⟨v, S', x, ha, hx, hs, ho, hv⟩ => by
  subst ha
  exact k x _ _ S' ⟨st.ext.step hx fun b ⟨f, hf, hb⟩ => (Own.mem st.own f hf).2 b hb, hs, ho, st.facts.mono hx.keep⟩) (h a w S st.sat st.own st.facts st.base_le)
theorem eff_storeX {α β γ : Type} {r : Rp α} {r' : Rp γ} {q : Rp β} {x : α} {x' : γ} {y : β} {T U : TypeId} {b off sz bytes : Nat} {agg : Bool} {z : List Value} {p v : Operand} (ti : TI E.P U sz bytes agg z) (hsz : q.sz = sz) (hset : SFldX r r' off q x y x') (hoff : Nat.ble (off + q.sz) r.sz = true)
  (hp : aA E.N G p (tV (aR b off))) (hv : aA E.N G v (tD q y)) : EffOK E (bx r T b x :: O) G ⟨none, .store U p v, ty, pos, after, g⟩ (fun _ => bx r' T b x' :: O) (fun _ => tAny) := eff_none (fun _ h => (by cases h)) fun a w S hs ho hf hb => by
 have h1 : a.eval p = aR b off := hp S a hf
 obtain ⟨ds, h2, h3⟩ := hv S a hf
 obtain ⟨⟨hno, cur, h5, h6⟩, _⟩ := ho.1
 have hl := r.len h6
 have hoff' := Nat.le_of_ble_eq_true hoff
 obtain ⟨w', hr, e1, e2, e3, e4, e5, e6⟩ := d9 ti hsz h3 h5 (off := off) (by simp at hl; omega)
 have hrun : (execOp a.eval ⟨none, .store U p v, ty, pos, after, g⟩).run E.P w = .ok .skip w' := by
  simp [execOp, h1, h2, Instr.storeAt, aR, Instr.sureAddr, hr]
 obtain ⟨g1, g2, g3⟩ := jS (O := O) hs (bx r T b x) (bx r' T b x') ho (fun _ => Iff.rfl) (fun _ => Iff.rfl) ⟨e1, e2, e3, e4.1, e4.2⟩ e6 ⟨hno, _, e5, by simpa using hset S _ _ h6 h3⟩ hno
 exact ⟨w', S, zoi, hrun, g1.more fun k hk => ⟨_, List.mem_cons_self .., hk⟩, g2, g3⟩
end
section
variable {dst : Option Tmp} {ty : TypeId} {pos : String} {after : Array Edge} {g : Option (Nat × Bool)}
end
def subH : HL → HL → Prop
 | [], _ => True
 | p :: l, hs => hlook hs p.1 = some p.2 ∧ subH l hs
theorem subH.all {hs : HL} : ∀ {l : HL}, subH l hs → ∀ p ∈ l, p ∈ hs
 | _ :: _, ⟨h, _⟩, _, .head _ => hlook_mem h
 | _ :: _, ⟨_, h⟩, _, .tail _ hm => subH.all h _ hm
end
end Go.Proofs.YtegigakgcnhiaaaGreatDoor

namespace Go.Proofs.YtegigakgcnhiaaaGreatDoor
open Go

theorem EffOK.perm {E : En} {O O' : List OE} {G : Ctx} {o : Oper} {post : OI → List OE} {t : OI → Ty} (h : EffOK E O' G o post t) (k : ∀ {w S}, Own E.base E.B w S O → Own E.base E.B w S O') (m : ∀ f ∈ O', f ∈ O) : EffOK E O G o post t := fun a w S hs ho hf hb =>
 e9 (fun _ _ ⟨v, S', x, h1, h2, h3, h4, h5⟩ => ⟨v, S', x, h1, h2.more fun _ ⟨f, hf, hk⟩ => ⟨f, m f hf, hk⟩, h3, h4, h5⟩) (h a w S hs (k ho) hf hb)
namespace EffOK
section
variable {E : En} {O : List OE} {G : Ctx} {o : Oper} {post : OI → List OE} {t : OI → Ty}
theorem fr1 {x0 x1 : OE} (h : EffOK E (x1 :: x0 :: O) G o post t) : EffOK E (x0 :: x1 :: O) G o post t := h.perm (fun hw => Own.swap hw) (fun f hf => by simp only [List.mem_cons] at hf ⊢; rcases hf with h | h | h <;> simp [h])
theorem fr3 {x0 x1 x2 x3 : OE} (h : EffOK E (x3 :: x0 :: x1 :: x2 :: O) G o post t) : EffOK E (x0 :: x1 :: x2 :: x3 :: O) G o post t := h.perm (fun hw => i7 hw) (fun f hf => by simp only [List.mem_cons] at hf ⊢; rcases hf with h | h | h | h | h <;> simp [h])
end
end EffOK
section
variable {E : En} {O : List OE} {G : Ctx} {Q : Exit → Act → World → Prop} {ops : Array Oper} {rest : List Oper} {ty : TypeId} {pos : String} {after : Array Edge} {g : Option (Nat × Bool)}
theorem kB {α β : Type} {r : Rp α} {q : Rp β} {set : α → β → α} {U T : TypeId} {l : Option Nat} {cap foff : Nat} {xs zs : List α} {y : α} {v : β} {i : Int} {sz bytes : Nat} {agg : Bool} {z : List Value} {p x : Operand} (ti : TI E.P T sz bytes agg z) (hsz : q.sz = sz) (hset : iH r foff q set) (hoff : Nat.ble (foff + q.sz) r.sz = true)
  (hy : idx xs i = some y) (hz : xs.set i.toNat (set y v) = zs) (hp : aA E.N G p (tV (cB l (i.toNat * r.sz + foff)))) (hx : aA E.N G x (tD q v)) : EffOK E (arr r U l cap xs :: O) G ⟨none, .store T p x, ty, pos, after, g⟩ (fun _ => arr r U l cap zs :: O) (fun _ => tAny) := eff_none (fun _ h => (by cases h)) fun a w S hsat hown hf hbase => by
 subst hz
 have h1 : a.eval p = cB l (i.toNat * r.sz + foff) := hp S a hf
 obtain ⟨ds, h2, h3⟩ := hx S a hf
 obtain ⟨h0, hy'⟩ := bo hy
 have hlt : i.toNat < xs.length := (List.getElem?_eq_some_iff.1 hy').1
 obtain ⟨cells, hraw, hrc, hno⟩ := hown.1.1
 obtain ⟨b, cur, rfl, hb, hle, hcs, h6⟩ := raw_part hown.1.1 hy'
 obtain ⟨cur', hb', hle', hmax, hcs', hct⟩ := hraw
 have hcc : cur' = cur := by rw [hb] at hb'; injection hb' with e; injection e with e1; exact e1.symm
 subst hcc
 have hno' : S b = none := hno b rfl
 have hoff' := Nat.le_of_ble_eq_true hoff
 have hl3 := q.len h3
 have hmul : i.toNat * r.sz + r.sz ≤ xs.length * r.sz := by rw [← Nat.succ_mul]; exact Nat.mul_le_mul_right _ hlt
 have hmul2 : xs.length * r.sz ≤ cur'.size := by rw [hcs]; exact Nat.mul_le_mul_right _ hle
 obtain ⟨w', hr, e1, e2, e3, e4, e5, e6⟩ := d9 ti hsz h3 hb (off := i.toNat * r.sz + foff) (by omega)
 have hrun : (execOp a.eval ⟨none, .store T p x, ty, pos, after, g⟩).run E.P w = .ok .skip w' := by
  simp [execOp, h1, h2, Instr.storeAt, cB, aR, Instr.sureAddr, hr]
 have hnew := hset S _ _ _ _ h6 h3
 have hrc' := rcs_set hnew hrc hlt
 have hcl := gk hrc
 have hcells : (cur'.toList.take (i.toNat * r.sz + foff) ++ ds ++ cur'.toList.drop (i.toNat * r.sz + foff + q.sz)).take (xs.length * r.sz) =
   cells.take (i.toNat * r.sz) ++ (((cur'.toList.drop (i.toNat * r.sz)).take r.sz).take foff ++ ds ++ ((cur'.toList.drop (i.toNat * r.sz)).take r.sz).drop (foff + q.sz)) ++ cells.drop (i.toNat * r.sz + r.sz) := by
  subst hct
  apply List.ext_getElem?
  intro j
  simp only [List.getElem?_take, List.getElem?_append, List.getElem?_drop, List.length_take, List.length_drop, List.length_append, Array.length_toList]
  rcases Nat.lt_or_ge j (xs.length * r.sz) with hj | hj
  ·simp only [hj, if_true]
   rcases Nat.lt_or_ge j (i.toNat * r.sz) with hj1 | hj1
   ·rw [if_pos (by omega), if_pos (by omega), if_pos (by omega), if_pos (by omega), if_pos (by omega), if_pos (by omega)]
   ·rcases Nat.lt_or_ge j (i.toNat * r.sz + foff) with hj2 | hj2
    ·rw [if_pos (by omega), if_pos (by omega), if_pos (by omega), if_pos (by omega), if_neg (by omega), if_pos (by omega), if_pos (by omega), if_pos (by omega), if_pos (by omega)]
     congr 1; omega
    ·rcases Nat.lt_or_ge j (i.toNat * r.sz + foff + q.sz) with hj3 | hj3
     ·rw [if_pos (by omega), if_neg (by omega), if_pos (by omega), if_neg (by omega), if_pos (by omega), if_neg (by omega)]
      congr 1; omega
     ·rw [if_neg (by omega)]
      rcases Nat.lt_or_ge j (i.toNat * r.sz + r.sz) with hj4 | hj4
      ·rw [if_pos (by omega), if_neg (by omega), if_neg (by omega), if_pos (by omega)]
       congr 1; omega
      ·rw [if_neg (by omega), if_pos (by omega)]
       congr 1; omega
  ·rw [if_neg (by omega), if_neg (by omega), if_neg (by omega)]
 obtain ⟨g1, g2, g3⟩ := jS (O := O) hsat (arr r U (some b) cap xs) (arr r U (some b) cap (xs.set i.toNat (set y v))) hown (fun k => ⟨fun h => (Option.some.inj h).symm, fun h => by rw [h]; rfl⟩) (fun k => ⟨fun h => (Option.some.inj h).symm, fun h => by rw [h]; rfl⟩) ⟨e1, e2, e3, e4.1, e4.2⟩ e6
  ⟨_, ⟨_, e5, by rw [List.length_set]; exact hle, hmax, by simp only [List.size_toArray, List.length_append, List.length_take, List.length_drop, Array.length_toList]; omega, by rw [List.length_set]; exact hcells⟩, hrc', fun k hk => by rw [← Option.some.inj hk]; exact hno'⟩ hno'
 exact ⟨w', S, zoi, hrun, g1.more fun c hc => ⟨_, List.mem_cons_self .., by rw [hc]; rfl⟩, g2, g3⟩
section
variable {d : Nat}
theorem eff_alloc {α : Type} {r : Rp α} {x : α} {T : TypeId} {sz bytes : Nat} {agg : Bool} {z : List Value} (ti : TI E.P T sz bytes agg z) (hx : ∀ S, r.rc S z x) :
  EffOK E O G ⟨some d, .alloc T, ty, pos, after, g⟩ (fun i => bx r T (i.h 0).2 x :: O) (fun i => tV (aR (i.h 0).2 0)) := fun a w S hs ho hf hb => by
 obtain ⟨zv, hzr, hzc⟩ := ti.zero w
 obtain ⟨he, hs', hno⟩ := bT (w := w) (.cells z.toArray T (0, 0)) hs
 have hrun : (execOp a.eval ⟨some d, .alloc T, ty, pos, after, g⟩).run E.P w = .ok (.value (aR w.heap.size 0)) (w.alloc (.cells z.toArray T (0, 0))) := by
  simp [execOp, Instr.alloc, hzr, newVar, newRow, hzc, aR]
 refine ⟨fun c h => (by cases h), ?_⟩
 rw [hrun]
 exact ⟨_, S, oi none w.heap.size, rfl, he.more fun _ hb => hb.elim, hs', iC ho he (e := bx r T w.heap.size x) ⟨hno, z.toArray, heap_alloc_new w _, by simpa using hx S⟩ (fun b hb => Nat.le_of_eq hb.symm) hb, rfl⟩
end
section
variable {dst : Option Tmp}
theorem em {α : Type} {mm : Bool} {r : Rp α} {U T : TypeId} {l : Option Nat} {cap o i off sz n : Nat} {xs : List α} {y : α} {j : Int} {p : Operand} (hf : ci E.P T i = some (off, sz)) (h0 : Nat.beq sz 0 = false) (hm : d6 mm r U l cap xs ∈ O) (hy : idx xs j = some y) (hp : aA E.N G p (tV (cB l o))) (he : o + off = n) :
  OpOK E O G ⟨dst, .fieldAddr T p i, ty, pos, after, g⟩ (tV (cB l n)) := by
 subst he
 exact ok_fieldAddrE hf h0 hm hy hp
end
theorem RG.castO {O' : List OE} (h : O = O') (k : RG E ops Q rest O' G) : RG E ops Q rest O G := by subst h; exact k
theorem CG.castO {O' : List OE} {c : Code} (h : O = O') (k : CG E Q c O' G) : CG E Q c O G := by subst h; exact k
theorem AT.castO {O' : List OE} {e : Exit} (h : O = O') (k : AT E Q e O' G) : AT E Q e O G := by subst h; exact k
theorem hW {N : Fr} {x : Operand} {u : Value} (h : aA N G x (tV u)) (ho : u.oneCell' = true) : aA N G x (tD rV u) := fun S a hf => j5.2 ⟨h S a hf, ho⟩
end
end Go.Proofs.YtegigakgcnhiaaaGreatDoor

namespace Go.Proofs.YtegigakgcnhiaaaGreatDoor
open Go

section
variable {E : En} {O : List OE} {G : Ctx} {Q : Exit → Act → World → Prop} {ops : Array Oper} {rest : List Oper} {d : Nat} {ty : TypeId} {pos : String} {after : Array Edge}
end
end Go.Proofs.YtegigakgcnhiaaaGreatDoor

namespace Go.Proofs.YtegigakgcnhiaaaGreatDoor
open Go

abbrev ItX (α X : Type) := (σ : Type) → (α → σ → Option (Bool × σ)) → σ → Option (σ × X)
def ItCallX (P : Program) {α X : Type} (args : α → List Ty) (it : ItX α X) (Ob : X → OI → List OE) (fid : FuncId) (cap : Array Value) (fp : Nat → Prop) (w : World) (S : SH) : Prop :=
 ∀ (σ : Type) (y : α → σ → Option (Bool × σ)) (s : σ) (R : σ × X), it σ y s = some R → ∀ I yv, Yld P args y I yv → ∀ e, I s e → e.p w S → (∀ k, e.fp k → ¬ fp k) →
  Calls P fid (#[yv] ++ cap) w fun en w' => ∃ e' S' j, (∃ v, en = .returned v) ∧ I R.1 e' ∧ Ext (fun k => e.fp k ∨ fp k) w S w' S' ∧ Sat w' S' ∧ e'.p w' S' ∧ Own 0 noB w' S' (Ob R.2 j) ∧ (∀ k, e'.fp k ∨ fpB (Ob R.2 j) k → (e.fp k ∨ fp k) ∨ w.heap.size ≤ k) ∧ ∀ k, e'.fp k → ¬ fpB (Ob R.2 j) k
def itrX (P : Program) {α X : Type} (args : α → List Ty) (it : ItX α X) (Ob : X → OI → List OE) (v : Value) (fp : Nat → Prop) : OE where
 fp := fp
 p := fun w S => (∀ k, fp k → k < w.heap.size) ∧ ∃ fid cap, v = .func (.func fid) #[] cap ∧ an P fid = true ∧
  ∀ C w' S', Ext C w S w' S' → (∀ k, fp k → ¬ C k) → Sat w' S' → ItCallX P args it Ob fid cap fp w' S'
 here := fun h k hk => h.1 k hk
 kept := by
  rintro C w w' S S' ⟨h1, fid, cap, h2, h3, h4⟩ k hC
  refine ⟨fun b hb => Nat.lt_of_lt_of_le (h1 b hb) k.size, fid, cap, h2, h3, fun C' w'' S'' k' hC' hs => ?_⟩;exact h4 (fun b => C b ∨ C' b) w'' S'' ((k.more fun b hb => .inl hb).trans (k'.more fun b hb => .inr hb)) (fun b hb h => h.elim (hC b hb) (hC' b hb)) hs
def noOb : Unit → OI → List OE := fun _ _ => []
def itU {α : Type} (it : It α) : ItX α Unit := fun σ y s => (it σ y s).map fun r => (r, ())
theorem itU_p {P : Program} {α : Type} {args : α → List Ty} {it : It α} {v : Value} {fp : Nat → Prop} {w : World} {S : SH} (h : (itr P args it v fp).p w S) : (itrX P args (itU it) noOb v fp).p w S := by
 obtain ⟨h1, fid, cap, h2, h3, h4⟩ := h
 refine ⟨h1, fid, cap, h2, h3, fun C w' S' k hC hs σ y s R hit I yv hy e he hep hap => ?_⟩
 unfold itU at hit
 cases hq : it σ y s with
 | none => rw [hq] at hit; cases hit
 | some s' =>
  rw [hq] at hit
  obtain rfl : (s', ()) = R := by simpa using hit
  refine (h4 C w' S' k hC hs σ y s s' hq I yv hy e he hep hap).mono ?_
  rintro en w2 ⟨e', S2, g1, g2, g3, g4, g5, g6⟩
  exact ⟨e', S2, zoi, g1, g2, g3, g4, g5, trivial, fun k hk => hk.elim (fun h => (g6 k h).imp .inl id) (fun ⟨_, h, _⟩ => by cases h), fun k _ ⟨_, h, _⟩ => by cases h⟩
section
variable {E : En} {O : List OE} {G : Ctx} {Q : Exit → Act → World → Prop} {ops : Array Oper} {rest : List Oper} {c : Code} {P : Program} {α : Type} {args : α → List Ty} {it : It α} {v : Value} {fp : Nat → Prop}
theorem CG.itU (h : CG E Q c (itrX P args (itU it) noOb v fp :: O) G) : CG E Q c (itr P args it v fp :: O) G := fun a w S st => h a w S (st.own_map fun ⟨⟨g1, g2⟩, g3, g4⟩ => ⟨⟨itU_p g1, g2⟩, g3, g4⟩)
end

def ItSpecX (P : Program) (fid : FuncId) {α X : Type} (args : α → List Ty) (it : ItX α X) (Ob : X → OI → List OE) (O : List OE) (cts : List Ty) : Prop :=
 ∀ w S cap, Sat w S → Own 0 noB w S O → Tys S cts cap → ItCallX P args it Ob fid cap.toArray (fpB O) w S
def endIX (E : En) {σ X : Type} (I : σ → OE → Prop) (R : σ × X) (Ob : X → OI → List OE) : Ending → World → Prop := fun en w' => ∃ e' S' j, (∃ v, en = .returned v) ∧ I R.1 e' ∧ Ext E.B E.w0 E.S0 w' S' ∧ Sat w' S' ∧ e'.p w' S' ∧ Own 0 noB w' S' (Ob R.2 j) ∧ (∀ k, e'.fp k ∨ fpB (Ob R.2 j) k → E.B k ∨ E.w0.heap.size ≤ k) ∧ ∀ k, e'.fp k → ¬ fpB (Ob R.2 j) k
theorem ItSpecX.of {P : Program} {f : FuncId} {fn : Func} {c : Code} {N : Nat} {α X : Type} {args : α → List Ty} {it : ItX α X} {Ob : X → OI → List OE} {O : List OE} {cts : List Ty} (hf : P.funcs[f]? = some fn) (hb : fn.body = some c) (hN : fn.ntmps = N) (hn : Nat.ble (cts.length + 1) N = true)
    (h : ∀ (σ : Type) (y : α → σ → Option (Bool × σ)) (s : σ) (R : σ × X), it σ y s = some R → ∀ I yv, Yld P args y I yv → ∀ e, I s e → ∀ w0 S0 B, (∀ k, B k → e.fp k ∨ ∃ f ∈ O, f.fp k) →
      CG ⟨P, ⟨N, []⟩, B, w0, S0, none⟩ (bodyPost P fn (endIX ⟨P, ⟨N, []⟩, B, w0, S0, none⟩ I R Ob)) c (e :: O) (jr 0 (tV yv :: cts))) : ItSpecX P f args it Ob O cts := by
  subst hN
  intro w S cap hs ho hc σ y s R hit I yv hy e he hep hap
  have hown : Own w.heap.size (fun k => e.fp k ∨ ∃ f ∈ O, f.fp k) w S (e :: O) :=
    ⟨⟨hep, fun k hk => .inr (.inl hk)⟩, fun f hf b hb hfb => hap b hb ⟨f, hf, hfb⟩, dv ho fun f hf k hk => .inr (.inr ⟨f, hf, hk⟩)⟩
  have hfacts := eS (S := S) (ts := tV yv :: cts) (vs := yv :: cap) ⟨rfl, hc⟩ fn.ntmps (by simpa using Nat.le_of_ble_eq_true hn)
  have := dm.1 (callsIn_of_wp (F := fw none) (n := 0) hf hb trivial (h σ y s R hit I yv hy e he w S (fun k => e.fp k ∨ ∃ f ∈ O, f.fp k) (fun _ h => h) _ w S ⟨Ext.refl _ _ _, hs, hown, hfacts⟩))
  rw [show (#[yv] ++ cap.toArray : Array Value) = (yv :: cap).toArray from by simp]
  exact this.mono fun en w' ⟨e', S', j, h1, h2, h3, h4, h5, h6, h7, h8⟩ => ⟨e', S', j, h1, h2, h3, h4, h5, h6, h7, h8⟩
def SpecItX (P : Program) (f : FuncId) (ts : List Ty) (O1 : List OE) {α X : Type} (args : α → List Ty) (it : ItX α X) (Ob : X → OI → List OE) : Prop :=
 ∀ w S vs, Sat w S → Tys S ts vs → Own 0 noB w S O1 → Calls P f vs.toArray w fun e w' => ∃ v fp S', e = .returned v ∧ Ext (fpB O1) w S w' S' ∧ Sat w' S' ∧ (itrX P args it Ob v fp).p w' S' ∧ ∀ k, fp k → fpB O1 k ∨ w.heap.size ≤ k
def endItX (E : En) (O1 : List OE) {α X : Type} (args : α → List Ty) (it : ItX α X) (Ob : X → OI → List OE) : Ending → World → Prop := fun e w' => ∃ v fp S', e = .returned v ∧ Ext E.B E.w0 E.S0 w' S' ∧ Sat w' S' ∧ (itrX E.P args it Ob v fp).p w' S' ∧ ∀ k, fp k → fpB O1 k ∨ E.w0.heap.size ≤ k
theorem SpecItX.of {P : Program} {f : FuncId} {fn : Func} {c : Code} {ts : List Ty} {N : Nat} {O1 : List OE} {α X : Type} {args : α → List Ty} {it : ItX α X} {Ob : X → OI → List OE} (hf : P.funcs[f]? = some fn) (hb : fn.body = some c) (hN : fn.ntmps = N) (hn : Nat.ble ts.length N = true)
  (h : ∀ w0 S0, CG ⟨P, ⟨N, []⟩, fpB O1, w0, S0, none⟩ (bodyPost P fn (endItX ⟨P, ⟨N, []⟩, fpB O1, w0, S0, none⟩ O1 args it Ob)) c O1 (jr 0 ts)) : SpecItX P f ts O1 args it Ob := by
 subst hN
 intro w S vs hs hv ho
 exact dm.1 (callsIn_of_wp (F := fw none) (n := 0) hf hb trivial (h w S _ w S ⟨Ext.refl _ _ _, hs, dv ho fun f hf k hk => .inr ⟨f, hf, hk⟩, eS hv _ (Nat.le_of_ble_eq_true hn)⟩))
section
variable {E : En} {O : List OE} {G : Ctx} {Q : Exit → Act → World → Prop} {ops : Array Oper} {rest : List Oper} {d : Nat} {ty : TypeId} {pos : String} {after : Array Edge}
end

def gj (l : Nat) (r : Loop) (st : LoopState) (pd : Option Code) : OE where
 fp := fun k => k = l
 p := fun w S => S l = none ∧ w.heap[l]? = some (.loop { r with state := st, pending := pd })
 here := by
  intro w S h k hk
  subst hk
  exact (Array.getElem?_eq_some_iff.1 h.2).1
 kept := by
  intro C w w' S S' h k hC
  have hlt := (Array.getElem?_eq_some_iff.1 h.2).1
  exact ⟨by rw [k.old l hlt (hC l rfl)]; exact h.1, by rw [k.heap l hlt (hC l rfl)]; exact h.2⟩
def stJ (j : Option Nat) : LoopState := if j.isNone then .ready else .done
def rndJ (E : En) (l : Nat) (rec : Loop) {σ ι : Type} (Oi : ι → List OE) (dat : ι → σ) (jc : Nat → Code) (r : Option Nat × σ) : Ending → World → Prop := fun en w' =>
 ∃ i S', en = .returned (.bool r.1.isNone) ∧ dat i = r.2 ∧ Ext E.B E.w0 E.S0 w' S' ∧ Sat w' S' ∧ Own E.base E.B w' S' (gj l rec (stJ r.1) (r.1.map jc) :: Oi i)
def bodyJ {α σ : Type} (f : α → σ → Option (Option Nat × σ)) : α → Option Nat × σ → Option (Bool × (Option Nat × σ)) := fun x s =>
 match s.1 with
 | some _ => none
 | none => (f x s.2).map fun r => (r.1.isNone, r)
section
variable {E : En} {O : List OE} {G : Ctx}
theorem own_recP {base : Nat} {B : Nat → Prop} {w : World} {S : SH} {l : Nat} {rec : Loop} {st st' : LoopState} {pd pd' : Option Code} {O : List OE} (h : Own base B w S (gj l rec st pd :: O)) (hs : Sat w S) :
  Ext (fun k => k = l) w S (w.putObj l (.loop { rec with state := st', pending := pd' })) S ∧ Sat (w.putObj l (.loop { rec with state := st', pending := pd' })) S ∧ Own base B (w.putObj l (.loop { rec with state := st', pending := pd' })) S (gj l rec st' pd' :: O) := by
 obtain ⟨hno, hl⟩ := h.1.1
 have hlt := (Array.getElem?_eq_some_iff.1 hl).1
 have hext : Ext (fun k => k = l) w S (w.putObj l (.loop { rec with state := st', pending := pd' })) S := ⟨rfl, rfl, rfl, Nat.le_refl _, by simp, fun k _ hk => World.putObj_heap_other hk, SH.le_refl _, fun _ _ _ => rfl⟩
 refine ⟨hext, hs.same fun k o hk => ?_, ⟨⟨hno, World.putObj_heap_same hlt⟩, h.1.2⟩, h.2.1, h.2.2.ext hext fun g hg k hk hkl => h.2.1 g hg k hkl hk⟩
 have hne : k ≠ l := fun e => by subst e; rw [hno] at hk; cases hk
 exact World.putObj_heap_other hne
theorem AT.beginP {l : Nat} {rec : Loop} {body : Code} {R : Ending → World → Prop} (h : CG E (roundPost E.P l R) body (gj l rec .busy none :: O) G) : AT E (begQ E l body R) .normal (gj l rec .ready none :: O) G := fun a w S st => by
 obtain ⟨h1, h2, h3⟩ := own_recP (st' := .busy) (pd' := none) st.own st.sat
 obtain ⟨_, hl⟩ := st.own.1.1
 exact ⟨_, run_beginRound hl rfl, h a _ S ⟨st.ext.step h1 (fun c hc => st.own.1.2 c hc), h2, h3, st.facts⟩⟩
theorem kH {l : Nat} {rec : Loop} {σ ι : Type} {Oi : ι → List OE} {dat : ι → σ} {jc : Nat → Code} {s2 : σ} (i : ι) (hi : dat i = s2) (hO : O = Oi i) : AT E (roundPost E.P l (rndJ E l rec Oi dat jc (none, s2))) .normal (gj l rec .busy none :: O) G := fun a w S st => by
 subst hO
 obtain ⟨h1, h2, h3⟩ := own_recP (st' := .ready) (pd' := none) st.own st.sat
 obtain ⟨_, hl⟩ := st.own.1.1
 exact ⟨_, _, run_endRound none hl, i, S, rfl, hi, st.ext.step h1 (fun c hc => st.own.1.2 c hc), h2, h3⟩
theorem AT.retRoundP {l : Nat} {rec : Loop} {σ ι : Type} {Oi : ι → List OE} {dat : ι → σ} {jc : Nat → Code} {s2 : σ} (q : Nat) (hq : jc q = .ret) (i : ι) (hi : dat i = s2) (hO : O = Oi i) : AT E (roundPost E.P l (rndJ E l rec Oi dat jc (some q, s2))) .ret (gj l rec .busy none :: O) G := fun a w S st => by
 subst hO
 obtain ⟨h1, h2, h3⟩ := own_recP (st' := .done) (pd' := some .ret) st.own st.sat
 obtain ⟨_, hl⟩ := st.own.1.1
 exact ⟨_, _, run_endRound (some .ret) hl, i, S, rfl, hi, st.ext.step h1 (fun c hc => st.own.1.2 c hc), h2, by rw [Option.map_some, hq]; exact h3⟩
theorem CG.rangeX {Q : Exit → Act → World → Prop} {v : Value} {fp : Nat → Prop} {α X : Type} {args : α → List Ty} {it : ItX α X} {Ob : X → OI → List OE} {σ ι : Type} (Oi : ι → List OE) (dat : ι → σ) (jc : Nat → Code) {f : α → σ → Option (Option Nat × σ)} {R : (Option Nat × σ) × X} {g : Operand} {ps : List Nat} {assign body : Code} (hr : E.r = none)
    (hg : aA E.N G g (tV v)) (i0 : ι) (hO : O = itrX E.P args it Ob v fp :: Oi i0) (hit : it (Option Nat × σ) (bodyJ f) (none, dat i0) = some R) (hps : ∀ x, ps.length = (args x).length) (hpn : (ps.all fun d => Nat.blt d E.N.n) = true)
    (hbody : ∀ (i : ι) (x : α) (r : Option Nat × σ), f x (dat i) = some r → ∀ (l : Nat) (rec : Loop) (w1 : World) (S1 : SH) (B1 : Nat → Prop),
      CG ⟨E.P, ⟨E.N.n, []⟩, B1, w1, S1, some l⟩ (begQ ⟨E.P, ⟨E.N.n, []⟩, B1, w1, S1, some l⟩ l body (rndJ ⟨E.P, ⟨E.N.n, []⟩, B1, w1, S1, some l⟩ l rec Oi dat jc r)) assign (gj l rec .ready none :: Oi i) (putsG ps (args x) G))
    (k : ∀ i' j, dat i' = R.1.2 → ∀ b, (R.1.1 = none → AT ⟨E.P, ⟨E.N.n, markD b :: E.N.ds⟩, E.B, E.w0, E.S0, E.r⟩ Q .normal (dfb b :: (Ob R.2 j ++ Oi i')) G) ∧
      (∀ q, R.1.1 = some q → CG ⟨E.P, ⟨E.N.n, markD b :: E.N.ds⟩, E.B, E.w0, E.S0, E.r⟩ Q (jc q) (dfb b :: (Ob R.2 j ++ Oi i')) G)) : CG E Q (.rangeFunc g ps.toArray assign body) O G := fun a w S st => by
  subst hO
  refine wpIn_rangeFunc fun fn _ => ?_
  have hr0 : (fw E.r).round = none := hr
  have hfw : fw E.r = fw none := by rw [hr]
  rw [hr0]
  obtain ⟨rec, hrec⟩ : ∃ rec : Loop, rec = { state := .ready, pending := none, fn, tmps := a.tmps, params := ps.toArray, assign, body, defers := w.heap.size } := ⟨_, rfl⟩
  obtain ⟨x1, x2, x3⟩ := bT (w := w) (.deferred (some [])) st.sat
  obtain ⟨y1, y2, y3⟩ := bT (w := w.alloc (.deferred (some []))) (.loop rec) x2
  obtain ⟨W1, hW1⟩ : ∃ W1, (w.alloc (.deferred (some []))).alloc (.loop rec) = W1 := ⟨_, rfl⟩
  rw [hW1] at y1 y2
  have hsz : (w.alloc (.deferred (some []))).heap.size = w.heap.size + 1 := by simp
  rw [hsz] at y3
  have hext : Ext noB w S W1 S := x1.trans y1
  have hL1 : W1.heap[w.heap.size + 1]? = some (.loop rec) := by
    rw [← hW1]; have := World.alloc_heap_new (w.alloc (.deferred (some []))) (.loop rec); rwa [hsz] at this
  have hK1 : W1.heap[w.heap.size]? = some (.deferred (some [])) := by
    rw [y1.heap w.heap.size (by omega) (fun h => h)]; exact World.alloc_heap_new w _
  have hW1s : W1.heap.size = w.heap.size + 2 := by rw [← hW1]; simp
  have hg' : a.eval g = v := hg S a st.facts
  obtain ⟨hit1, hap, hoi⟩ := st.own
  obtain ⟨⟨hfp, gf, cap, hv, hcal, hcall⟩, hbase⟩ := hit1
  have hbl := st.base_le
  have hoi1 : Own E.base E.B W1 S (Oi i0) := hoi.ext0 hext
  have hlt : ∀ f ∈ Oi i0, ∀ k, f.fp k → k < w.heap.size := fun f hf k hk => f.here (Own.mem hoi f hf).1 k hk
  refine ⟨w.heap.size + 1, [markD w.heap.size], W1, { target := .fn (.func gf) cap, args := #[.func (.yield (w.heap.size + 1)) #[] #[]] }, W1, gf,
    #[.func (.yield (w.heap.size + 1)) #[] #[]] ++ cap, W1, ?_, ?_, fun _ _ => trivial, ?_, fun h => (by cases h), ?_⟩
  · rw [← hW1, hrec]; exact run_enterLoop_outer _ _ _ _ _
  · simp only [resolve, hg', hv]
    simp [go_sem]
  · simp [invoke, go_sem, cl hcal]
  rw [hfw]
  refine dm.2 ?_
  have hyld : Yld E.P args (bodyJ f) (fun s e => ∃ i, dat i = s.2 ∧ e = gA S (gj (w.heap.size + 1) rec (stJ s.1) (s.1.map jc) :: Oi i)) (.func (.yield (w.heap.size + 1)) #[] #[]) := by
    refine ⟨_, rfl, ?_⟩
    rintro x ⟨j0, s⟩ r hy e ⟨i, hi, rfl⟩ w2 S2 vs hs2 ⟨hle, hown⟩ hvs
    cases j0 with
    | some q => unfold bodyJ at hy; cases hy
    | none =>
    have hi' : dat i = s := hi
    subst hi'
    obtain ⟨r2, hs2', rfl⟩ : ∃ r2, f x (dat i) = some r2 ∧ r = (r2.1.isNone, r2) := by
      unfold bodyJ at hy
      cases hf : f x (dat i) with
      | none => simp only [hf] at hy; cases hy
      | some s2 => simp only [hf] at hy; exact ⟨s2, rfl, by simpa using hy.symm⟩
    have hl2 := hown.1.1.2
    have hvl := hvs.length
    have hyr := run_yield (P := E.P) (args := vs.toArray) hl2 (by rw [hrec]; simp [hps x, hvl])
    refine ⟨_, _, _, _, hyr, roundIn_of_wpIn trivial ?_⟩
    have hown' : Own 0 noB w2 S2 (gj (w.heap.size + 1) rec .ready none :: Oi i) := hown
    have := hbody i x r2 hs2' (w.heap.size + 1) rec w2 S2 (fun k => ∃ f ∈ gj (w.heap.size + 1) rec .ready none :: Oi i, f.fp k)
      { tmps := (ps.zip vs).foldl (fun t (p : Nat × Value) => t.setIfInBounds p.1 p.2) a.tmps, defers := [] } w2 S2
      ⟨Ext.refl _ _ _, hs2, dv hown' fun f hf k hk => .inr ⟨f, hf, hk⟩, facts_puts ps (args x) vs ⟨a.tmps, []⟩ G (hps x) hvs hpn ⟨st.facts.size, rfl, fun j t h => t.mono hle (st.facts.at_ j t h)⟩⟩
    rw [hrec]
    rw [hrec] at this
    rw [foldl_zip_array]
    refine wpIn_mono this ?_
    intro e a3 w3 hp
    cases e with
    | normal =>
      obtain ⟨w4, hb4, hp4⟩ := hp
      refine ⟨w4, hb4, wpIn_mono hp4 ?_⟩
      have hR : ∀ en w', rndJ ⟨E.P, ⟨E.N.n, []⟩, fun k => ∃ f ∈ gj (w.heap.size + 1) rec .ready none :: Oi i, f.fp k, w2, S2, some (w.heap.size + 1)⟩ (w.heap.size + 1) rec Oi dat jc r2 en w' →
          ∃ e' S', en = .returned (.bool r2.1.isNone) ∧ (∃ i', dat i' = r2.2 ∧ e' = gA S (gj (w.heap.size + 1) rec (stJ r2.1) (r2.1.map jc) :: Oi i')) ∧ Ext (gA S (gj (w.heap.size + 1) rec .ready none :: Oi i)).fp w2 S2 w' S' ∧ Sat w' S' ∧ e'.p w' S' ∧ ∀ k, e'.fp k → (gA S (gj (w.heap.size + 1) rec .ready none :: Oi i)).fp k ∨ w2.heap.size ≤ k := by
        rintro en w' ⟨i', S', h1, h2, h3, h4, h5⟩
        exact ⟨_, S', h1, ⟨i', h2, rfl⟩, h3, h4, ⟨SH.le_trans hle h3.keep, h5.weak⟩, fun k ⟨f, hf, hk⟩ => ((Own.mem h5 f hf).2 k hk).symm⟩
      rw [hrec] at hR
      intro e5 a5 w5 hp5
      cases e5 <;> simp only [roundPost] at hp5 ⊢
      case normal => obtain ⟨v5, w6, h1, h2⟩ := hp5; exact ⟨v5, w6, h1, hR _ _ h2⟩
      case ret => obtain ⟨v5, w6, h1, h2⟩ := hp5; exact ⟨v5, w6, h1, hR _ _ h2⟩
      case exit => obtain ⟨v5, w6, h1, h2⟩ := hp5; exact ⟨v5, w6, h1, hR _ _ h2⟩
      case goto => obtain ⟨v5, w6, h1, h2⟩ := hp5; exact ⟨v5, w6, h1, hR _ _ h2⟩
    | _ => exact hp
  have hrecE : W1.heap[w.heap.size + 1]? = some (.loop { rec with state := .ready, pending := none }) := by rw [hL1, hrec]
  have he0 : (gA S (gj (w.heap.size + 1) rec .ready none :: Oi i0)).p W1 S := ⟨SH.le_refl _, ⟨⟨y3, hrecE⟩, fun _ _ => .inl (Nat.zero_le _)⟩, fun f hf k hk hfk => by have := hlt f hf k hfk; have hk' : k = w.heap.size + 1 := hk; omega, hoi1.weak⟩
  have hap0 : ∀ k, (gA S (gj (w.heap.size + 1) rec .ready none :: Oi i0)).fp k → ¬ fp k := by
    rintro k ⟨f, hf, hk⟩ hfk
    rcases List.mem_cons.1 hf with rfl | hf
    · have := hfp k hfk; have hk' : k = w.heap.size + 1 := hk; omega
    · exact hap f hf k hfk hk
  refine (hcall noB W1 S hext (fun _ _ h => h) y2 _ (bodyJ f) (none, dat i0) R hit _ _ hyld _ ⟨i0, rfl, rfl⟩ he0 hap0).mono ?_
  rintro en w2 ⟨e', S2, j, ⟨vr, rfl⟩, ⟨i', hi', rfl⟩, hx2, hs2, ⟨hle2, hown2⟩, hob, hnew, hapo⟩
  have hl2 := hown2.1.1.2
  have hnb : ∀ k, (dfb w.heap.size).fp k → ¬ ((gA S (gj (w.heap.size + 1) rec .ready none :: Oi i0)).fp k ∨ fp k) := by
    rintro k hk h
    have hk' : k = w.heap.size := hk
    subst hk'
    rcases h with ⟨f, hf, hfk⟩ | h
    · rcases List.mem_cons.1 hf with rfl | hf
      · have hk' : w.heap.size = w.heap.size + 1 := hfk; omega
      · have := hlt f hf _ hfk; omega
    · have := hfp _ h; omega
  have hBin : ∀ k, ((gA S (gj (w.heap.size + 1) rec .ready none :: Oi i0)).fp k ∨ fp k) → E.w0.heap.size ≤ k ∨ E.B k := by
    rintro k (⟨f, hf, hk⟩ | h)
    · rcases List.mem_cons.1 hf with rfl | hf
      · left; have hk' : k = w.heap.size + 1 := hk; have : E.w0.heap.size ≤ w.heap.size := hbl; omega
      · exact (Own.mem hoi f hf).2 k hk
    · exact hbase k h
  have hBn : ∀ k, ((gA S (gj (w.heap.size + 1) rec (stJ R.1.1) (R.1.1.map jc) :: Oi i')).fp k ∨ fpB (Ob R.2 j) k) → E.base ≤ k ∨ E.B k := fun k hk => (hnew k hk).elim (hBin k) (fun h => .inl (by have h1 : E.base ≤ w.heap.size := hbl; have h2 : W1.heap.size ≤ k := h; omega))
  have hb2 : Own E.base E.B w2 S2 (gj (w.heap.size + 1) rec (stJ R.1.1) (R.1.1.map jc) :: (Ob R.2 j ++ Oi i')) := by
    obtain ⟨q1, q2, q3⟩ := hown2
    refine Own.cons ⟨q1.1, fun k hk => hBn k (.inl ⟨_, List.mem_cons_self .., hk⟩)⟩ (fun f hf => ?_) (Own.join (dv hob fun f hf k hk => hBn k (.inr ⟨f, hf, hk⟩)) (dv q3 fun f hf k hk => hBn k (.inl ⟨f, List.mem_cons_of_mem _ hf, hk⟩)) fun e he f hf k hek hfk => hapo k ⟨f, List.mem_cons_of_mem _ hf, hfk⟩ ⟨e, he, hek⟩)
    rcases List.mem_append.1 hf with hf | hf
    · exact fun k hk hfk => hapo k ⟨_, List.mem_cons_self .., hk⟩ ⟨f, hf, hfk⟩
    · exact q2 f hf
  have hend : stJ R.1.1 ≠ .busy := by unfold stJ; split <;> simp
  obtain ⟨z1, z2, z3⟩ := own_recP (st' := .exhausted) (pd' := R.1.1.map jc) hb2 hs2
  have hdf : (dfb w.heap.size).p W1 S := ⟨x3, hK1⟩
  have hd2 : (dfb w.heap.size).p w2 S2 := (dfb w.heap.size).kept hdf hx2 hnb
  have hd3 := (dfb w.heap.size).kept hd2 z1 (fun k hk hkl => by have h1 : k = w.heap.size := hk; have h2 : k = w.heap.size + 1 := hkl; omega)
  have stE : St ⟨E.P, ⟨E.N.n, markD w.heap.size :: E.N.ds⟩, E.B, E.w0, E.S0, E.r⟩ (dfb w.heap.size :: (Ob R.2 j ++ Oi i')) G { a with defers := [markD w.heap.size] ++ a.defers } (w2.putObj (w.heap.size + 1) (.loop { rec with state := .exhausted, pending := R.1.1.map jc })) S2 := by
    refine ⟨((st.ext.step0 hext).step hx2 hBin).step z1 (fun c hc => z3.1.2 c hc), z2, ?_, ?_⟩
    · refine Own.cons ⟨hd3, fun k hk => .inl (by have h1 : k = w.heap.size := hk; rw [h1]; exact hbl)⟩ (fun f hf k hk hfk => ?_) z3.2.2
      have h1 : k = w.heap.size := hk
      have h2 : ((gA S (gj (w.heap.size + 1) rec (stJ R.1.1) (R.1.1.map jc) :: Oi i')).fp k ∨ fpB (Ob R.2 j) k) := by
        rcases List.mem_append.1 hf with hf | hf
        · exact .inr ⟨f, hf, hfk⟩
        · exact .inl ⟨f, List.mem_cons_of_mem _ hf, hfk⟩
      rcases hnew k h2 with h | h
      · exact hnb k hk h
      · omega
    · refine ⟨st.facts.size, ?_, fun j t hj => t.mono (SH.le_trans (SH.le_refl S) hle2) (st.facts.at_ j t hj)⟩
      show markD w.heap.size :: a.defers = _
      rw [st.facts.defers]
  obtain ⟨k1, k2⟩ := k i' j hi' w.heap.size
  refine ⟨_, _, run_endLoop hl2 hend, ?_⟩
  cases hR1 : R.1.1 with
  | none =>
    rw [hR1] at stE
    exact k1 hR1 _ _ S2 stE
  | some q =>
    rw [hR1] at stE
    have := k2 q hR1 _ _ S2 stE
    show (jc q).wpIn (fw none) 0 E.P Q _ _
    have hE : fw (⟨E.P, ⟨E.N.n, markD w.heap.size :: E.N.ds⟩, E.B, E.w0, E.S0, E.r⟩ : En).r = fw none := hfw
    rw [hE] at this
    exact this
end
end Go.Proofs.YtegigakgcnhiaaaGreatDoor

namespace Go.Proofs.YtegigakgcnhiaaaGreatDoor
open Go

section
variable {E : En} {O : List OE} {G : Ctx} {Q : Exit → Act → World → Prop} {ops : Array Oper} {rest : List Oper}
section
variable {dst : Option Tmp} {ty : TypeId} {pos : String} {after : Array Edge} {g : Option (Nat × Bool)}
end
section
variable {P : Program} {N : Nat} {w0 : World} {S0 : SH} {fn : Func} {O1 : List OE} {ι : Type} {t : ι → Ty} {O2 : ι → List OE}
end
end
section
variable {E : En} {O : List OE} {G : Ctx} {Q : Exit → Act → World → Prop} {ops : Array Oper} {rest : List Oper} {κ β : Type} [DecidableEq κ] {V : MV β} {kv : κ → Value} {b : Nat} {os : List (Option Nat × Nat)} {m : List (κ × β)} {k : κ} {t kt et : TypeId} {x i v : Operand}
 {d : Nat} {dst : Option Nat} {ty : TypeId} {pos : String} {after : Array Edge} {g : Option (Nat × Bool)}
end
end Go.Proofs.YtegigakgcnhiaaaGreatDoor

namespace Go.Proofs.YtegigakgcnhiaaaGreatDoor
open Go

section
variable {E : En} {O : List OE} {G : Ctx} {Q : Exit → Act → World → Prop} {ops : Array Oper} {rest : List Oper} {c : Code} {κ β : Type} [DecidableEq κ] {kv : κ → Value} {m : List (κ × β)} {k : κ} {t kt et : TypeId} {x i : Operand} {γ : β → Ty}
 {dst : Option Nat} {ty : TypeId} {pos : String} {after : Array Edge} {g : Option (Nat × Bool)}
end
end Go.Proofs.YtegigakgcnhiaaaGreatDoor

namespace Go.Proofs.YtegigakgcnhiaaaGreatDoor
open Go

def GS : Nat := 1000000
def tGl {α : Type} (r : Rp α) (x : α) (g : Nat) : Ty where
 p := fun S _ => (aF r x).p S (aR g 0)
 mono := fun h k => (aF r x).mono h k
theorem glob_p {α : Type} {r : Rp α} {x : α} {g : Nat} {vs : List Value} {w : World} {S : SH} (hs : Sat w S) (hg : (g, vs) ∈ glob) (hr : ∀ S, r.rc S vs x) : (aF r x).p S (aR g 0) := by
 obtain ⟨c, T, fr, h1, h2⟩ := hs.gl _ hg
 refine ⟨g, 0, c, T, fr, rfl, h1, ?_⟩
 rw [List.drop_zero, ← r.len (hr S)]
 have h3 : c.toList.take vs.length = vs := h2
 rw [h3]
 exact hr S
section
variable {E : En} {O : List OE} {G : Ctx} {dst : Option Tmp} {ty : TypeId} {pos : String} {after : Array Edge} {g : Option (Nat × Bool)}
theorem facts_gl {N : Fr} {S : SH} {a : Act} {t : Ty} (hf : Facts N S a G) (h : ∀ v, t.p S v) : Facts N S a ((GS, t) :: G) := ⟨hf.size, hf.defers, fun j u hj => by
 unfold look at hj
 cases hb : Nat.beq GS j with
 | true =>
  rw [hb] at hj
  simp only [cond_true, Option.some.injEq] at hj
  rw [← hj]; exact h _
 | false =>
  rw [hb] at hj
  simp only [cond_false] at hj
  exact hf.at_ j u hj⟩
theorem OpOK.glob {α : Type} {r : Rp α} {x : α} {v : Nat} {vs : List Value} {o : Oper} {t : Ty} (hg : (v, vs) ∈ glob) (hr : ∀ S, r.rc S vs x) (h : OpOK E O ((GS, tGl r x v) :: G) o t) : OpOK E O G o t := fun a w S hs ho hf =>
 h a w S hs ho (facts_gl hf fun _ => glob_p hs hg hr)
theorem hGlob {N : Fr} {α : Type} {r : Rp α} {x : α} {v : Nat} : aA N ((GS, tGl r x v) :: G) (.global v) (aF r x) := fun S a hf => hf.at_ GS (tGl r x v) (by simp [look])
def idxS (s : Str) (i : Int) : Option Int := (idx s i).map fun b => (b.toNat : Int)
theorem iK {s : Str} {x ix : Operand} {t : TypeId} {k : IntKind} {i y : Int} (ht : E.P.underlying t = some .string) (hx : aA E.N G x (tD rS s)) (hi : aA E.N G ix (tD (rI k) i)) (hy : idxS s i = some y) :
  OpOK E O G ⟨dst, .index t x ix, ty, pos, after, g⟩ (tD (rI .u8) y) := .of_pure fun a w S _ _ hf => by
 have h1 : a.eval x = .string ⟨s.toArray⟩ := iS.1 (hx S a hf)
 have h2 : a.eval ix = .int k i := bD.1 (hi S a hf)
 unfold idxS at hy
 cases hb : idx s i with
 | none => rw [hb] at hy; cases hy
 | some b =>
  rw [hb] at hy
  obtain ⟨g1, g2⟩ := bo hb
  have hlt : i.toNat < s.length := (List.getElem?_eq_some_iff.1 g2).1
  have e : y = (b.toNat : Int) := by simpa using hy.symm
  have hsz : (ByteArray.mk s.toArray).size = s.length := by simp [ByteArray.size]
  refine ⟨.int .u8 y, ?_, bD.2 rfl⟩
  have h3 := run_index_string (P := E.P) w t ⟨s.toArray⟩ k i ht
  rw [dif_pos (by rw [hsz]; omega)] at h3
  have h4 : (ByteArray.mk s.toArray)[i.toNat]'(by rw [hsz]; exact hlt) = b := by
   have := (List.getElem?_eq_some_iff.1 g2).2
   show s.toArray[i.toNat] = b
   simpa using this
  simp only [execOp, h1, h2, Sem.run_bind, h3, Result.andThen_ok, Sem.run_pure]
  rw [h4, e]
end
end Go.Proofs.YtegigakgcnhiaaaGreatDoor

namespace Go.Proofs.YtegigakgcnhiaaaGreatDoor
open Go
open Go.MapKept (Stamped)
section
variable {κ β : Type} [DecidableEq κ] {V : MV β} {kv : κ → Value}
def tNx (b : Bool) : Ty where
 p := fun _ v => ∃ vs : List Value, v = .tuple (.mk (.bool b :: vs))
 mono := fun _ h => h
end
section
variable {E : En} {O : List OE} {G : Ctx} {Q : Exit → Act → World → Prop} {ops : Array Oper} {rest : List Oper} {c : Code} {κ β : Type} [DecidableEq κ] {V : MV β} {kv : κ → Value} {b r : Nat} {os : List (Option Nat × Nat)} {m : List (κ × β)} {left : List κ} {cur : Option κ} {k : κ} {t kt et : TypeId} {x i v : Operand}
 {d : Nat} {dst : Option Nat} {ty : TypeId} {pos : String} {after : Array Edge} {g : Option (Nat × Bool)}
theorem ok_extractNx {f : Bool} (hx : aA E.N G x (tNx f)) : OpOK E O G ⟨dst, .extract x 0, ty, pos, after, g⟩ (tD rB f) :=
 .of_pure fun a w S _ _ hf => by
  obtain ⟨vs, h1⟩ := hx S a hf
  exact ⟨.bool f, by simp [execOp, h1, Instr.extract], db.2 rfl⟩
end
end Go.Proofs.YtegigakgcnhiaaaGreatDoor

namespace Go.Proofs.YtegigakgcnhiaaaGreatDoor
open Go Go.RowKit

theorem ext_below {w w' : World} {S : SH} (hs : Sat w S) (h : Below w.heap.size w w') (hd : w.drawn ≤ w'.drawn) : Ext noB w S w' S ∧ Sat w' S :=
 ⟨⟨h.os, h.tape, h.output, hd, h.size, fun k hk _ => h.block k hk, SH.le_refl _, fun _ _ _ => rfl⟩, hs.same fun b o hb => h.block b (hs.lt hb)⟩
theorem Spec.of_str {P : Program} {f : FuncId} {s t : Str} (h : ∀ w : World, tabP w → Calls P f #[.string ⟨s.toArray⟩] w fun e w' => e = .returned (.string ⟨t.toArray⟩) ∧ Below w.heap.size w w') : Spec P f [tD rS s] (tD rS t) := fun w S vs hs hv => by
 match vs, hv with
 | [v], ⟨h1, _⟩ =>
  obtain rfl := iS.1 h1
  refine (calls_drawn (h w hs.tab) (fun w' hr => by cases hr.1)).mono fun e w' ⟨⟨he, hb⟩, hd⟩ => ?_
  obtain ⟨k1, k2⟩ := ext_below hs hb hd
  exact ⟨_, S, he, k1, k2, iS.2 rfl⟩

def io (xs : List Int) : Str := xs.map fun n => UInt8.ofNat n.toNat
theorem foldl_push : ∀ (xs : List Int) (r : ByteArray), xs.foldl (fun r n => r.push (UInt8.ofNat n.toNat)) r = ⟨r.data ++ (io xs).toArray⟩
 | [], r => by simp [io]
 | x :: xs, r => by
  rw [List.foldl_cons, foldl_push xs]
  simp [io, ByteArray.push]
theorem rcs_int2 {k : IntKind} {S : SH} : ∀ {xs : List Int} {cs : List Value}, rcs (rI k) S cs xs → cs = xs.map (Value.int k)
 | [], cs, h => by rw [show cs = [] from h]; rfl
 | x :: xs, cs, ⟨a, b, e, h1, h2⟩ => by
  rw [e, show a = [.int k x] from h1, rcs_int2 h2]
  rfl
section
variable {E : En} {O : List OE} {G : Ctx} {Q : Exit → Act → World → Prop} {ops : Array Oper} {rest : List Oper} {c : Code} {dst : Option Tmp} {d : Nat} {ty : TypeId} {pos : String} {after : Array Edge} {g : Option (Nat × Bool)}
theorem ok_convBS {xs : List Int} {x : Operand} {st dt e : TypeId} {sz bytes : Nat} {agg : Bool} {z : List Value} (hs : E.P.underlying st = some (.slice e)) (he : E.P.underlying e = some (.int .u8)) (hd : E.P.underlying dt = some .string) (ti : TI E.P e sz bytes agg z) (hsz : Nat.beq sz 1 = true)
  (hx : aA E.N G x (tD (rSl (rI .u8)) xs)) : OpOK E O G ⟨dst, .convert st dt x, ty, pos, after, g⟩ (tD rS (io xs)) := .of_pure fun a w S hsat _ hf => by
 obtain ⟨ad, cap, hv, hle, hmax, hsl⟩ := gb.1 (hx S a hf)
 refine ⟨.string ⟨(io xs).toArray⟩, ?_, iS.2 rfl⟩
 have key : ∀ (ad : Option Addr), slArr (rI .u8) S ad xs → (ad = none → xs = []) → (Conv.bytesToString (.slice ad xs.length cap)).run E.P w = .ok (.string ⟨(io xs).toArray⟩) w := fun ad h h0 => by
  cases ad with
  | none => rw [h0 rfl]; rfl
  | some p =>
   have hl : (loadCells p xs.length).run E.P w = .ok (xs.map (Value.int .u8)).toArray w := by
    rcases h with h | ⟨b, off, cc, T, fr, h1, h2, h3⟩
    ·rw [h]; rfl
    ·cases h1
     obtain ⟨c', h4, h5⟩ := hsat.part h2 (gk h3)
     have h6 : xs.length * (rI .u8).sz = xs.length := by show xs.length * 1 = _; omega
     rw [h6] at h3 h5
     have h7 := rcs_int2 h3
     exact gD h4 (h5.trans h7) (by simp)
   rw [run_bytesToString w p xs.length cap xs hl, foldl_push]
   simp [ByteArray.empty, ByteArray.emptyWithCapacity]
   rfl
 simp [execOp, hv, run_convert_bytes_string w st dt e _ _ _ hs he hd, key ad hsl (fun h => by
  rcases hsl with h1 | ⟨b, off, cc, T, fr, h1, _⟩
  ·exact h1
  ·rw [h] at h1; cases h1)]
theorem ok_sliceP {α : Type} {r : Rp α} {n : Nat} {xs : List α} {x : Operand} {t e : TypeId} {sz bytes : Nat} {agg : Bool} {z : List Value} (ha : E.P.underlying t = some (.array n e)) (ti : TI E.P e sz bytes agg z) (hn : Nat.ble n maxLen = true)
  (hx : aA E.N G x (aF (gE r n) xs)) : OpOK E O G ⟨dst, .slice t x none none none, ty, pos, after, g⟩ (tD (rSl r) xs) := .of_pure fun a w S _ _ hf => by
 obtain ⟨b, off, c, T, fr, h1, h2, h3, h4⟩ := hx S a hf
 have hz : (⟨b, off, none⟩ : Addr).add 0 = ⟨b, off, none⟩ := by rw [cG, Nat.add_zero]
 refine ⟨.slice (some ⟨b, off, none⟩) n n, ?_, gb.2 ⟨_, _, by rw [h3], by omega, Nat.le_of_ble_eq_true hn, .inr ⟨b, off, c, T, fr, rfl, h2, by rw [h3]; exact h4⟩⟩⟩
 by_cases h0 : n = 0
 ·subst h0
  simp [execOp, h1, Instr.sliceAt, run_underlying ha, ti.sizeOf, Instr.sliceBounds, Instr.sureAddr]
 ·simp [execOp, h1, Instr.sliceAt, run_underlying ha, ti.sizeOf, Instr.sliceBounds, Instr.sureAddr, h0, hz]
theorem ok_indexA {α : Type} {r : Rp α} {n : Nat} {xs : List α} {y : α} {x ix : Operand} {t e : TypeId} {k : IntKind} {i : Int} {sz bytes : Nat} {agg : Bool} {z : List Value} (ht : E.P.underlying t = some (.array n e)) (ti : TI E.P e sz bytes agg z) (hsz : r.sz = sz) (hag : r.agg = agg)
  (hx : aA E.N G x (tD (gE r n) xs)) (hi : aA E.N G ix (tD (rI k) i)) (hy : idx xs i = some y) : OpOK E O G ⟨dst, .index t x ix, ty, pos, after, g⟩ (tD r y) := .of_pure fun a w S _ _ hf => by
 obtain ⟨cs, h1, h2, h3⟩ := hx S a hf
 have h1' : a.eval x = .agg cs.toArray := h1
 have h4 : a.eval ix = .int k i := bD.1 (hi S a hf)
 obtain ⟨g1, g2⟩ := bo hy
 have hlt : i.toNat < xs.length := (List.getElem?_eq_some_iff.1 g2).1
 have hg := rcs_get h3 g2
 have hin : 0 ≤ i ∧ i < (n : Int) := ⟨g1, by omega⟩
 refine ⟨r.val ((cs.drop (i.toNat * r.sz)).take r.sz), ?_, _, rfl, hg⟩
 have hp : (part e cs.toArray (i.toNat * sz)).run E.P w = .ok (r.val ((cs.drop (i.toNat * r.sz)).take r.sz)) w := by
  subst hsz
  subst hag
  have hl := r.len hg
  unfold part
  simp only [Sem.run_bind, ti.isAgg, Result.andThen_ok]
  cases hA : r.agg with
  | true =>
   simp [ti.sizeOf, Rp.val, hA]
  | false =>
   have h1 := r.sc hA
   rw [h1, Nat.mul_one] at hl ⊢
   cases hd : cs.drop i.toNat with
   | nil => rw [hd] at hl; simp at hl
   | cons v l =>
    have hv : cs[i.toNat]? = some v := by
     have := List.getElem?_drop (xs := cs) (i := i.toNat) (j := 0)
     rw [hd] at this
     simpa using this.symm
    simp [Rp.val, hA, hv]
 simp [execOp, h1', h4, Instr.index, asIntOf, run_underlying ht, hin, ti.sizeOf, hp]

def iF (s : Str) (i : Nat) : Nat × Nat := Utf8.decode ⟨s.toArray⟩ i
def iT (s : Str) : Nat → Nat → List (Int × Int)
 | 0, _ => []
 | f + 1, i => if i < s.length then ((i : Int), ((iF s i).1 : Int)) :: iT s f (i + (iF s i).2) else []
def runes (s : Str) : List (Int × Int) := iT s (s.length + 1) 0
theorem dec_pos (s : Str) (i : Nat) : 1 ≤ (iF s i).2 := by
 unfold iF Utf8.decode
 simp only []
 repeat' split
 all_goals simp
def strR (r : Nat) (s : Str) (left : List (Int × Int)) : OE where
 fp := fun j => j = r
 p := fun w S => S r = none ∧ ∃ pos f, w.heap[r]? = some (.stringIter ⟨s.toArray⟩ pos) ∧ left = iT s f pos ∧ s.length < pos + f
 here := by
  rintro w S ⟨_, pos, f, h, _⟩ j rfl
  exact (Array.getElem?_eq_some_iff.1 h).1
 kept := by
  rintro C w w' S S' ⟨h0, pos, f, h, h2⟩ k hC
  have hlt := (Array.getElem?_eq_some_iff.1 h).1
  exact ⟨by rw [k.old r hlt (hC r rfl)]; exact h0, pos, f, by rw [k.heap r hlt (hC r rfl)]; exact h, h2⟩
theorem RG.rangeStr {s : Str} {x : Operand} {t : TypeId} (ht : E.P.underlying t = some .string) (hx : aA E.N G x (tD rS s)) (hd : Nat.blt d E.N.n = true)
  (k : ∀ r, RG E ops Q rest (strR r s (runes s) :: O) ((d, tV (aR r 0)) :: G)) : RG E ops Q (⟨some d, .range t x, ty, pos, after, none⟩ :: rest) O G := .of rfl fun a w S st => by
 have hv : a.eval x = .string ⟨s.toArray⟩ := iS.1 (hx S a st.facts)
 have hrun : (execOp a.eval ⟨some d, .range t x, ty, pos, after, none⟩).run E.P w = .ok (.value (aR w.heap.size 0)) (w.alloc (.stringIter ⟨s.toArray⟩ 0)) := by
  simp [execOp, hv, Instr.range, run_underlying ht, aR]
 refine ⟨fun c h => (by cases h), ?_⟩
 rw [hrun]
 obtain ⟨he, hs', hno⟩ := bT (w := w) (.stringIter ⟨s.toArray⟩ 0) st.sat
 exact k w.heap.size _ _ S ⟨st.ext.step0 he, hs', iC st.own he ⟨hno, 0, s.length + 1, heap_alloc_new w _, rfl, by omega⟩ (fun b hb => by rw [show b = _ from hb]; exact Nat.le_refl _) st.base_le, st.facts.put hd rfl⟩
theorem RG.nextStr {s : Str} {r : Nat} {left : List (Int × Int)} {x : Operand} (hx : aA E.N G x (tV (aR r 0))) (hd : Nat.blt d E.N.n = true)
  (h0 : left = [] → RG E ops Q rest (strR r s [] :: O) ((d, tNx false) :: G))
  (h1 : ∀ e l, left = e :: l → RG E ops Q rest (strR r s l :: O) ((d, tT [tD rB true, tD (rI .i64) e.1, tD (rI .i32) e.2]) :: G)) :
  RG E ops Q (⟨some d, .next x true, ty, pos, after, none⟩ :: rest) (strR r s left :: O) G := .of rfl fun a w S st => by
 obtain ⟨⟨⟨hno, ps, f, hb, hl, hf⟩, hfp⟩, hap, hO⟩ := st.own
 have hv : a.eval x = aR r 0 := hx S a st.facts
 have hsz : (ByteArray.mk s.toArray).size = s.length := by simp [ByteArray.size]
 have hg : (getObj r).run E.P w = .ok (.stringIter ⟨s.toArray⟩ ps) w := by
  simp [getObj, Sem.run, hb]
 by_cases hp : ps < s.length
 ·obtain ⟨f, rfl⟩ : ∃ f', f = f' + 1 := ⟨f - 1, by omega⟩
  have hl2 : left = ((ps : Int), ((iF s ps).1 : Int)) :: iT s f (ps + (iF s ps).2) := by rw [hl, iT, if_pos hp]
  have hset : (setObj r (.stringIter ⟨s.toArray⟩ (ps + (iF s ps).2))).run E.P w = .ok () { w with heap := w.heap.setIfInBounds r (.stringIter ⟨s.toArray⟩ (ps + (iF s ps).2)) } := by
   simp [setObj, Sem.run, hb]
  have hrun : (execOp a.eval ⟨some d, .next x true, ty, pos, after, none⟩).run E.P w = .ok (.value (.tuple #[.bool true, .int .i64 ps, .int .i32 (iF s ps).1])) { w with heap := w.heap.setIfInBounds r (.stringIter ⟨s.toArray⟩ (ps + (iF s ps).2)) } := by
   have h3 : (Instr.next (aR r 0) true ty).run E.P w = .ok (.tuple #[.bool true, .int .i64 ps, .int .i32 (iF s ps).1]) { w with heap := w.heap.setIfInBounds r (.stringIter ⟨s.toArray⟩ (ps + (iF s ps).2)) } := by
    unfold Instr.next aR
    simp only [Sem.run_bind, hg, Result.andThen_ok, hsz, hp, if_true]
    rw [show Utf8.decode ⟨s.toArray⟩ ps = iF s ps from rfl]
    simp only [Sem.run_bind, hset, Result.andThen_ok]
    rfl
   simp [execOp, hv, h3]
  refine ⟨fun c h => (by cases h), ?_⟩
  rw [hrun]
  have hblt := (Array.getElem?_eq_some_iff.1 hb).1
  have hx' : Ext (fun k => ∃ f ∈ [strR r s left], f.fp k) w S { w with heap := w.heap.setIfInBounds r (.stringIter ⟨s.toArray⟩ (ps + (iF s ps).2)) } S :=
   ⟨rfl, rfl, rfl, Nat.le_refl _, by simp, fun k _ hk => by
    have : r ≠ k := fun e => hk ⟨_, List.mem_singleton_self _, e.symm⟩
    simp [this], SH.le_refl _, fun _ _ _ => rfl⟩
  have hs' : Sat { w with heap := w.heap.setIfInBounds r (.stringIter ⟨s.toArray⟩ (ps + (iF s ps).2)) } S := st.sat.same fun k o hk => by
   have : r ≠ k := fun e => by subst e; rw [hno] at hk; cases hk
   simp [this]
  have hnew : (strR r s (iT s f (ps + (iF s ps).2))).p { w with heap := w.heap.setIfInBounds r (.stringIter ⟨s.toArray⟩ (ps + (iF s ps).2)) } S :=
   ⟨hno, _, f, by simp [hblt], rfl, by have := dec_pos s ps; omega⟩
  refine h1 _ _ hl2 _ _ S ((st.turn (O1 := [strR r s left]) (O2 := [strR r s (iT s f (ps + (iF s ps).2))]) hx' hs' ⟨⟨hnew, fun k hk => .inl (Nat.zero_le _)⟩, fun _ h => (by cases h), trivial⟩ (fun k ⟨g, hg, hk⟩ => ?_)).put hd ?_)
  ·have : g = strR r s (iT s f (ps + (iF s ps).2)) := by simpa using hg
   subst this
   exact .inl ⟨_, List.mem_singleton_self _, hk⟩
  ·exact ⟨[.bool true, .int .i64 ps, .int .i32 (iF s ps).1], rfl, db.2 rfl, bD.2 rfl, bD.2 rfl, trivial⟩
 ·have hl2 : left = [] := by
   rw [hl]
   cases f with
   | zero => rfl
   | succ f => rw [iT, if_neg hp]
  have hrun : (execOp a.eval ⟨some d, .next x true, ty, pos, after, none⟩).run E.P w = .ok (.value (.tuple #[.bool false])) w := by
   have h3 : (Instr.next (aR r 0) true ty).run E.P w = .ok (.tuple #[.bool false]) w := by
    unfold Instr.next aR
    simp only [Sem.run_bind, hg, Result.andThen_ok, hsz, hp, if_false]
    rfl
   simp [execOp, hv, h3]
  refine ⟨fun c h => (by cases h), ?_⟩
  rw [hrun]
  subst hl2
  exact h0 rfl _ _ S (st.put hd ⟨[], rfl⟩)
theorem ok_extractNxS {t : Ty} {u : List Ty} {i : Nat} {x : Operand} (hu : u[i]? = some t) (hx : aA E.N G x (tT u)) : OpOK E O G ⟨dst, .extract x i, ty, pos, after, g⟩ t := bE hu hx
theorem LG.row {β : Type} {Z : List β → Prop} {Of : List β → List OE} {Gf : Ctx} (h : ∀ l, Z l → (∀ l2, l2.length < l.length → Z l2 → LG E Q c (Of l2) Gf) → LG E Q c (Of l) Gf) (l : List β) (hz : Z l) : LG E Q c (Of l) Gf := by
 have key : ∀ (n : Nat) (l : List β), l.length ≤ n → Z l → LG E Q c (Of l) Gf := by
  intro n
  induction n with
  | zero => intro l hn hz; exact h l hz fun l2 h2 _ => absurd h2 (by omega)
  | succ n ih => intro l hn hz; exact h l hz fun l2 h2 hz2 => ih l2 (by omega) hz2
 exact key l.length l (Nat.le_refl _) hz
end
end Go.Proofs.YtegigakgcnhiaaaGreatDoor

namespace Go.Proofs.YtegigakgcnhiaaaGreatDoor
open Go

abbrev NG := Nat → (Option Nat × Nat) × (Nat → Option Nat × Nat)
inductive NPl where
 | o
 | i (k : Nat)
 | l (k j : Nat)
section
variable {α β : Type}
def hd2 (q : Nat → Option Nat × Nat) (zs : List (List α)) : List Value := zs.mapIdx fun j z => aD (q j).1 (q j).2 z.length
def hd1 (prj : β → List (List α)) (g : NG) (x : List β) : List Value := x.mapIdx fun k y => aD (g k).1.1 (g k).1.2 (prj y).length
def nsB (prj : β → List (List α)) (l : Option Nat) (g : NG) (x : List β) (h : Option (Nat × Nat)) : NPl → Option Nat
 | .o => l
 | .i k => (x[k]?).bind fun _ => (g k).1.1
 | .l k j => if h = some (k, j) then none else ((x[k]?).bind fun y => (prj y)[j]?).bind fun _ => ((g k).2 j).1
structure nstP (prj : β → List (List α)) (r : Rp α) (T1 T2 T3 : TypeId) (l : Option Nat) (cap n : Nat) (g : NG) (x : List β) (h : Option (Nat × Nat)) (w : World) (S : SH) : Prop where
 len : x.length = n
 out : j1 false rV T1 l cap (hd1 prj g x) w S
 inn : ∀ k y, x[k]? = some y → j1 false rV T2 (g k).1.1 (g k).1.2 (hd2 (g k).2 (prj y)) w S
 lvs : ∀ k y j z, x[k]? = some y → (prj y)[j]? = some z → h ≠ some (k, j) → j1 true r T3 ((g k).2 j).1 ((g k).2 j).2 z w S
 inj : ∀ s t b, nsB prj l g x h s = some b → nsB prj l g x h t = some b → s = t
variable {prj : β → List (List α)} {r : Rp α} {T1 T2 T3 : TypeId} {l : Option Nat} {cap n : Nat} {g : NG} {x : List β} {h : Option (Nat × Nat)} {w w' : World} {S S' : SH}
theorem nsB_i {k : Nat} {y : β} (hx : x[k]? = some y) : nsB prj l g x h (.i k) = (g k).1.1 := by simp [nsB, hx]
theorem nsB_l {k j : Nat} {y : β} {z : List α} (hx : x[k]? = some y) (hy : (prj y)[j]? = some z) (hh : h ≠ some (k, j)) : nsB prj l g x h (.l k j) = ((g k).2 j).1 := by simp [nsB, hx, hy, hh]
theorem nsB_i_of {k b : Nat} (hb : nsB prj l g x h (.i k) = some b) : ∃ y, x[k]? = some y ∧ (g k).1.1 = some b := by
 cases hx : x[k]? with
 | none => simp [nsB, hx] at hb
 | some y => exact ⟨y, rfl, by simpa [nsB, hx] using hb⟩
theorem nsB_l_of {k j b : Nat} (hb : nsB prj l g x h (.l k j) = some b) : h ≠ some (k, j) ∧ ∃ y z, x[k]? = some y ∧ (prj y)[j]? = some z ∧ ((g k).2 j).1 = some b := by
 by_cases hh : h = some (k, j)
 ·simp [nsB, hh] at hb
 ·refine ⟨hh, ?_⟩
  cases hx : x[k]? with
  | none => simp [nsB, hx, hh] at hb
  | some y =>
   cases hy : (prj y)[j]? with
   | none => simp [nsB, hx, hy, hh] at hb
   | some z => exact ⟨y, z, rfl, hy, by simpa [nsB, hx, hy, hh] using hb⟩
theorem arrP_lt {α : Type} {mm : Bool} {r : Rp α} {T : TypeId} {l : Option Nat} {cap b : Nat} {xs : List α} (k : j1 mm r T l cap xs w S) (hb : l = some b) : b < w.heap.size := (d6 mm r T l cap xs).here k b hb
theorem c9 {α : Type} {mm : Bool} {r : Rp α} {T : TypeId} {l : Option Nat} {cap : Nat} {xs : List α} {C : Nat → Prop} (k : j1 mm r T l cap xs w S) (e : Ext C w S w' S') (hC : ∀ b, l = some b → ¬ C b) : j1 mm r T l cap xs w' S' := (d6 mm r T l cap xs).kept k e hC
theorem nst_lt (k : nstP prj r T1 T2 T3 l cap n g x h w S) {s : NPl} {b : Nat} (hb : nsB prj l g x h s = some b) : b < w.heap.size := by
 cases s with
 | o => exact arrP_lt k.out hb
 | i j => obtain ⟨y, h1, h2⟩ := nsB_i_of hb; exact arrP_lt (k.inn j y h1) h2
 | l j m => obtain ⟨h0, y, z, h1, h2, h3⟩ := nsB_l_of hb; exact arrP_lt (k.lvs j y m z h1 h2 h0) h3
theorem nst_kept {C : Nat → Prop} (k : nstP prj r T1 T2 T3 l cap n g x h w S) (e : Ext C w S w' S') (hC : ∀ s b, nsB prj l g x h s = some b → ¬ C b) : nstP prj r T1 T2 T3 l cap n g x h w' S' where
 len := k.len
 out := c9 k.out e fun b hb => hC .o b hb
 inn := fun j y hx => c9 (k.inn j y hx) e fun b hb => hC (.i j) b (by rw [nsB_i hx]; exact hb)
 lvs := fun j y m z hx hy hh => c9 (k.lvs j y m z hx hy hh) e fun b hb => hC (.l j m) b (by rw [nsB_l hx hy hh]; exact hb)
 inj := k.inj
def nst (prj : β → List (List α)) (r : Rp α) (T1 T2 T3 : TypeId) (l : Option Nat) (cap n : Nat) (g : NG) (x : List β) (h : Option (Nat × Nat)) : OE where
 fp := fun b => ∃ s, nsB prj l g x h s = some b
 p := nstP prj r T1 T2 T3 l cap n g x h
 here := fun k b ⟨_, hb⟩ => nst_lt k hb
 kept := fun k e hC => nst_kept k e fun s b hb => hC b ⟨s, hb⟩
theorem hd1_at {k : Nat} {y : β} (hx : x[k]? = some y) : (hd1 prj g x)[k]? = some (aD (g k).1.1 (g k).1.2 (prj y).length) := by simp [hd1, hx]
theorem hd2_at {q : Nat → Option Nat × Nat} {zs : List (List α)} {j : Nat} {z : List α} (hx : zs[j]? = some z) : (hd2 q zs)[j]? = some (aD (q j).1 (q j).2 z.length) := by simp [hd2, hx]
theorem hd1_len : (hd1 prj g x).length = x.length := by simp [hd1]
theorem hd2_len {q : Nat → Option Nat × Nat} {zs : List (List α)} : (hd2 q zs).length = zs.length := by simp [hd2]
theorem hU {T : TypeId} {l : Option Nat} {cap i : Nat} {vs : List Value} {v : Value} (k : j1 false rV T l cap vs w S) (hi : vs[i]? = some v) : ∃ b cur, l = some b ∧ w.heap[b]? = some (.cells cur T (0, 0)) ∧ (cur.toList.drop i).take 1 = [v] ∧ v.oneCell' = true := by
 obtain ⟨b, cur, h1, h2, _, _, h3⟩ := raw_part k hi
 have h4 : rV.sz = 1 := rfl
 rw [h4, Nat.mul_one] at h3
 exact ⟨b, cur, h1, h2, h3.1, h3.2⟩
end
section
variable {α β : Type} {prj : β → List (List α)} {r : Rp α} {T1 T2 T3 : TypeId} {l : Option Nat} {cap n : Nat} {g : NG} {x : List β} {h : Option (Nat × Nat)}
variable {E : En} {O : List OE} {G : Ctx} {Q : Exit → Act → World → Prop} {ops : Array Oper} {rest : List Oper} {c : Code} {dst : Option Tmp} {d : Nat} {ty : TypeId} {pos : String} {after : Array Edge} {gd : Option (Nat × Bool)}
theorem ok_idxN1 {y : β} {xo ix : Operand} {t e : TypeId} {k : IntKind} {i : Int} {bytes : Nat} {agg : Bool} {z : List Value} (ht : E.P.underlying t = some (.slice e)) (ti : TI E.P e 1 bytes agg z)
  (hm : nst prj r T1 T2 T3 l cap n g x h ∈ O) (hx : aA E.N G xo (tV (aD l cap n))) (hi : aA E.N G ix (tD (rI k) i)) (hy : idx x i = some y) :
  OpOK E O G ⟨dst, .indexAddr t xo ix, ty, pos, after, gd⟩ (tV (cB l i.toNat)) := .of_pure fun a w S _ ho hf => by
 have hn := ((ho.mem _ hm).1 : nstP _ _ _ _ _ _ _ _ _ _ _ _ _).len
 subst hn
 have h1 : a.eval xo = aD l cap x.length := hx S a hf
 have h3 : a.eval ix = .int k i := bD.1 (hi S a hf)
 obtain ⟨h0, hy'⟩ := bo hy
 obtain ⟨b, cur, rfl, _⟩ := hU ((ho.mem _ hm).1 : nstP _ _ _ _ _ _ _ _ _ _ _ _ _).out (hd1_at hy')
 have hlt : i.toNat < x.length := (List.getElem?_eq_some_iff.1 hy').1
 refine ⟨_, ?_, rfl⟩
 have hc : 0 ≤ i ∧ i < (x.length : Int) := ⟨h0, by omega⟩
 simp [execOp, h1, h3, aD, Instr.indexAt, asIntOf, run_underlying ht, hc, ti.sizeOf, cG, cB, aR]
theorem ok_faN {T o i sz : Nat} {l : Option Nat} {p : Operand} (hf : ci E.P T i = some (0, sz)) (h0 : Nat.beq sz 0 = false) (hl : ∀ w S, Own E.base E.B w S O → ∃ b, l = some b) (hp : aA E.N G p (tV (cB l o))) :
  OpOK E O G ⟨dst, .fieldAddr T p i, ty, pos, after, gd⟩ (tV (cB l o)) := .of_pure fun a w S _ ho hF => by
 have h1 : a.eval p = cB l o := hp S a hF
 obtain ⟨b, rfl⟩ := hl w S ho
 obtain ⟨fs, f, e1, e2, e3, e4⟩ := run_field hf
 have h0' : sz ≠ 0 := fun e => by subst e; simp at h0
 refine ⟨_, ?_, rfl⟩
 simp [execOp, h1, cB, aR, Instr.fieldAt, run_underlying e1, e2, Instr.sureAddr, fieldPlace, e4, h0', e3, cG]
theorem nst_some1 {y : β} {i : Int} (hm : nst prj r T1 T2 T3 l cap n g x h ∈ O) (hy : idx x i = some y) : ∀ w S, Own E.base E.B w S O → ∃ b, l = some b := fun w S ho => by
 obtain ⟨h0, hy'⟩ := bo hy
 obtain ⟨b, cur, e, _⟩ := hU ((ho.mem _ hm).1 : nstP _ _ _ _ _ _ _ _ _ _ _ _ _).out (hd1_at hy')
 exact ⟨b, e⟩
theorem nst_some2 {y : β} {z : List α} {i j : Int} (hm : nst prj r T1 T2 T3 l cap n g x h ∈ O) (hy : idx x i = some y) (hz : idx (prj y) j = some z) : ∀ w S, Own E.base E.B w S O → ∃ b, (g i.toNat).1.1 = some b := fun w S ho => by
 obtain ⟨h0, hy'⟩ := bo hy
 obtain ⟨h2, hz'⟩ := bo hz
 obtain ⟨b, cur, e, _⟩ := hU (((ho.mem _ hm).1 : nstP _ _ _ _ _ _ _ _ _ _ _ _ _).inn _ y hy') (hd2_at hz')
 exact ⟨b, e⟩
theorem ok_ldN1 {y : β} {i : Int} {U : TypeId} {bytes : Nat} {z : List Value} {p : Operand} (ti : TI E.P U 1 bytes false z) (hm : nst prj r T1 T2 T3 l cap n g x h ∈ O) (hy : idx x i = some y) (hp : aA E.N G p (tV (cB l i.toNat))) :
  OpOK E O G ⟨dst, .load U p, ty, pos, after, gd⟩ (tV (aD (g i.toNat).1.1 (g i.toNat).1.2 (prj y).length)) := .of_pure fun a w S _ ho hf => by
 have h1 : a.eval p = cB l i.toNat := hp S a hf
 obtain ⟨h0, hy'⟩ := bo hy
 obtain ⟨b, cur, rfl, hb, hc, h1c⟩ := hU ((ho.mem _ hm).1 : nstP _ _ _ _ _ _ _ _ _ _ _ _ _).out (hd1_at hy')
 refine ⟨_, ?_, rfl⟩
 have hr := bP (r := rV) (x := aD (g i.toNat).1.1 (g i.toNat).1.2 (prj y).length) (S := S) ti hb rfl rfl (off := i.toNat) ⟨hc, h1c⟩
 have hv : rV.val ((cur.toList.drop i.toNat).take rV.sz) = aD (g i.toNat).1.1 (g i.toNat).1.2 (prj y).length := by
  show rV.val ((cur.toList.drop i.toNat).take 1) = _
  rw [hc]; rfl
 rw [hv] at hr
 simp [execOp, h1, cB, aR, Instr.loadAt, Instr.sureAddr, hr]
theorem ok_ldN1S {y : β} {i : Int} {U : TypeId} {bytes : Nat} {z : List Value} {p : Operand} (ti : TI E.P U 1 bytes true z) (hm : nst prj r T1 T2 T3 l cap n g x h ∈ O) (hy : idx x i = some y) (hp : aA E.N G p (tV (cB l i.toNat))) :
  OpOK E O G ⟨dst, .load U p, ty, pos, after, gd⟩ (tV (.agg #[aD (g i.toNat).1.1 (g i.toNat).1.2 (prj y).length])) := .of_pure fun a w S _ ho hf => by
 have h1 : a.eval p = cB l i.toNat := hp S a hf
 obtain ⟨h0, hy'⟩ := bo hy
 obtain ⟨b, cur, rfl, hb, hc, h1c⟩ := hU ((ho.mem _ hm).1 : nstP _ _ _ _ _ _ _ _ _ _ _ _ _).out (hd1_at hy')
 refine ⟨_, ?_, rfl⟩
 have hr : (loadVar U ⟨b, i.toNat, none⟩).run E.P w = .ok (.agg #[aD (g i.toNat).1.1 (g i.toNat).1.2 (prj y).length]) w := by
  simp [loadVar, ti.isAgg, ti.sizeOf, gD hb hc rfl]
 simp [execOp, h1, cB, aR, Instr.loadAt, Instr.sureAddr, hr]
theorem ok_idxN2 {m : Nat} {y : β} {z : List α} {xo ix : Operand} {t e : TypeId} {k : IntKind} {i j : Int} {bytes : Nat} {agg : Bool} {zz : List Value} (ht : E.P.underlying t = some (.slice e)) (ti : TI E.P e 1 bytes agg zz)
  (hm : nst prj r T1 T2 T3 l cap n g x h ∈ O) (hy : idx x i = some y) (hx : aA E.N G xo (tV (aD (g i.toNat).1.1 (g i.toNat).1.2 m))) (hi : aA E.N G ix (tD (rI k) j)) (hz : idx (prj y) j = some z) (hn : m = (prj y).length := by rfl) :
  OpOK E O G ⟨dst, .indexAddr t xo ix, ty, pos, after, gd⟩ (tV (cB (g i.toNat).1.1 j.toNat)) := .of_pure fun a w S _ ho hf => by
 subst hn
 have h1 : a.eval xo = aD (g i.toNat).1.1 (g i.toNat).1.2 (prj y).length := hx S a hf
 have h3 : a.eval ix = .int k j := bD.1 (hi S a hf)
 obtain ⟨h0, hz'⟩ := bo hz
 obtain ⟨b, hb⟩ := nst_some2 (E := E) hm hy hz w S ho
 have hlt : j.toNat < (prj y).length := (List.getElem?_eq_some_iff.1 hz').1
 refine ⟨_, ?_, rfl⟩
 have hc : 0 ≤ j ∧ j < ((prj y).length : Int) := ⟨h0, by omega⟩
 rw [hb] at h1 ⊢
 simp [execOp, h1, h3, aD, Instr.indexAt, asIntOf, run_underlying ht, hc, ti.sizeOf, cG, cB, aR]
theorem ok_ldN2 {y : β} {z : List α} {i j : Int} {U : TypeId} {bytes : Nat} {zz : List Value} {p : Operand} (ti : TI E.P U 1 bytes false zz) (hm : nst prj r T1 T2 T3 l cap n g x h ∈ O) (ht : tip r T3 ((g i.toNat).2 j.toNat).1 ((g i.toNat).2 j.toNat).2 z ∈ O) (hy : idx x i = some y) (hz : idx (prj y) j = some z)
  (hp : aA E.N G p (tV (cB (g i.toNat).1.1 j.toNat))) : OpOK E O G ⟨dst, .load U p, ty, pos, after, gd⟩ (tO r ((g i.toNat).2 j.toNat).1 ((g i.toNat).2 j.toNat).2 z) := .of_pure fun a w S _ ho hf => by
 have h1 : a.eval p = cB (g i.toNat).1.1 j.toNat := hp S a hf
 obtain ⟨h0, hy'⟩ := bo hy
 obtain ⟨h2, hz'⟩ := bo hz
 obtain ⟨b, cur, e, hb, hc, h1c⟩ := hU (((ho.mem _ hm).1 : nstP _ _ _ _ _ _ _ _ _ _ _ _ _).inn _ y hy') (hd2_at hz')
 have hd := d8 (ho.mem _ ht).1
 refine ⟨aD ((g i.toNat).2 j.toNat).1 ((g i.toNat).2 j.toNat).2 z.length, ?_, rfl, hd⟩
 have hr := bP (r := rV) (x := aD ((g i.toNat).2 j.toNat).1 ((g i.toNat).2 j.toNat).2 z.length) (S := S) ti hb rfl rfl (off := j.toNat) ⟨hc, h1c⟩
 have hv : rV.val ((cur.toList.drop j.toNat).take rV.sz) = aD ((g i.toNat).2 j.toNat).1 ((g i.toNat).2 j.toNat).2 z.length := by
  show rV.val ((cur.toList.drop j.toNat).take 1) = _
  rw [hc]; rfl
 rw [hv] at hr
 rw [e] at h1
 simp [execOp, h1, cB, aR, Instr.loadAt, Instr.sureAddr, hr]
theorem nsB_open {k j : Nat} {s : NPl} {b : Nat} (hb : nsB prj l g x (some (k, j)) s = some b) : nsB prj l g x none s = some b ∧ s ≠ .l k j := by
 cases s with
 | o => exact ⟨hb, fun e => by cases e⟩
 | i m => exact ⟨hb, fun e => by cases e⟩
 | l m n =>
  obtain ⟨h0, y, z, h1, h2, h3⟩ := nsB_l_of hb
  exact ⟨by rw [nsB_l h1 h2 (fun e => by cases e)]; exact h3, fun e => by cases e; exact h0 rfl⟩
theorem Own.openN {base : Nat} {B : Nat → Prop} {w : World} {S : SH} {y : β} {z : List α} {i j : Int} (hy : idx x i = some y) (hz : idx (prj y) j = some z) (ho : Own base B w S (nst prj r T1 T2 T3 l cap n g x none :: O)) :
  Own base B w S (tip r T3 ((g i.toNat).2 j.toNat).1 ((g i.toNat).2 j.toNat).2 z :: nst prj r T1 T2 T3 l cap n g x (some (i.toNat, j.toNat)) :: O) := by
 obtain ⟨⟨hp, hfp⟩, hap, hO⟩ := ho
 have hp : nstP prj r T1 T2 T3 l cap n g x none w S := hp
 obtain ⟨h0, hy'⟩ := bo hy
 obtain ⟨h2, hz'⟩ := bo hz
 have hl := nsB_l (l := l) (g := g) (h := none) hy' hz' (fun e => by cases e)
 have hin : ∀ b, ((g i.toNat).2 j.toNat).1 = some b → nsB prj l g x none (.l i.toNat j.toNat) = some b := fun b hb => by rw [hl]; exact hb
 refine ⟨⟨hp.lvs _ y _ z hy' hz' (fun e => by cases e), fun b hb => hfp b ⟨_, hin b hb⟩⟩, fun f hf b hb => ?_, ⟨⟨hp.len, hp.out, hp.inn, fun k y' m z' h1 h2 h3 => hp.lvs k y' m z' h1 h2 (fun e => by cases e), fun s t b hs ht => hp.inj s t b (nsB_open hs).1 (nsB_open ht).1⟩, fun b ⟨s, hs⟩ => hfp b ⟨s, (nsB_open hs).1⟩⟩, fun f hf b ⟨s, hs⟩ => hap f hf b ⟨s, (nsB_open hs).1⟩, hO⟩
 rcases List.mem_cons.1 hf with rfl | hf
 ·rintro ⟨s, hs⟩
  obtain ⟨h3, h4⟩ := nsB_open hs
  exact h4 (hp.inj _ _ b h3 (hin b hb))
 ·exact hap f hf b ⟨_, hin b hb⟩
theorem CG.openN {y : β} {z : List α} {i j : Int} (hy : idx x i = some y) (hz : idx (prj y) j = some z) (k : CG E Q c (tip r T3 ((g i.toNat).2 j.toNat).1 ((g i.toNat).2 j.toNat).2 z :: nst prj r T1 T2 T3 l cap n g x (some (i.toNat, j.toNat)) :: O) G) :
  CG E Q c (nst prj r T1 T2 T3 l cap n g x none :: O) G := fun a w S st => k a w S (st.own_map (Own.openN hy hz))
def gset (g : NG) (i j : Nat) (o : Option Nat × Nat) : NG := fun k => if k = i then ((g k).1, fun m => if m = j then o else (g k).2 m) else g k
def xset (prj : β → List (List α)) (mk : List (List α) → β) (x : List β) (i j : Nat) (zs : List α) : List β := x.modify i fun y => mk ((prj y).set j zs)
theorem gset_1 (g : NG) (i j k : Nat) (o : Option Nat × Nat) : (gset g i j o k).1 = (g k).1 := by unfold gset; split <;> rfl
theorem gset_at (g : NG) (i j : Nat) (o : Option Nat × Nat) : (gset g i j o i).2 j = o := by simp [gset]
theorem gset_ne (g : NG) {i j k m : Nat} (o : Option Nat × Nat) (hne : ¬ (k = i ∧ m = j)) : (gset g i j o k).2 m = (g k).2 m := by
 unfold gset
 split
 ·rename_i h
  subst h
  simp only
  rw [if_neg (fun e => hne ⟨rfl, e⟩)]
 ·rfl
theorem xset_len {mk : List (List α) → β} {i j : Nat} {zs : List α} : (xset prj mk x i j zs).length = x.length := by simp [xset]
theorem xset_at {mk : List (List α) → β} {i j : Nat} {zs : List α} {y : β} (hy : x[i]? = some y) : (xset prj mk x i j zs)[i]? = some (mk ((prj y).set j zs)) := by simp [xset, hy]
theorem xset_ne {mk : List (List α) → β} {i j k : Nat} {zs : List α} (hk : k ≠ i) : (xset prj mk x i j zs)[k]? = x[k]? := by simp [xset, List.getElem?_modify, Ne.symm hk]
theorem eff_stN {mk : List (List α) → β} (hmk : ∀ y, prj (mk y) = y) {y : β} {z zs : List α} {i j : Int} {l2 : Option Nat} {c2 : Nat} {U : TypeId} {bytes : Nat} {zz : List Value} {p v : Operand} (ti : TI E.P U 1 bytes false zz) (hy : idx x i = some y) (hz : idx (prj y) j = some z)
  (hp : aA E.N G p (tV (cB (g i.toNat).1.1 j.toNat))) (hv : aA E.N G v (tV (aD l2 c2 zs.length))) :
  EffOK E (tip r T3 l2 c2 zs :: nst prj r T1 T2 T3 l cap n g x (some (i.toNat, j.toNat)) :: O) G ⟨none, .store U p v, ty, pos, after, gd⟩
   (fun _ => nst prj r T1 T2 T3 l cap n (gset g i.toNat j.toNat (l2, c2)) (xset prj mk x i.toNat j.toNat zs) none :: O) (fun _ => tAny) := fun a w S hs ho hf hb => by
 obtain ⟨⟨htip, htfp⟩, htap, ⟨hn, hnfp⟩, hnap, hO⟩ := ho
 have hn : nstP prj r T1 T2 T3 l cap n g x (some (i.toNat, j.toNat)) w S := hn
 obtain ⟨h0, hy'⟩ := bo hy
 obtain ⟨h2, hz'⟩ := bo hz
 have hin := hn.inn _ y hy'
 have hia := htap _ (List.mem_cons_self ..)
 have hno : (aD l2 c2 zs.length).oneCell' = true := by cases l2 <;> rfl
 have hd2 : idx (hd2 (g i.toNat).2 (prj y)) j = some (aD ((g i.toNat).2 j.toNat).1 ((g i.toNat).2 j.toNat).2 z.length) := by
  unfold idx
  rw [if_pos h2]
  exact hd2_at hz'
 have hst := kB (E := E) (O := []) (G := G) (r := rV) (q := rV) (U := T2) (l := (g i.toNat).1.1) (cap := (g i.toNat).1.2) (foff := 0) (p := p) (x := v) (ty := ty) (pos := pos) (after := after) (g := gd) (v := aD l2 c2 zs.length) ti rfl aB rfl hd2 rfl
  (by rw [show j.toNat * rV.sz + 0 = j.toNat from Nat.mul_one _]; exact hp) (fun S a hf => ⟨[aD l2 c2 zs.length], hv S a hf, rfl, hno⟩)
 have hbi : ∀ b, (g i.toNat).1.1 = some b → nsB prj l g x (some (i.toNat, j.toNat)) (.i i.toNat) = some b := fun b hb => by rw [nsB_i hy']; exact hb
 refine e9 (fun a' w' ⟨u, S', xi, h3, h4, h5, h6, h7⟩ => ⟨u, S', zoi, h3, h4.more fun b ⟨f, hf, hb⟩ => ?_, h5, ?_, trivial⟩) (hst a w S hs ⟨⟨hin, fun b hb => hnfp b ⟨_, hbi b hb⟩⟩, fun f hf => (by cases hf), trivial⟩ hf hb)
 ·rw [List.mem_singleton.1 hf] at hb
  exact ⟨_, List.mem_cons_of_mem _ (List.mem_cons_self ..), ⟨_, hbi b hb⟩⟩
 ·have hC : ∀ b, fpB [arr rV T2 (g i.toNat).1.1 (g i.toNat).1.2 (Go.Proofs.YtegigakgcnhiaaaGreatDoor.hd2 (g i.toNat).2 (prj y))] b → (g i.toNat).1.1 = some b := fun b ⟨f, hf, hb⟩ => by
   rw [List.mem_singleton.1 hf] at hb; exact hb
  have hnC : ∀ s b, nsB prj l g x (some (i.toNat, j.toNat)) s = some b → s ≠ .i i.toNat → ¬ fpB [arr rV T2 (g i.toNat).1.1 (g i.toNat).1.2 (Go.Proofs.YtegigakgcnhiaaaGreatDoor.hd2 (g i.toNat).2 (prj y))] b := fun s b hsb hne hc =>
   hne (hn.inj _ _ b hsb (hbi b (hC b hc)))
  have hnew : j1 false rV T2 (g i.toNat).1.1 (g i.toNat).1.2 ((Go.Proofs.YtegigakgcnhiaaaGreatDoor.hd2 (g i.toNat).2 (prj y)).set j.toNat (aD l2 c2 zs.length)) w' S' := h6.1.1
  have htip' : j1 true r T3 l2 c2 zs w' S' := c9 htip h4 fun b hb hc => hia b hb ⟨_, hbi b (hC b hc)⟩
  -- which blocks there are
  have hB : ∀ s b, nsB prj l (gset g i.toNat j.toNat (l2, c2)) (xset prj mk x i.toNat j.toNat zs) none s = some b → (s = .l i.toNat j.toNat ∧ l2 = some b) ∨ (s ≠ .l i.toNat j.toNat ∧ nsB prj l g x (some (i.toNat, j.toNat)) s = some b) := fun s b hsb => by
   cases s with
   | o => exact .inr ⟨fun e => (by cases e), hsb⟩
   | i k =>
    obtain ⟨y', h8, h9⟩ := nsB_i_of hsb
    rw [gset_1] at h9
    refine .inr ⟨fun e => (by cases e), ?_⟩
    by_cases hk : k = i.toNat
    ·subst hk; rw [nsB_i hy']; exact h9
    ·rw [xset_ne hk] at h8; rw [nsB_i h8]; exact h9
   | l k m =>
    obtain ⟨_, y', z', h8, h9, h10⟩ := nsB_l_of hsb
    by_cases hkm : k = i.toNat ∧ m = j.toNat
    ·obtain ⟨rfl, rfl⟩ := hkm
     rw [gset_at] at h10
     exact .inl ⟨rfl, h10⟩
    ·rw [gset_ne _ _ hkm] at h10
     refine .inr ⟨fun e => hkm (by cases e; exact ⟨rfl, rfl⟩), ?_⟩
     by_cases hk : k = i.toNat
     ·subst hk
      rw [xset_at hy'] at h8
      cases h8
      rw [hmk] at h9
      have hm : m ≠ j.toNat := fun e => hkm ⟨rfl, e⟩
      rw [List.getElem?_set_ne (Ne.symm hm)] at h9
      rw [nsB_l hy' h9 (fun e => hm (by cases e; rfl))]
      exact h10
     ·rw [xset_ne hk] at h8
      rw [nsB_l h8 h9 (fun e => hk (by cases e; rfl))]
      exact h10
  have hfpn : ∀ s b, nsB prj l (gset g i.toNat j.toNat (l2, c2)) (xset prj mk x i.toNat j.toNat zs) none s = some b → (tip r T3 l2 c2 zs).fp b ∨ (nst prj r T1 T2 T3 l cap n g x (some (i.toNat, j.toNat))).fp b := fun s b hsb => (hB s b hsb).imp (fun h => h.2) fun h => ⟨s, h.2⟩
  refine ⟨⟨⟨by rw [xset_len]; exact hn.len, ?_, fun k y' hk => ?_, fun k y' m z' hk hm _ => ?_, fun s t b h8 h9 => ?_⟩, fun b ⟨s, hsb⟩ => (hfpn s b hsb).elim (htfp b) (hnfp b)⟩, fun f hf b ⟨s, hsb⟩ => (hfpn s b hsb).elim (htap f (List.mem_cons_of_mem _ hf) b) (hnap f hf b), hO.ext h4 fun f hf b hb hc => hnap f hf b ⟨_, hbi b (hC b hc)⟩ hb⟩
  ·have e : hd1 prj (gset g i.toNat j.toNat (l2, c2)) (xset prj mk x i.toNat j.toNat zs) = hd1 prj g x := by
    apply List.ext_getElem?
    intro k
    unfold hd1
    rw [List.getElem?_mapIdx, List.getElem?_mapIdx, gset_1]
    by_cases hk : k = i.toNat
    ·subst hk
     rw [xset_at hy', hy']
     simp [hmk]
    ·rw [xset_ne hk]
   rw [e]
   exact c9 hn.out h4 fun b hb => hnC .o b hb (fun e => by cases e)
  ·by_cases hki : k = i.toNat
   ·subst hki
    rw [xset_at hy'] at hk
    cases hk
    rw [gset_1, hmk]
    have e : Go.Proofs.YtegigakgcnhiaaaGreatDoor.hd2 (gset g i.toNat j.toNat (l2, c2) i.toNat).2 ((prj y).set j.toNat zs) = (Go.Proofs.YtegigakgcnhiaaaGreatDoor.hd2 (g i.toNat).2 (prj y)).set j.toNat (aD l2 c2 zs.length) := by
     apply List.ext_getElem?
     intro m
     have hjl : j.toNat < (prj y).length := (List.getElem?_eq_some_iff.1 hz').1
     unfold Go.Proofs.YtegigakgcnhiaaaGreatDoor.hd2
     rw [List.getElem?_mapIdx]
     by_cases hm : m = j.toNat
     ·subst hm
      rw [List.getElem?_set_self hjl, List.getElem?_set_self (by simpa using hjl), Option.map_some, gset_at]
     ·rw [List.getElem?_set_ne (Ne.symm hm), List.getElem?_set_ne (Ne.symm hm), List.getElem?_mapIdx, gset_ne _ _ (fun e => hm e.2)]
    rw [e]
    exact hnew
   ·rw [xset_ne hki] at hk
    rw [gset_1, show (gset g i.toNat j.toNat (l2, c2) k).2 = (g k).2 from by unfold gset; rw [if_neg hki]]
    exact c9 (hn.inn k y' hk) h4 fun b hb => hnC (.i k) b (by rw [nsB_i hk]; exact hb) (fun e => hki (by cases e; rfl))
  ·by_cases hkm : k = i.toNat ∧ m = j.toNat
   ·obtain ⟨rfl, rfl⟩ := hkm
    rw [xset_at hy'] at hk
    cases hk
    rw [hmk] at hm
    have hjl : j.toNat < (prj y).length := (List.getElem?_eq_some_iff.1 hz').1
    rw [List.getElem?_set_self hjl] at hm
    cases hm
    rw [gset_at]
    exact htip'
   ·rw [gset_ne _ _ hkm]
    by_cases hki : k = i.toNat
    ·subst hki
     rw [xset_at hy'] at hk
     cases hk
     rw [hmk] at hm
     have hmj : m ≠ j.toNat := fun e => hkm ⟨rfl, e⟩
     rw [List.getElem?_set_ne (Ne.symm hmj)] at hm
     have hh : some (i.toNat, j.toNat) ≠ some (i.toNat, m) := fun e => hmj (by cases e; rfl)
     exact c9 (hn.lvs _ y m z' hy' hm hh) h4 fun b hb => hnC (.l i.toNat m) b (by rw [nsB_l hy' hm hh]; exact hb) (fun e => by cases e)
    ·rw [xset_ne hki] at hk
     have hh : some (i.toNat, j.toNat) ≠ some (k, m) := fun e => hki (by cases e; rfl)
     exact c9 (hn.lvs k y' m z' hk hm hh) h4 fun b hb => hnC (.l k m) b (by rw [nsB_l hk hm hh]; exact hb) (fun e => by cases e)
  ·rcases hB s b h8 with ⟨rfl, e1⟩ | ⟨n1, e1⟩ <;> rcases hB t b h9 with ⟨rfl, e2⟩ | ⟨n2, e2⟩
   ·rfl
   ·exact absurd ⟨t, e2⟩ (hia b e1)
   ·exact absurd ⟨s, e1⟩ (hia b e2)
   ·exact hn.inj s t b e1 e2
open Classical in
noncomputable def ka (w : World) (S : SH) (P : Nat → Prop) : SH := fun b => if P b then w.heap[b]? else S b
theorem settleS_in {w : World} {S : SH} {P : Nat → Prop} {b : Nat} (hb : P b) : ka w S P b = w.heap[b]? := if_pos hb
theorem settleS_out {w : World} {S : SH} {P : Nat → Prop} {b : Nat} (hb : ¬ P b) : ka w S P b = S b := if_neg hb
theorem settleS_ok {w : World} {S : SH} {P : Nat → Prop} (hs : Sat w S) (hno : ∀ b, P b → S b = none) : gy S (ka w S P) ∧ Sat w (ka w S P) ∧ Ext P w S w (ka w S P) := by
 have hle : ∀ b o, S b = some o → ka w S P b = some o := fun b o hb => by
  rw [settleS_out fun hp => by rw [hno b hp] at hb; cases hb]; exact hb
 have hk : gy S (ka w S P) := SH.le_of hle
 refine ⟨hk, ⟨fun b o hb => ?_, fun p hp => ?_, fun w' hw' => hs.tb w' fun b o hb => hw' b o (hle b o hb)⟩, ⟨rfl, rfl, rfl, Nat.le_refl _, Nat.le_refl _, fun _ _ _ => rfl, hk, fun b _ hb => settleS_out hb⟩⟩
 ·by_cases hp : P b
  ·rw [settleS_in hp] at hb; exact ⟨o, hb, ib o⟩
  ·rw [settleS_out hp] at hb; exact hs b o hb
 ·obtain ⟨c, T, fr, h1, h2⟩ := hs.gl p hp
  exact ⟨c, T, fr, hle _ _ h1, h2⟩
theorem rcs_rV {S : SH} : ∀ {vs cells : List Value}, rcs rV S cells vs → cells = vs
 | [], cells, h => h
 | v :: vs, cells, ⟨a, b, e, h1, h2⟩ => by rw [e, show a = [v] from h1.1, rcs_rV h2]; rfl
theorem kp {β : Type} {q : Rp β} {S : SH} : ∀ (x : List β) (f : Nat → β → Value), (∀ k y, x[k]? = some y → q.rc S [f k y] y) → rcs q S (x.mapIdx f) x
 | [], f, _ => by simp [rcs]
 | y :: x, f, h => by
  rw [List.mapIdx_cons]
  exact ⟨[f 0 y], _, rfl, h 0 y rfl, kp x (fun k y => f (k + 1) y) fun k z hz => h (k + 1) z (by simpa using hz)⟩
theorem slice_of_raw {β : Type} {q : Rp β} (hq : q.sz = 1) {w : World} {S S' : SH} {T : TypeId} {l : Option Nat} {cap : Nat} {vs : List Value} {x : List β} (hl : vs.length = x.length) (k : j1 false rV T l cap vs w S) (hS : ∀ b, l = some b → S' b = w.heap[b]?) (hv : rcs q S' vs x) : (rSl q).rc S' [aD l cap x.length] x := by
 obtain ⟨cells, h1, h2, _⟩ := k
 have hc := rcs_rV h2
 subst hc
 cases l with
 | none =>
  have hx : x = [] := List.eq_nil_of_length_eq_zero (by rw [← hl]; exact h1.1)
  subst hx
  exact ⟨none, 0, rfl, Nat.le_refl _, Nat.zero_le _, .inl rfl⟩
 | some b =>
  obtain ⟨cur, g1, g2, g3, g4, g5⟩ := h1
  refine ⟨some ⟨b, 0, none⟩, cap, rfl, by omega, g3, .inr ⟨b, 0, cur, T, (0, 0), rfl, by rw [hS b rfl]; exact g1, ?_⟩⟩
  have e : rV.sz = 1 := rfl
  rw [e] at g5
  rw [List.drop_zero, hq, ← hl, g5]
  exact hv
theorem nst_settled {q : Rp β} (hqs : q.sz = 1) (hq : ∀ S cs y, (rSl (rSl r)).rc S cs (prj y) → q.rc S cs y) {w : World} {S : SH} (k : nstP prj r T1 T2 T3 l cap n g x none w S) (hs : Sat w S) :
  ∃ S', Ext (nst prj r T1 T2 T3 l cap n g x none).fp w S w S' ∧ Sat w S' ∧ (rSl q).rc S' [aD l cap n] x := by
 have hno : ∀ b, (l = some b ∨ ∃ k y, x[k]? = some y ∧ (g k).1.1 = some b) → S b = none := fun b hb => by
  rcases hb with hb | ⟨m, y, h1, h2⟩
  ·obtain ⟨_, _, _, h3⟩ := k.out; exact h3 b hb
  ·obtain ⟨_, _, _, h3⟩ := k.inn m y h1; exact h3 b h2
 obtain ⟨h1, h2, h3⟩ := settleS_ok hs hno
 refine ⟨_, h3.more fun b hb => ?_, h2, ?_⟩
 ·rcases hb with hb | ⟨m, y, h4, h5⟩
  ·exact ⟨.o, hb⟩
  ·exact ⟨.i m, by rw [nsB_i h4]; exact h5⟩
 ·rw [← k.len]
  refine slice_of_raw hqs hd1_len k.out (fun b hb => settleS_in (.inl hb)) (kp x _ fun m y hy => hq _ _ _ ?_);refine slice_of_raw rfl hd2_len (k.inn m y hy) (fun b hb => settleS_in (.inr ⟨m, y, hy, hb⟩)) (kp _ _ fun j z hz => ?_)
  obtain ⟨cs, e1, e2⟩ := d8 (k.lvs m y j z hy hz (fun e => by cases e))
  have e3 := (rSl r).mono h1 e2
  obtain ⟨v, hv⟩ : ∃ v, cs = [v] := List.length_eq_one_iff.1 ((rSl r).len e2)
  subst hv
  rw [show aD ((g m).2 j).1 ((g m).2 j).2 z.length = v from e1]
  exact e3
theorem St.settleN {γ : Type} {q : Rp β} (hqs : q.sz = 1) (hq : ∀ S cs y, (rSl (rSl r)).rc S cs (prj y) → q.rc S cs y) {rl : Rp γ} {y : γ} {u : Value} {k : Nat} {a : Act} {w : World} {S : SH} (hk : look G k = some (tV u)) (hu : ∀ S, (rSl q).rc S [aD l cap n] x → (tD rl y).p S u)
  (st : St E (nst prj r T1 T2 T3 l cap n g x none :: O) G a w S) : ∃ S', St E O ((k, tD rl y) :: G) a w S' := by
 obtain ⟨⟨hp, hfp⟩, hap, hO⟩ := st.own
 obtain ⟨S', h1, h2, h3⟩ := nst_settled hqs hq hp st.sat
 have hv : a.tmps.getD k undef = u := st.facts.at_ k _ hk
 have st1 : St E O G a w S' := ⟨st.ext.step h1 hfp, h2, hO.ext h1 fun f hf b hb hc => hap f hf b hc hb, st.facts.mono h1.keep⟩
 exact ⟨S', st1.cons (by rw [hv]; exact hu S' h3)⟩
theorem RG.settleN {γ : Type} {q : Rp β} (hqs : q.sz = 1) (hq : ∀ S cs y, (rSl (rSl r)).rc S cs (prj y) → q.rc S cs y) {rl : Rp γ} {y : γ} {u : Value} (k : Nat) (hk : look G k = some (tV u)) (hu : ∀ S, (rSl q).rc S [aD l cap n] x → (tD rl y).p S u)
  (h : RG E ops Q rest O ((k, tD rl y) :: G)) : RG E ops Q rest (nst prj r T1 T2 T3 l cap n g x none :: O) G := fun a w _ st => let ⟨S', st'⟩ := st.settleN hqs hq hk hu; h a w S' st'
def jC : Value := .slice none 0 0
def inns (T2 : TypeId) (m : Nat) (hs : List (Option Nat × Nat)) : OE where
 fp := fun b => ∃ (k : Nat) (o : Option Nat × Nat), hs[k]? = some o ∧ o.1 = some b
 p := fun w S => (∀ (k : Nat) (o : Option Nat × Nat), hs[k]? = some o → j1 false rV T2 o.1 o.2 (List.replicate m jC) w S) ∧ ∀ (k j : Nat) (o o' : Option Nat × Nat) (b : Nat), hs[k]? = some o → hs[j]? = some o' → o.1 = some b → o'.1 = some b → k = j
 here := fun ⟨h1, _⟩ b ⟨k, o, h2, h3⟩ => arrP_lt (h1 k o h2) h3
 kept := fun ⟨h1, h2⟩ e hC => ⟨fun k o ho => c9 (h1 k o ho) e fun b hb => hC b ⟨k, o, ho, hb⟩, h2⟩
theorem Own.inns0 {base : Nat} {B : Nat → Prop} {w : World} {S : SH} (T2 : TypeId) (m : Nat) (ho : Own base B w S O) : Own base B w S (inns T2 m [] :: O) :=
 ⟨⟨⟨fun k o h => (by simp at h), fun k j o o' b h => (by simp at h)⟩, fun b ⟨k, o, h, _⟩ => (by simp at h)⟩, fun f _ b ⟨k, o, h, _⟩ => (by simp at h), ho⟩
theorem Own.innsPush {base : Nat} {B : Nat → Prop} {w : World} {S : SH} {T2 : TypeId} {m : Nat} {hs : List (Option Nat × Nat)} {l : Option Nat} {c : Nat} (ho : Own base B w S (arr rV T2 l c (List.replicate m jC) :: inns T2 m hs :: O)) : Own base B w S (inns T2 m (hs ++ [(l, c)]) :: O) := by
 obtain ⟨⟨h1, h1f⟩, h1a, ⟨⟨h2, h3⟩, h2f⟩, h2a, hO⟩ := ho
 have hcase : ∀ k o, (hs ++ [(l, c)])[k]? = some o → (hs[k]? = some o ∧ k < hs.length) ∨ (k = hs.length ∧ o = (l, c)) := fun k o h => by
  rcases Nat.lt_or_ge k hs.length with hk | hk
  ·rw [List.getElem?_append_left hk] at h; exact .inl ⟨h, hk⟩
  ·rw [List.getElem?_append_right hk] at h
   have := (List.getElem?_eq_some_iff.1 h).1
   have hk2 : k = hs.length := by simp at this; omega
   subst hk2
   simp at h
   exact .inr ⟨rfl, h.symm⟩
 have hap := h1a _ (List.mem_cons_self ..)
 refine ⟨⟨⟨fun k o h => ?_, fun k j o o' b hk hj e1 e2 => ?_⟩, fun b ⟨k, o, h, e⟩ => ?_⟩, fun f hf b ⟨k, o, h, e⟩ => ?_, hO⟩
 ·rcases hcase k o h with ⟨h, _⟩ | ⟨_, rfl⟩
  ·exact h2 k o h
  ·exact h1
 ·rcases hcase k o hk with ⟨hk, _⟩ | ⟨rfl, rfl⟩ <;> rcases hcase j o' hj with ⟨hj, _⟩ | ⟨rfl, rfl⟩
  ·exact h3 k j o o' b hk hj e1 e2
  ·exact absurd ⟨k, o, hk, e1⟩ (hap b e2)
  ·exact absurd ⟨j, o', hj, e2⟩ (hap b e1)
  ·rfl
 ·rcases hcase k o h with ⟨h, _⟩ | ⟨_, rfl⟩
  ·exact h2f b ⟨k, o, h, e⟩
  ·exact h1f b e
 ·rcases hcase k o h with ⟨h, _⟩ | ⟨_, rfl⟩
  ·exact h2a f hf b ⟨k, o, h, e⟩
  ·exact h1a f (List.mem_cons_of_mem _ hf) b e
def g0 (hs : List (Option Nat × Nat)) : NG := fun k => (hs.getD k (none, 0), fun _ => (none, 0))
theorem Own.assemble {base : Nat} {B : Nat → Prop} {w : World} {S : SH} {m : Nat} {hs : List (Option Nat × Nat)} {y : β} (hy : prj y = List.replicate m []) (ho : Own base B w S (arr rV T1 l cap (hs.map fun o => aD o.1 o.2 m) :: inns T2 m hs :: O)) :
  Own base B w S (nst prj r T1 T2 T3 l cap hs.length (g0 hs) (List.replicate hs.length y) none :: O) := by
 obtain ⟨⟨h1, h1f⟩, h1a, ⟨⟨h2, h3⟩, h2f⟩, h2a, hO⟩ := ho
 have hap := h1a _ (List.mem_cons_self ..)
 have hat : ∀ k y', (List.replicate hs.length y)[k]? = some y' → y' = y ∧ ∃ o, hs[k]? = some o ∧ (g0 hs k).1 = o := fun k y' h => by
  obtain ⟨hk, e⟩ := List.getElem?_eq_some_iff.1 h
  simp at hk e
  exact ⟨e.symm, hs[k], List.getElem?_eq_getElem hk, by simp [g0, List.getD, List.getElem?_eq_getElem hk]⟩
 have hB : ∀ s b, nsB prj l (g0 hs) (List.replicate hs.length y) none s = some b → (s = .o ∧ l = some b) ∨ ∃ k o, s = .i k ∧ hs[k]? = some o ∧ o.1 = some b := fun s b hb => by
  cases s with
  | o => exact .inl ⟨rfl, hb⟩
  | i k =>
   obtain ⟨y', e1, e2⟩ := nsB_i_of hb
   obtain ⟨_, o, e3, e4⟩ := hat k y' e1
   exact .inr ⟨k, o, rfl, e3, by rw [← e4]; exact e2⟩
  | l k j =>
   obtain ⟨_, y', z, _, _, e⟩ := nsB_l_of hb
   cases e
 refine ⟨⟨⟨List.length_replicate, ?_, fun k y' hk => ?_, fun k y' j z hk hj _ => ?_, fun s t b hs ht => ?_⟩, fun b ⟨s, hb⟩ => ?_⟩, fun f hf b ⟨s, hb⟩ => ?_, hO⟩
 ·have e : hd1 prj (g0 hs) (List.replicate hs.length y) = hs.map fun o => aD o.1 o.2 m := by
   apply List.ext_getElem?
   intro k
   unfold hd1
   rw [List.getElem?_mapIdx, List.getElem?_map]
   rcases Nat.lt_or_ge k hs.length with hk | hk
   ·rw [List.getElem?_replicate, if_pos hk, List.getElem?_eq_getElem hk]
    simp [g0, hy, List.getD, List.getElem?_eq_getElem hk]
   ·rw [List.getElem?_replicate, if_neg (by omega), List.getElem?_eq_none hk]
    rfl
  rw [e]; exact h1
 ·obtain ⟨rfl, o, e1, e2⟩ := hat k y' hk
  have e : Go.Proofs.YtegigakgcnhiaaaGreatDoor.hd2 (g0 hs k).2 (prj y') = List.replicate m jC := by
   rw [hy]
   apply List.ext_getElem?
   intro j
   unfold Go.Proofs.YtegigakgcnhiaaaGreatDoor.hd2
   rw [List.getElem?_mapIdx, List.getElem?_replicate, List.getElem?_replicate]
   split <;> rfl
  rw [e, e2]
  exact h2 k o e1
 ·obtain ⟨rfl, _⟩ := hat k y' hk
  rw [hy, List.getElem?_replicate] at hj
  split at hj
  ·cases hj
   exact ⟨[], ⟨rfl, rfl⟩, rfl, fun b hb => (by cases hb)⟩
  ·cases hj
 ·rcases hB s b hs with ⟨rfl, e1⟩ | ⟨k, o, rfl, e1, e2⟩ <;> rcases hB t b ht with ⟨rfl, e3⟩ | ⟨j, o', rfl, e3, e4⟩
  ·rfl
  ·exact absurd ⟨j, o', e3, e4⟩ (hap b e1)
  ·exact absurd ⟨k, o, e1, e2⟩ (hap b e3)
  ·rw [h3 k j o o' b e1 e3 e2 e4]
 ·rcases hB s b hb with ⟨rfl, e1⟩ | ⟨k, o, rfl, e1, e2⟩
  ·exact h1f b e1
  ·exact h2f b ⟨k, o, e1, e2⟩
 ·rcases hB s b hb with ⟨rfl, e1⟩ | ⟨k, o, rfl, e1, e2⟩
  ·exact h1a f (List.mem_cons_of_mem _ hf) b e1
  ·exact h2a f hf b ⟨k, o, e1, e2⟩
def tsB (l : Option Nat) (q : Nat → Option Nat × Nat) (zs : List (List α)) (h : Option Nat) : Option Nat → Option Nat
 | none => l
 | some j => if h = some j then none else (zs[j]?).bind fun _ => (q j).1
structure rowP (r : Rp α) (T2 T3 : TypeId) (l : Option Nat) (cap n : Nat) (q : Nat → Option Nat × Nat) (zs : List (List α)) (h : Option Nat) (w : World) (S : SH) : Prop where
 len : zs.length = n
 inn : j1 false rV T2 l cap (hd2 q zs) w S
 lvs : ∀ j z, zs[j]? = some z → h ≠ some j → j1 true r T3 (q j).1 (q j).2 z w S
 inj : ∀ s t b, tsB l q zs h s = some b → tsB l q zs h t = some b → s = t
variable {q : Nat → Option Nat × Nat} {zs : List (List α)} {k : Option Nat}
theorem tsB_at {j : Nat} {z : List α} (hz : zs[j]? = some z) (hh : k ≠ some j) : tsB l q zs k (some j) = (q j).1 := by simp [tsB, hz, hh]
theorem tsB_of {j b : Nat} (hb : tsB l q zs k (some j) = some b) : k ≠ some j ∧ ∃ z, zs[j]? = some z ∧ (q j).1 = some b := by
 by_cases hh : k = some j
 ·simp [tsB, hh] at hb
 ·refine ⟨hh, ?_⟩
  cases hz : zs[j]? with
  | none => simp [tsB, hz, hh] at hb
  | some z => exact ⟨z, rfl, by simpa [tsB, hz, hh] using hb⟩
def tab (r : Rp α) (T2 T3 : TypeId) (l : Option Nat) (cap n : Nat) (q : Nat → Option Nat × Nat) (zs : List (List α)) (h : Option Nat) : OE where
 fp := fun b => ∃ s, tsB l q zs h s = some b
 p := rowP r T2 T3 l cap n q zs h
 here := by
  rintro w S k b ⟨s, hb⟩
  cases s with
  | none => exact arrP_lt k.inn hb
  | some j => obtain ⟨h0, z, h1, h2⟩ := tsB_of hb; exact arrP_lt (k.lvs j z h1 h0) h2
 kept := fun {C w w' S S'} k e hC => ⟨k.len, c9 k.inn e fun b hb => hC b ⟨none, hb⟩, fun j z hz hh => c9 (k.lvs j z hz hh) e fun b hb => hC b ⟨some j, by rw [tsB_at hz hh]; exact hb⟩, k.inj⟩
theorem Own.nstTab {base : Nat} {B : Nat → Prop} {w : World} {S : SH} {y : β} {i : Int} (hy : idx x i = some y) (ho : Own base B w S (nst prj r T1 T2 T3 l cap n g x none :: O)) : Own base B w S (tab r T2 T3 (g i.toNat).1.1 (g i.toNat).1.2 (prj y).length (g i.toNat).2 (prj y) none :: O) := by
 obtain ⟨⟨hp, hfp⟩, hap, hO⟩ := ho
 have hp : nstP prj r T1 T2 T3 l cap n g x none w S := hp
 obtain ⟨h0, hy'⟩ := bo hy
 have hB : ∀ s b, tsB (g i.toNat).1.1 (g i.toNat).2 (prj y) none s = some b → nsB prj l g x none (match s with | none => .i i.toNat | some j => .l i.toNat j) = some b := fun s b hb => by
  cases s with
  | none => rw [nsB_i hy']; exact hb
  | some j => obtain ⟨_, z, h1, h2⟩ := tsB_of hb; rw [nsB_l hy' h1 (fun e => by cases e)]; exact h2
 refine ⟨⟨⟨rfl, hp.inn _ y hy', fun j z hz _ => hp.lvs _ y j z hy' hz (fun e => by cases e), fun s t b hs ht => ?_⟩, fun b ⟨s, hb⟩ => hfp b ⟨_, hB s b hb⟩⟩, fun f hf b ⟨s, hb⟩ => hap f hf b ⟨_, hB s b hb⟩, hO⟩
 have := hp.inj _ _ b (hB s b hs) (hB t b ht)
 cases s <;> cases t <;> simp at this <;> first | rfl | (rw [this])
theorem RG.nstTab {y : β} {i : Int} (hy : idx x i = some y) (k : RG E ops Q rest (tab r T2 T3 (g i.toNat).1.1 (g i.toNat).1.2 (prj y).length (g i.toNat).2 (prj y) none :: O) G) : RG E ops Q rest (nst prj r T1 T2 T3 l cap n g x none :: O) G := fun a w S st => k a w S (st.own_map (Own.nstTab hy))
theorem ok_idxT {z : List α} {xo ix : Operand} {t e : TypeId} {kk : IntKind} {j : Int} {bytes : Nat} {agg : Bool} {zz : List Value} (ht : E.P.underlying t = some (.slice e)) (ti : TI E.P e 1 bytes agg zz)
  (hm : tab r T2 T3 l cap n q zs k ∈ O) (hx : aA E.N G xo (tV (aD l cap n))) (hi : aA E.N G ix (tD (rI kk) j)) (hz : idx zs j = some z) :
  OpOK E O G ⟨dst, .indexAddr t xo ix, ty, pos, after, gd⟩ (tV (cB l j.toNat)) := .of_pure fun a w S _ ho hf => by
 have hn := ((ho.mem _ hm).1 : rowP _ _ _ _ _ _ _ _ _ _ _).len
 subst hn
 have h1 : a.eval xo = aD l cap zs.length := hx S a hf
 have h3 : a.eval ix = .int kk j := bD.1 (hi S a hf)
 obtain ⟨h0, hz'⟩ := bo hz
 obtain ⟨b, cur, rfl, _⟩ := hU ((ho.mem _ hm).1 : rowP _ _ _ _ _ _ _ _ _ _ _).inn (hd2_at hz')
 have hlt : j.toNat < zs.length := (List.getElem?_eq_some_iff.1 hz').1
 refine ⟨_, ?_, rfl⟩
 have hc : 0 ≤ j ∧ j < (zs.length : Int) := ⟨h0, by omega⟩
 simp [execOp, h1, h3, aD, Instr.indexAt, asIntOf, run_underlying ht, hc, ti.sizeOf, cG, cB, aR]
theorem ok_ldT {z : List α} {j : Int} {U : TypeId} {bytes : Nat} {zz : List Value} {p : Operand} (ti : TI E.P U 1 bytes false zz) (hm : tab r T2 T3 l cap n q zs k ∈ O) (ht : tip r T3 (q j.toNat).1 (q j.toNat).2 z ∈ O) (hz : idx zs j = some z)
  (hp : aA E.N G p (tV (cB l j.toNat))) : OpOK E O G ⟨dst, .load U p, ty, pos, after, gd⟩ (tO r (q j.toNat).1 (q j.toNat).2 z) := .of_pure fun a w S _ ho hf => by
 have h1 : a.eval p = cB l j.toNat := hp S a hf
 obtain ⟨h2, hz'⟩ := bo hz
 obtain ⟨b, cur, e, hb, hc, h1c⟩ := hU ((ho.mem _ hm).1 : rowP _ _ _ _ _ _ _ _ _ _ _).inn (hd2_at hz')
 have hd := d8 (ho.mem _ ht).1
 refine ⟨aD (q j.toNat).1 (q j.toNat).2 z.length, ?_, rfl, hd⟩
 have hr := bP (r := rV) (x := aD (q j.toNat).1 (q j.toNat).2 z.length) (S := S) ti hb rfl rfl (off := j.toNat) ⟨hc, h1c⟩
 have hv : rV.val ((cur.toList.drop j.toNat).take rV.sz) = aD (q j.toNat).1 (q j.toNat).2 z.length := by
  show rV.val ((cur.toList.drop j.toNat).take 1) = _
  rw [hc]; rfl
 rw [hv] at hr
 rw [e] at h1
 simp [execOp, h1, cB, aR, Instr.loadAt, Instr.sureAddr, hr]
theorem tsB_open {j : Nat} {s : Option Nat} {b : Nat} (hb : tsB l q zs (some j) s = some b) : tsB l q zs none s = some b ∧ s ≠ some j := by
 cases s with
 | none => exact ⟨hb, fun e => by cases e⟩
 | some m =>
  obtain ⟨h0, z, h1, h2⟩ := tsB_of hb
  exact ⟨by rw [tsB_at h1 (fun e => by cases e)]; exact h2, fun e => h0 e.symm⟩
theorem Own.openT {base : Nat} {B : Nat → Prop} {w : World} {S : SH} {z : List α} {j : Int} (hz : idx zs j = some z) (ho : Own base B w S (tab r T2 T3 l cap n q zs none :: O)) :
  Own base B w S (tip r T3 (q j.toNat).1 (q j.toNat).2 z :: tab r T2 T3 l cap n q zs (some j.toNat) :: O) := by
 obtain ⟨⟨hp, hfp⟩, hap, hO⟩ := ho
 have hp : rowP r T2 T3 l cap n q zs none w S := hp
 obtain ⟨h2, hz'⟩ := bo hz
 have hl := tsB_at (l := l) (q := q) (k := none) hz' (fun e => by cases e)
 have hin : ∀ b, (q j.toNat).1 = some b → tsB l q zs none (some j.toNat) = some b := fun b hb => by rw [hl]; exact hb
 refine ⟨⟨hp.lvs _ z hz' (fun e => by cases e), fun b hb => hfp b ⟨_, hin b hb⟩⟩, fun f hf b hb => ?_, ⟨⟨hp.len, hp.inn, fun m z' h1 h3 => hp.lvs m z' h1 (fun e => by cases e), fun s t b hs ht => hp.inj s t b (tsB_open hs).1 (tsB_open ht).1⟩, fun b ⟨s, hs⟩ => hfp b ⟨s, (tsB_open hs).1⟩⟩, fun f hf b ⟨s, hs⟩ => hap f hf b ⟨s, (tsB_open hs).1⟩, hO⟩
 rcases List.mem_cons.1 hf with rfl | hf
 ·rintro ⟨s, hs⟩
  obtain ⟨h3, h4⟩ := tsB_open hs
  exact h4 (hp.inj _ _ b h3 (hin b hb))
 ·exact hap f hf b ⟨_, hin b hb⟩
theorem CG.openT {z : List α} {j : Int} (hz : idx zs j = some z) (kk : CG E Q c (tip r T3 (q j.toNat).1 (q j.toNat).2 z :: tab r T2 T3 l cap n q zs (some j.toNat) :: O) G) :
  CG E Q c (tab r T2 T3 l cap n q zs none :: O) G := fun a w S st => kk a w S (st.own_map (Own.openT hz))
def qset (q : Nat → Option Nat × Nat) (j : Nat) (o : Option Nat × Nat) : Nat → Option Nat × Nat := fun m => if m = j then o else q m
theorem eff_stT {z ys : List α} {j : Int} {l2 : Option Nat} {c2 : Nat} {U : TypeId} {bytes : Nat} {zz : List Value} {p v : Operand} (ti : TI E.P U 1 bytes false zz) (hz : idx zs j = some z)
  (hp : aA E.N G p (tV (cB l j.toNat))) (hv : aA E.N G v (tV (aD l2 c2 ys.length))) :
  EffOK E (tip r T3 l2 c2 ys :: tab r T2 T3 l cap n q zs (some j.toNat) :: O) G ⟨none, .store U p v, ty, pos, after, gd⟩
   (fun _ => tab r T2 T3 l cap n (qset q j.toNat (l2, c2)) (zs.set j.toNat ys) none :: O) (fun _ => tAny) := fun a w S hs ho hf hb => by
 obtain ⟨⟨htip, htfp⟩, htap, ⟨hn, hnfp⟩, hnap, hO⟩ := ho
 have hn : rowP r T2 T3 l cap n q zs (some j.toNat) w S := hn
 obtain ⟨h2, hz'⟩ := bo hz
 have hjl : j.toNat < zs.length := (List.getElem?_eq_some_iff.1 hz').1
 have hia := htap _ (List.mem_cons_self ..)
 have hno : (aD l2 c2 ys.length).oneCell' = true := by cases l2 <;> rfl
 have hd2' : idx (hd2 q zs) j = some (aD (q j.toNat).1 (q j.toNat).2 z.length) := by
  unfold idx
  rw [if_pos h2]
  exact hd2_at hz'
 have hst := kB (E := E) (O := []) (G := G) (r := rV) (q := rV) (U := T2) (l := l) (cap := cap) (foff := 0) (p := p) (x := v) (ty := ty) (pos := pos) (after := after) (g := gd) (v := aD l2 c2 ys.length) ti rfl aB rfl hd2' rfl
  (by rw [show j.toNat * rV.sz + 0 = j.toNat from Nat.mul_one _]; exact hp) (fun S a hf => ⟨[aD l2 c2 ys.length], hv S a hf, rfl, hno⟩)
 have hbi : ∀ b, l = some b → tsB l q zs (some j.toNat) none = some b := fun b hb => hb
 refine e9 (fun a' w' ⟨u, S', xi, h3, h4, h5, h6, h7⟩ => ⟨u, S', zoi, h3, h4.more fun b ⟨f, hf, hb⟩ => ?_, h5, ?_, trivial⟩) (hst a w S hs ⟨⟨hn.inn, fun b hb => hnfp b ⟨none, hbi b hb⟩⟩, fun f hf => (by cases hf), trivial⟩ hf hb)
 ·rw [List.mem_singleton.1 hf] at hb
  exact ⟨_, List.mem_cons_of_mem _ (List.mem_cons_self ..), ⟨none, hbi b hb⟩⟩
 ·have hC : ∀ b, fpB [arr rV T2 l cap (hd2 q zs)] b → l = some b := fun b ⟨f, hf, hb⟩ => by
   rw [List.mem_singleton.1 hf] at hb; exact hb
  have hnC : ∀ s b, tsB l q zs (some j.toNat) s = some b → s ≠ none → ¬ fpB [arr rV T2 l cap (hd2 q zs)] b := fun s b hsb hne hc =>
   hne (hn.inj _ _ b hsb (hbi b (hC b hc)))
  have hnew : j1 false rV T2 l cap ((hd2 q zs).set j.toNat (aD l2 c2 ys.length)) w' S' := h6.1.1
  have htip' : j1 true r T3 l2 c2 ys w' S' := c9 htip h4 fun b hb hc => hia b hb ⟨none, hbi b (hC b hc)⟩
  have hB : ∀ s b, tsB l (qset q j.toNat (l2, c2)) (zs.set j.toNat ys) none s = some b → (s = some j.toNat ∧ l2 = some b) ∨ (s ≠ some j.toNat ∧ tsB l q zs (some j.toNat) s = some b) := fun s b hsb => by
   cases s with
   | none => exact .inr ⟨fun e => (by cases e), hsb⟩
   | some m =>
    obtain ⟨_, z', h8, h9⟩ := tsB_of hsb
    by_cases hm : m = j.toNat
    ·subst hm
     simp only [qset, if_true] at h9
     exact .inl ⟨rfl, h9⟩
    ·rw [List.getElem?_set_ne (Ne.symm hm)] at h8
     simp only [qset, hm, if_false] at h9
     refine .inr ⟨fun e => hm (Option.some.inj e), ?_⟩
     rw [tsB_at h8 (fun e => hm (Option.some.inj e).symm)]
     exact h9
  have hfpn : ∀ s b, tsB l (qset q j.toNat (l2, c2)) (zs.set j.toNat ys) none s = some b → (tip r T3 l2 c2 ys).fp b ∨ (tab r T2 T3 l cap n q zs (some j.toNat)).fp b := fun s b hsb => (hB s b hsb).imp (fun h => h.2) fun h => ⟨s, h.2⟩
  refine ⟨⟨⟨by rw [List.length_set]; exact hn.len, ?_, fun m z' hm _ => ?_, fun s t b h8 h9 => ?_⟩, fun b ⟨s, hsb⟩ => (hfpn s b hsb).elim (htfp b) (hnfp b)⟩, fun f hf b ⟨s, hsb⟩ => (hfpn s b hsb).elim (htap f (List.mem_cons_of_mem _ hf) b) (hnap f hf b), hO.ext h4 fun f hf b hb hc => hnap f hf b ⟨none, hbi b (hC b hc)⟩ hb⟩
  ·have e : hd2 (qset q j.toNat (l2, c2)) (zs.set j.toNat ys) = (hd2 q zs).set j.toNat (aD l2 c2 ys.length) := by
    apply List.ext_getElem?
    intro m
    unfold hd2
    rw [List.getElem?_mapIdx]
    by_cases hm : m = j.toNat
    ·subst hm
     rw [List.getElem?_set_self hjl, List.getElem?_set_self (by simpa using hjl), Option.map_some]
     simp [qset]
    ·rw [List.getElem?_set_ne (Ne.symm hm), List.getElem?_set_ne (Ne.symm hm), List.getElem?_mapIdx]
     simp [qset, hm]
   rw [e]; exact hnew
  ·by_cases hmj : m = j.toNat
   ·subst hmj
    rw [List.getElem?_set_self hjl] at hm
    cases hm
    simp only [qset, if_true]
    exact htip'
   ·rw [List.getElem?_set_ne (Ne.symm hmj)] at hm
    have hh : some j.toNat ≠ some m := fun e => hmj (Option.some.inj e).symm
    simp only [qset, hmj, if_false]
    exact c9 (hn.lvs m z' hm hh) h4 fun b hb => hnC (some m) b (by rw [tsB_at hm hh]; exact hb) (fun e => by cases e)
  ·rcases hB s b h8 with ⟨rfl, e1⟩ | ⟨n1, e1⟩ <;> rcases hB t b h9 with ⟨rfl, e2⟩ | ⟨n2, e2⟩
   ·rfl
   ·exact absurd ⟨t, e2⟩ (hia b e1)
   ·exact absurd ⟨s, e1⟩ (hia b e2)
   ·exact hn.inj s t b e1 e2
theorem Own.tabArr {base : Nat} {B : Nat → Prop} {w : World} {S : SH} (ho : Own base B w S (tab r T2 T3 l cap n q zs none :: O)) : Own base B w S (arr (rSl r) T2 l cap zs :: O) := by
 obtain ⟨⟨hp, hfp⟩, hap, hO⟩ := ho
 have hp : rowP r T2 T3 l cap n q zs none w S := hp
 obtain ⟨cells, h1, h2, h3⟩ := hp.inn
 have hc := rcs_rV h2
 subst hc
 refine ⟨⟨⟨_, by rw [hd2_len] at h1; exact h1, kp _ _ fun j z hz => ?_, h3⟩, fun b hb => hfp b ⟨none, hb⟩⟩, fun f hf b hb => hap f hf b ⟨none, hb⟩, hO⟩
 obtain ⟨cs, e1, e2⟩ := d8 (hp.lvs j z hz (fun e => by cases e))
 obtain ⟨v, hv⟩ : ∃ v, cs = [v] := List.length_eq_one_iff.1 ((rSl r).len e2)
 subst hv
 rw [show aD (q j).1 (q j).2 z.length = v from e1]
 exact e2
theorem RG.tabArr (hl : zs.length = n → RG E ops Q rest (arr (rSl r) T2 l cap zs :: O) G) : RG E ops Q rest (tab r T2 T3 l cap n q zs none :: O) G := fun a w S st => hl ((st.own.1.1 : rowP _ _ _ _ _ _ _ _ _ _ _).len) a w S (st.own_map Own.tabArr)
end
end Go.Proofs.YtegigakgcnhiaaaGreatDoor

namespace Go.Proofs.YtegigakgcnhiaaaGreatDoor
open Go

def dnE (es : List Bool) (done : Array Bool) : List Nat := (List.range es.length).filter fun k => (es[k]?).getD false && done.getD k false
def insE (es : List Bool) (i : Nat) (s : List Nat) : List Nat := (List.range es.length).filter fun k => Nat.beq k i || s.contains k
def eqL : List Nat → List Nat → Bool
 | [], [] => true
 | a :: s, b :: t => Nat.beq a b && eqL s t
 | _, _ => false
def OmT : List (List Nat × ((Nat → OI) → List OE)) → List Nat → (Nat → OI) → List OE
 | [], _, _ => []
 | p :: r, s, σ => bif eqL p.1 s then p.2 σ else OmT r s σ
def subsE : List Nat → List (List Nat)
 | [] => [[]]
 | k :: l => (subsE l).map (k :: ·) ++ subsE l
def effs (es : List Bool) : List Nat := (List.range es.length).filter fun k => (es[k]?).getD false
def noE (L : List Oper) (es : List Bool) (i : Nat) (s : List Nat) : Bool :=
 s.contains i || (effs es).any fun k => if s.contains k then ew L L.length k i || (effs es).any fun j => !s.contains j && ew L L.length k j else ew L L.length i k
def winT (L : List Oper) (es : List Bool) (i : Nat) (aas : List (List Nat)) : Bool := (subsE (effs es)).all fun s => noE L es i s || aas.any fun a => eqL a s
def AllS {α : Type} (p : α → Prop) : List α → Prop
 | [] => True
 | a :: l => p a ∧ AllS p l
theorem AllS.mem {α : Type} {p : α → Prop} : ∀ {l : List α}, AllS p l → ∀ a ∈ l, p a
 | _ :: _, ⟨h, _⟩, _, .head _ => h
 | _ :: _, ⟨_, h⟩, _, .tail _ hm => AllS.mem h _ hm
abbrev SsT := List (List Nat × ((Nat → OI) → List OE))
def DT (E : En) (G : Ctx) (L : List Oper) (ts : List TS) (Ss : SsT) (es0 : List Bool) : Nat → List Oper → List Bool → Prop
 | _, [], _ => True
 | i, o :: rest, false :: es => (∃ (needs : List NS) (t : TS) (aas : List (List Nat)), ts[i]? = some t ∧ NSsOK G ts needs ∧ (needs.all fun n => j7 L o i (n.at fun _ => zoi)) = true ∧ cV i o = true ∧ depB L es0 i t = true ∧ winT L es0 i aas = true ∧ o.dst.isSome = true ∧
   AllS (fun s => ∀ σ, OpG E (OmT Ss s σ) L.toArray (needS needs σ) o (t.at σ)) aas) ∧ DT E G L ts Ss es0 (i + 1) rest es
 | i, o :: rest, true :: es => (∃ (needs : List NS) (t : TS) (aas : List (List Nat × List Nat)), ts[i]? = some t ∧ NSsOK G ts needs ∧ (needs.all fun n => j7 L o i (n.at fun _ => zoi)) = true ∧ cV i o = true ∧ depB L es0 i t = true ∧ winT L es0 i (aas.map (·.1)) = true ∧ (aas.all fun p => eqL (insE es0 i p.1) p.2) = true ∧
   AllS (fun p : List Nat × List Nat => ∀ σ, EffG E L.toArray (OmT Ss p.1 σ) (needS needs σ) o (fun x => OmT Ss p.2 (upd σ i x)) (fun x => t.at (upd σ i x))) aas) ∧ DT E G L ts Ss es0 (i + 1) rest es
 | _, _ :: _, [] => False
theorem DT.get {E : En} {G : Ctx} {L : List Oper} {ts : List TS} {Ss : SsT} {es0 : List Bool} : ∀ (r : List Oper) (es : List Bool) (k : Nat), DT E G L ts Ss es0 k r es → ∀ (j : Nat) (o : Oper), r[j]? = some o →
    ∃ e, es[j]? = some e ∧ ∃ (needs : List NS) (t : TS), ts[k + j]? = some t ∧ NSsOK G ts needs ∧ (needs.all fun n => j7 L o (k + j) (n.at fun _ => zoi)) = true ∧ cV (k + j) o = true ∧ depB L es0 (k + j) t = true ∧
      (match e with
       | false => o.dst.isSome = true ∧ ∃ aas, winT L es0 (k + j) aas = true ∧ AllS (fun s => ∀ σ, OpG E (OmT Ss s σ) L.toArray (needS needs σ) o (t.at σ)) aas
       | true => ∃ aas : List (List Nat × List Nat), winT L es0 (k + j) (aas.map (·.1)) = true ∧ (aas.all fun p => eqL (insE es0 (k + j) p.1) p.2) = true ∧ AllS (fun p : List Nat × List Nat => ∀ σ, EffG E L.toArray (OmT Ss p.1 σ) (needS needs σ) o (fun x => OmT Ss p.2 (upd σ (k + j) x)) (fun x => t.at (upd σ (k + j) x))) aas) := by
  intro r
  induction r with
  | nil => intro es k _ j o h; simp at h
  | cons p r ih =>
    intro es k h j o ho
    cases es with
    | nil => exact h.elim
    | cons e es =>
      cases e with
      | false =>
        obtain ⟨⟨needs, t, aas, g1, g2, g3, g4, g5, g6, g7, g8⟩, h2⟩ := h
        cases j with
        | zero =>
          simp at ho; subst ho
          exact ⟨false, rfl, needs, t, g1, g2, g3, g4, g5, g7, aas, g6, g8⟩
        | succ j =>
          obtain ⟨e', g1, g2⟩ := ih es (k + 1) h2 j o (by simpa using ho)
          refine ⟨e', by simpa using g1, ?_⟩
          rw [show k + 1 + j = k + (j + 1) from by omega] at g2
          exact g2
      | true =>
        obtain ⟨⟨needs, t, aas, g1, g2, g3, g4, g5, g6, g7, g8⟩, h2⟩ := h
        cases j with
        | zero =>
          simp at ho; subst ho
          exact ⟨true, rfl, needs, t, g1, g2, g3, g4, g5, aas, g6, g7, g8⟩
        | succ j =>
          obtain ⟨e', g1, g2⟩ := ih es (k + 1) h2 j o (by simpa using ho)
          refine ⟨e', by simpa using g1, ?_⟩
          rw [show k + 1 + j = k + (j + 1) from by omega] at g2
          exact g2
structure DJT (E : En) (G : Ctx) (l : List Oper) (ts : List TS) (Ss : SsT) (es : List Bool) (done : Array Bool) (a : Act) (w : World) (S : SH) (σ : Nat → OI) : Prop where
 ext : Ext E.B E.w0 E.S0 w S
 sat : Sat w S
 own : Own E.base E.B w S (OmT Ss (dnE es done) σ)
 size : a.tmps.size = E.N.n
 defers : a.defers = E.N.ds
 dsz : done.size = l.length
 down : ∀ j o, l[j]? = some o → done.getD j false = true → ∀ e ∈ o.after, Region.binds .any e = true → done.getD e.on false = true
 old : ∀ k t, look G k = some t → (∀ j o, l[j]? = some o → done.getD j false = true → o.dst ≠ some k) → t.p S (a.tmps.getD k undef)
 new : ∀ j o d p, l[j]? = some o → done.getD j false = true → o.dst = some d → ts[j]? = some p → (p.at σ).p S (a.tmps.getD d undef)
 deps : ∀ j p, done.getD j false = true → ts[j]? = some p → ∀ k ∈ p.1, done.getD k false = true
section
variable {E : En} {G : Ctx} {L : List Oper} {ts : List TS} {Ss : SsT} {es : List Bool}
theorem DJT.need {done : Array Bool} {a : Act} {w : World} {S : SH} {σ : Nat → OI} (h : DJT E G L ts Ss es done a w S σ) {i : Nat} {o : Oper} (hi : L[i]? = some o) (hun : done.getD i true = false)
  (hwait : ∀ e ∈ o.after, Region.binds .any e = true → done.getD e.on false = true) {needs : List NS} (h1 : NSsOK G ts needs) (h2 : (needs.all fun n => j7 L o i (n.at fun _ => zoi)) = true) : Facts E.N S a (needS needs σ) := by
 have hlt : i < done.size := by rw [h.dsz]; exact (List.getElem?_eq_some_iff.1 hi).1
 have hun' : done.getD i false = false := by
  simp [hlt] at hun ⊢; exact hun
 refine ⟨h.size, h.defers, ?_⟩
 have key : ∀ n ∈ needs, (n.ty σ).p S (a.tmps.getD n.slot undef) := by
  intro n hn
  have hs := List.all_eq_true.1 h2 n hn
  have ho := h1.mem n hn
  unfold j7 NS.at at hs
  unfold NSOK at ho
  cases hsrc : n.src with
  | some j =>
   rw [hsrc] at hs ho
   simp only [Bool.and_eq_true] at hs
   obtain ⟨hs1, hs2⟩ := hs
   cases hj : L[j]? with
   | none => rw [hj] at hs1; cases hs1
   | some p =>
    rw [hj] at hs1
    cases hd : p.dst with
    | none => simp only [hd] at hs1; cases hs1
    | some d =>
     simp only [hd] at hs1
     have hd' := Nat.eq_of_beq_eq_true hs1
     subst hd'
     have hdone : done.getD j false = true := by
      unfold waits at hs2
      obtain ⟨e, he0, hb⟩ := List.any_eq_true.1 hs2
      have he : e ∈ o.after := by simpa using he0
      simp only [Bool.and_eq_true] at hb
      have := hwait e he hb.2
      rwa [Nat.eq_of_beq_eq_true hb.1] at this
     have hm := ho σ
     cases hf : ts[j]? with
     | none => rw [hf] at hm; simp at hm
     | some f =>
      rw [hf] at hm
      have e : f.at σ = n.ty σ := by simpa using hm
      rw [← e]
      exact h.new j p n.slot f hj hdone hd hf
  | none =>
   rw [hsrc] at hs ho
   refine h.old _ _ (ho σ) fun j p hj hdone hd => ?_
   have := List.all_eq_true.1 hs p (List.mem_of_getElem? hj)
   simp only [hd, Nat.beq_refl, Bool.not_true, Bool.false_or] at this
   unfold waits at this
   obtain ⟨e, he0, hb⟩ := List.any_eq_true.1 this
   have he : e ∈ p.after := by simpa using he0
   simp only [Bool.and_eq_true] at hb
   have h3 := h.down j p hj hdone e he hb.2
   rw [Nat.eq_of_beq_eq_true hb.1] at h3
   rw [h3] at hun'
   cases hun'
 clear h1 h2
 intro k t hk
 unfold needS at hk
 induction needs with
 | nil => simp [ex, look] at hk
 | cons n needs ih =>
  simp only [List.map_cons] at hk
  unfold ex look at hk
  by_cases hb : Nat.beq n.slot k = true
  ·have hb' : Nat.beq (n.at σ).slot k = true := hb
   rw [hb'] at hk
   have := Nat.eq_of_beq_eq_true hb
   subst this
   have h9 : some (n.at σ).ty = some t := by simpa using hk
   have e : n.ty σ = t := Option.some.inj h9
   rw [← e]
   exact key n (List.mem_cons_self ..)
  ·rw [Bool.not_eq_true] at hb
   have hb' : Nat.beq (n.at σ).slot k = false := hb
   rw [hb'] at hk
   exact ih (fun m hm => key m (List.mem_cons_of_mem _ hm)) hk
theorem DJT.step {done : Array Bool} {a : Act} {w w' : World} {S S' : SH} {σ σ' : Nat → OI} (h : DJT E G L ts Ss es done a w S σ) {i : Nat} {o : Oper} {p0 : TS} {v : Value} {C : Nat → Prop} (hi : L[i]? = some o)
  (hdN : ∀ d, o.dst = some d → d < E.N.n) (hs2 : ∀ d, o.dst = some d → ∀ j p, L[j]? = some p → done.getD j false = true → p.dst = some d → i = j)
  (hwait : ∀ e ∈ o.after, Region.binds .any e = true → done.getD e.on false = true) (ht : ts[i]? = some p0) (hun : done.getD i true = false) (hdep : ∀ k ∈ p0.1, k = i ∨ done.getD k false = true)
  (hext : Ext C w S w' S') (hC : ∀ b, C b → E.base ≤ b ∨ E.B b) (hsat : Sat w' S') (hown : Own E.base E.B w' S' (OmT Ss (dnE es (done.setIfInBounds i true)) σ')) (hσ : ∀ k, k ≠ i → σ' k = σ k) (hv : (p0.at σ').p S' v) :
  DJT E G L ts Ss es (done.setIfInBounds i true) (a.put o.dst v) w' S' σ' := by
 have hlt : i < done.size := by rw [h.dsz]; exact (List.getElem?_eq_some_iff.1 hi).1
 have hset : ∀ j, (done.setIfInBounds i true).getD j false = true → j = i ∨ done.getD j false = true := fun j hj => by
  by_cases hij : i = j
  ·exact .inl hij.symm
  ·rw [getD_set_ne false hij] at hj; exact .inr hj
 have hseti : (done.setIfInBounds i true).getD i false = true := by simp [hlt]
 have hun' : done.getD i false = false := by simp [hlt] at hun ⊢; exact hun
 have hput : ∀ k, (∀ d, o.dst = some d → d ≠ k) → (a.put o.dst v).tmps.getD k undef = a.tmps.getD k undef := fun k hk => by
  cases hd : o.dst with
  | none => rfl
  | some d =>
   have hda : d < a.tmps.size := by rw [h.size]; exact hdN d hd
   rw [gR hda, if_neg (hk d hd)]
 refine ⟨h.ext.step hext hC, hsat, hown, ?_, ?_, by simp [h.dsz], fun j p hj hdone e he hb => ?_, fun k u hk hno => ?_, fun j p d' u hj hdone hd' hu => ?_, fun j u hj hu k hk => ?_⟩
 ·cases o.dst with
  | none => exact h.size
  | some d => simp [Act.put, h.size]
 ·cases o.dst with
  | none => exact h.defers
  | some d => exact h.defers
 ·rcases hset j hdone with rfl | hj'
  ·rw [hi] at hj
   have : o = p := by simpa using hj
   subst this
   exact getD_set_true (hwait e he hb)
  ·exact getD_set_true (h.down j p hj hj' e he hb)
 ·rw [hput k fun d hd e => hno i o hi hseti (by rw [hd, e])]
  exact u.mono hext.keep (h.old k u hk fun j p hj hdone => hno j p hj (getD_set_true hdone))
 ·by_cases hij : j = i
  ·subst hij
   rw [hi] at hj
   have : o = p := by simpa using hj
   subst this
   have hda : d' < a.tmps.size := by rw [h.size]; exact hdN d' hd'
   rw [hd', gR hda, if_pos rfl]
   rw [ht] at hu
   have : p0 = u := by simpa using hu
   subst this
   exact hv
  ·have hj' := (hset j hdone).resolve_left hij
   rw [hput d' fun d hd e => by subst e; exact hij (hs2 d hd j p hj hj' hd').symm]
   have e1 : u.at σ' = u.at σ := congrArg u.2 (List.map_congr_left fun k hk => hσ k fun e => by
     subst e
     rw [h.deps j u hj' hu k hk] at hun'; cases hun')
   rw [e1]
   exact Ty.mono _ hext.keep (h.new j p d' u hj hj' hd' hu)
 ·rcases hset j hj with rfl | hj'
  ·rw [ht] at hu
   have : p0 = u := by simpa using hu
   subst this
   rcases hdep k hk with rfl | h'
   ·exact hseti
   ·exact getD_set_true h'
  ·exact getD_set_true (h.deps j u hj' hu k hk)
end
end Go.Proofs.YtegigakgcnhiaaaGreatDoor

namespace Go.Proofs.YtegigakgcnhiaaaGreatDoor
open Go

theorem Own.perm {base : Nat} {B : Nat → Prop} {w : World} {S : SH} {O O' : List OE} (h : O.Perm O') : Own base B w S O → Own base B w S O' := by
 induction h with
 | nil => exact id
 | cons x p ih =>
  rintro ⟨h1, h2, h3⟩
  exact ⟨h1, fun f hf => h2 f (p.mem_iff.2 hf), ih h3⟩
 | swap x y l =>
  rintro ⟨h1, h2, h3, h4, h5⟩
  refine ⟨h3, fun f hf k hk hfk => ?_, h1, fun f hf => h2 f (List.mem_cons_of_mem _ hf), h5⟩
  rcases List.mem_cons.1 hf with rfl | hf
  ·exact h2 x (List.mem_cons_self ..) k hfk hk
  ·exact h4 f hf k hk hfk
 | trans _ _ ih1 ih2 => exact fun k => ih2 (ih1 k)
def jp (O : List OE) : List Nat → List OE
 | [] => []
 | i :: l => match O[i]? with
  | some e => e :: jp O l
  | none => jp O l
theorem pickO_append (O : List OE) : ∀ a b : List Nat, jp O (a ++ b) = jp O a ++ jp O b
 | [], _ => rfl
 | i :: a, b => by
  simp only [List.cons_append, jp]
  split <;> simp [pickO_append O a b]
theorem pickO_perm {O : List OE} {a b : List Nat} (h : a.Perm b) : (jp O a).Perm (jp O b) := by
 induction h with
 | nil => exact .nil
 | cons x p ih =>
  simp only [jp]
  split
  ·exact .cons _ ih
  ·exact ih
 | swap x y l =>
  simp only [jp]
  cases hx : O[x]? <;> cases hy : O[y]? <;> simp <;> exact .swap ..
 | trans _ _ ih1 ih2 => exact ih1.trans ih2
theorem pickO_range (O : List OE) : jp O (List.range O.length) = O := by
 have key : ∀ n, n ≤ O.length → jp O (List.range n) = O.take n := by
  intro n
  induction n with
  | zero => intro _; rfl
  | succ n ih =>
   intro h
   rw [List.range_succ, pickO_append, ih (by omega)]
   simp only [jp]
   rw [List.getElem?_eq_getElem (by omega), List.take_succ_eq_append_getElem (by omega)]
 rw [key _ (Nat.le_refl _), List.take_length]
theorem Own.pick {base : Nat} {B : Nat → Prop} {w : World} {S : SH} {O : List OE} (l : List Nat) (hl : l.isPerm (List.range O.length) = true) (h : Own base B w S O) : Own base B w S (jp O l) :=
 h.perm (by
  have := pickO_perm (O := O) (List.isPerm_iff.1 hl)
  rw [pickO_range] at this
  exact this.symm)
def fieldT (P : Program) (T : TypeId) (i : Nat) : Option (TypeId × Nat) :=
 match P.underlying T with
 | some (.struct fs) => (fs[i]?).map fun f => (f.type, f.offset)
 | _ => none
theorem ok_field {E : En} {O : List OE} {G : Ctx} {dst : Option Tmp} {ty : TypeId} {pos : String} {after : Array Edge} {g : Option (Nat × Bool)} {α β : Type} {r : Rp α} {q : Rp β} {get : α → β} {v : α} {T ft : TypeId} {i off sz bytes : Nat} {agg : Bool} {z : List Value} {x : Operand}
  (hT : fieldT E.P T i = some (ft, off)) (ti : TI E.P ft sz bytes agg z) (hsz : q.sz = sz) (hag : q.agg = agg) (hr : r.agg = true) (hq : Fld r off q get) (hx : aA E.N G x (tD r v)) :
  OpOK E O G ⟨dst, .field T x i, ty, pos, after, g⟩ (tD q (get v)) := .of_pure fun a w S _ _ hF => by
 obtain ⟨cs, h1, h2⟩ := hx S a hF
 have h1' : a.eval x = .agg cs.toArray := by rw [h1]; unfold Rp.val; rw [hr]; rfl
 unfold fieldT at hT
 split at hT
 ·rename_i fs hu
  cases hf : fs[i]? with
  | none => rw [hf] at hT; cases hT
  | some f =>
   rw [hf] at hT
   simp only [Option.map_some, Option.some.injEq, Prod.mk.injEq] at hT
   obtain ⟨e1, e2⟩ := hT
   subst e1 e2
   have h3 := kb ti hsz hag hq h2 w
   exact ⟨_, by simp [execOp, h1', Instr.field, run_underlying hu, hf, asAgg, h3], _, rfl, hq S cs v h2⟩
 ·cases hT
end Go.Proofs.YtegigakgcnhiaaaGreatDoor

namespace Go.Proofs.YtegigakgcnhiaaaGreatDoor
open Go

section
variable {E : En} {O : List OE} {G : Ctx} {Q : Exit → Act → World → Prop} {ops : Array Oper} {rest : List Oper}
section
variable {dst : Option Tmp} {ty : TypeId} {pos : String} {after : Array Edge} {g : Option (Nat × Bool)}
end
end
end Go.Proofs.YtegigakgcnhiaaaGreatDoor

namespace Go.Proofs.YtegigakgcnhiaaaGreatDoor
open Go Go.ChangeShapes Go.WideShapes Go.ChangeAt Go.RowKit

section
variable {H : Type} {enc : TypeId × Value → H} {P : Program}
def memS (W : World) : SH := fun b => W.heap[b]?
theorem sat_hS (W : World) (hg : ∀ p ∈ glob, ∃ c T fr, W.heap[p.1]? = some (.cells c T fr) ∧ c.toList.take p.2.length = p.2) (ht : ∀ w' : World, (∀ (b : Nat) (o : Obj), W.heap[b]? = some o → ∃ o', w'.heap[b]? = some o' ∧ ole o o') → tabP w') : Sat W (memS W) := ⟨fun _ o h => ⟨o, h, ib o⟩, hg, ht⟩
def ToR (enc : TypeId × Value → H) (P : Program) (W : World) {α : Type} (t : TypeId) (r : Rp α) : Prop :=
 P.cellsOf t = r.sz ∧ ∀ fuel cs x, DataW.trod enc P W 0 (fun _ => true) true fuel t cs = some x → ∃ y, r.rc (memS W) cs y
theorem jU {α β : Type} {f : α → Option β} : ∀ {l : List α} {r : List β}, l.mapM f = some r → r.length = l.length ∧ ∀ (i : Nat) (x : α), l[i]? = some x → ∃ y, r[i]? = some y ∧ f x = some y
 | [], r, h => by
  simp at h
  subst h
  exact ⟨rfl, fun i x hx => by simp at hx⟩
 | a :: l, r, h => by
  rw [List.mapM_cons] at h
  cases hf : f a with
  | none => rw [hf] at h; simp at h
  | some b =>
   rw [hf] at h
   cases hm : l.mapM f with
   | none => rw [hm] at h; simp at h
   | some r' =>
    rw [hm] at h
    simp at h
    subst h
    obtain ⟨h1, h2⟩ := jU hm
    refine ⟨by simp [h1], fun i x hx => ?_⟩
    cases i with
    | zero => simp at hx; subst hx; exact ⟨b, rfl, hf⟩
    | succ i => exact h2 i x (by simpa using hx)
theorem cell_some {W : World} {a : Addr} {v : Value} (h : W.cell? a = some v) : a.spot = none ∧ ∃ c E fr, W.heap[a.block]? = some (.cells c E fr) ∧ c[a.off]? = some v := by
 unfold World.cell? at h
 cases ho : W.heap[a.block]? with
 | none => rw [ho] at h; cases h
 | some o =>
  rw [ho] at h
  cases o with
  | cells c E fr =>
   simp only at h
   by_cases hs : a.spot.isSome = true
   ·rw [if_pos hs] at h; cases h
   ·rw [if_neg hs] at h
    exact ⟨by cases hq : a.spot with
     | none => rfl
     | some s => rw [hq] at hs; simp at hs, c, E, fr, rfl, h⟩
  | _ => simp at h
theorem add_zero' (a : Addr) : a.add 0 = a := by unfold Addr.add; rfl
theorem cells_some {W : World} {b off n : Nat} {cs : List Value} (h : W.cells? 0 ⟨b, off, none⟩ n = some cs) (hn : 0 < n) : ∃ c E fr, W.heap[b]? = some (.cells c E fr) ∧ cs = (c.toList.drop off).take n := by
 unfold World.cells? at h
 rw [if_pos (Nat.zero_le _)] at h
 obtain ⟨h1, h2⟩ := jU h
 obtain ⟨v, _, hv⟩ := h2 0 0 (by simp [hn])
 obtain ⟨_, c, E, fr, h3, h4⟩ := cell_some hv
 refine ⟨c, E, fr, by simpa [Addr.add] using h3, ?_⟩
 apply List.ext_getElem?
 intro i
 have hl : cs.length = n := by simpa using h1
 by_cases hi : i < n
 ·obtain ⟨v, h5, h6⟩ := h2 i i (by simp [hi])
  obtain ⟨_, c', E', fr', h7, h8⟩ := cell_some h6
  rw [cG] at h7 h8
  have h7' : W.heap[b]? = some (.cells c' E' fr') := h7
  have h3' : W.heap[b]? = some (.cells c E fr) := by simpa [Addr.add] using h3
  rw [h3'] at h7'
  injection h7' with h7'
  injection h7' with e1
  subst e1
  rw [h5, List.getElem?_take_of_lt hi, List.getElem?_drop]
  simpa using h8.symm
 ·rw [List.getElem?_eq_none (by omega), List.getElem?_eq_none (by simp; omega)]
theorem toR_elems {W : World} {α : Type} {e : TypeId} {q : Rp α} {n len cap : Nat} {a : Addr} {x : DataW H × List MemPlace} (h0' : 0 < q.sz) (hq : ToR enc P W e q)
    (hx : (let elemAt (i : Nat) : Option (DataW H × List MemPlace) := (W.cells? 0 (a.add (i * P.cellsOf e)) (P.cellsOf e)).bind (DataW.trod enc P W 0 (fun _ => true) true n e)
      if 0 ≤ a.block ∧ len ≤ cap ∧ cap ≤ maxLen then
        ((List.range len).mapM elemAt).bind fun elems =>
          (if (fun _ => true) a.block then (List.range (cap - len)).mapM fun j => elemAt (len + j) else some []).map fun rest =>
            (DataW.slice (elems.map (·.1)) (rest.map (·.1)), MemPlace.row a ((elems.length + rest.length) * P.cellsOf e) ++ (elems ++ rest).flatMap (·.2))
      else none) = some x) : ∃ y, (rSl q).rc (memS W) [.slice (some a) len cap] y := by
  simp only at hx
  split at hx
  · rename_i hcond
    obtain ⟨_, hle, hmax⟩ := hcond
    cases hm : (List.range len).mapM (fun i => (W.cells? 0 (a.add (i * P.cellsOf e)) (P.cellsOf e)).bind (DataW.trod enc P W 0 (fun _ => true) true n e)) with
    | none => rw [hm] at hx; simp at hx
    | some elems =>
      obtain ⟨hm1, hm2⟩ := jU hm
      rw [hq.1] at hm2
      by_cases hl0 : len = 0
      · subst hl0; exact ⟨[], some a, cap, rfl, Nat.zero_le _, hmax, .inl rfl⟩
      have hsp0 : a.spot = none := by
        obtain ⟨z, _, hz⟩ := hm2 0 0 (by rw [List.getElem?_range (by omega)])
        rw [Nat.zero_mul, add_zero'] at hz
        cases hcs : W.cells? 0 a q.sz with
        | none => rw [hcs] at hz; simp at hz
        | some cs1 =>
          unfold World.cells? at hcs
          rw [if_pos (Nat.zero_le _)] at hcs
          obtain ⟨_, g2⟩ := jU hcs
          obtain ⟨v, _, hv⟩ := g2 0 0 (by simp [h0'])
          rw [add_zero'] at hv
          exact (cell_some hv).1
      have hcell : ∀ i, i < len → ∃ c E fr, a.spot = none ∧ W.heap[a.block]? = some (.cells c E fr) ∧ ∃ y, q.rc (memS W) ((c.toList.drop (a.off + i * q.sz)).take q.sz) y := by
        intro i hi
        obtain ⟨z, _, hz⟩ := hm2 i i (by simp [hi])
        cases hcs : W.cells? 0 (a.add (i * q.sz)) q.sz with
        | none => rw [hcs] at hz; simp at hz
        | some cs1 =>
          rw [hcs] at hz
          have hsp : a.spot = none := hsp0
          obtain ⟨ab, ao, az⟩ := a
          simp only at hsp
          subst hsp
          rw [cG] at hcs
          obtain ⟨c, E, fr, g1, g2⟩ := cells_some hcs h0'
          obtain ⟨y, hy⟩ := hq.2 n cs1 z hz
          exact ⟨c, E, fr, rfl, g1, y, by rw [← g2]; exact hy⟩
      obtain ⟨c, E, fr, hsp, hb, _⟩ := hcell 0 (by omega)
      have key : ∀ m, m ≤ len → ∃ ys : List α, ys.length = m ∧ rcs q (memS W) ((c.toList.drop a.off).take (m * q.sz)) ys := by
        intro m
        induction m with
        | zero => intro _; exact ⟨[], rfl, by simp [rcs]⟩
        | succ m ih =>
          intro hm'
          obtain ⟨ys, hy1, hy2⟩ := ih (by omega)
          obtain ⟨c', E', fr', _, hb', y, hy⟩ := hcell m (by omega)
          rw [hb] at hb'
          injection hb' with hb'
          injection hb' with e1
          subst e1
          refine ⟨ys ++ [y], by simp [hy1], ?_⟩
          have hsplit : (c.toList.drop a.off).take ((m + 1) * q.sz) = (c.toList.drop a.off).take (m * q.sz) ++ (c.toList.drop (a.off + m * q.sz)).take q.sz := by
            rw [Nat.add_mul, Nat.one_mul, List.take_add, List.drop_drop]
          rw [hsplit]
          exact rcs_append hy2 (rcs_single.2 hy)
      obtain ⟨ys, hy1, hy2⟩ := key len (Nat.le_refl _)
      obtain ⟨ab, ao, az⟩ := a
      simp only at hsp
      subst hsp
      exact ⟨ys, some ⟨ab, ao, none⟩, cap, by rw [hy1], by omega, hmax, .inr ⟨ab, ao, c, E, fr, rfl, hb, by rw [hy1]; exact hy2⟩⟩
  · cases hx
theorem gC {W : World} {α : Type} {t e : TypeId} {q : Rp α} (h : P.underlying t = some (.slice e)) (hc : P.cellsOf t = 1) (h0 : Nat.blt 0 q.sz = true) (hq : ToR enc P W e q) : ToR enc P W t (rSl q) := ⟨hc, fun fuel cs x hx => by
 have h0' : 0 < q.sz := by simpa [Nat.blt_eq] using h0
 cases fuel with
 | zero => simp [DataW.trod] at hx
 | succ n =>
  unfold DataW.trod at hx
  rw [h] at hx
  split at hx
  all_goals try (injections; done)
  ·exact ⟨[], none, 0, rfl, Nat.le_refl _, Nat.zero_le _, .inl rfl⟩
  ·rename_i e' a len cap heq
   injection heq with e1
   injection e1 with e1
   subst e1
   exact toR_elems h0' hq hx⟩
def FRep (enc : TypeId × Value → H) (P : Program) (W : World) {α : Type} (off : Nat) (l : List (TypeId × Nat)) (r : Rp α) : Prop :=
 ∀ (fuel : Nat) (cs : List Value), cs.length = off + r.sz → (∀ f ∈ l, ∃ x, DataW.trod enc P W 0 (fun _ => true) true fuel f.1 ((cs.drop f.2).take (P.cellsOf f.1)) = some x) → ∃ y, r.rc (memS W) (cs.drop off) y
theorem jX {W : World} {α : Type} {r : Rp α} {t off : Nat} (h : ToR enc P W t r) : FRep enc P W off [(t, off)] r := fun fuel cs hl hx => by
 obtain ⟨x, hx⟩ := hx _ (List.mem_singleton_self _)
 simp only at hx
 rw [h.1, List.take_of_length_le (by simp; omega)] at hx
 exact h.2 _ _ _ hx
theorem iL {W : World} {α β : Type} {p : Rp α} {q : Rp β} {t off off' : Nat} {l : List (TypeId × Nat)} (h : ToR enc P W t p) (ho : off' = off + p.sz) (hr : FRep enc P W off' l q) : FRep enc P W off ((t, off) :: l) (fi p q) := fun fuel cs hl hx => by
 subst ho
 obtain ⟨x, hx1⟩ := hx _ (List.mem_cons_self ..)
 simp only at hx1
 rw [h.1] at hx1
 obtain ⟨y, hy⟩ := h.2 _ _ _ hx1
 obtain ⟨z, hz⟩ := hr fuel cs (by rw [hl]; show off + (p.sz + q.sz) = _; omega) fun f hf => hx f (List.mem_cons_of_mem _ hf)
 exact ⟨(y, z), _, _, by rw [← List.drop_drop]; exact (List.take_append_drop _ _).symm, hy, hz⟩
theorem gB {W : World} {α β : Type} {t : TypeId} {l : List (TypeId × Nat)} {p : Rp α} {f : β → α} (ht : (P.underlying t).map (fun d => match d with | .struct l => (true, l.toList.map fun f => (f.type, f.offset)) | _ => (false, [])) = some (true, l)) (hc : P.cellsOf t = p.sz) (hf : ∀ y, ∃ x, f x = y) (hl : FRep enc P W 0 l p) : ToR enc P W t (iW p f) := ⟨hc, fun fuel cs x hx => by
 obtain ⟨fs, h1, h2⟩ : ∃ fs, P.underlying t = some (.struct fs) ∧ fs.toList.map (fun f => (f.type, f.offset)) = l := by
  cases hu : P.underlying t with
  | none => rw [hu] at ht; cases ht
  | some d =>
   rw [hu] at ht
   cases d <;> simp at ht
   exact ⟨_, rfl, ht⟩
 cases fuel with
 | zero => simp [DataW.trod] at hx
 | succ n =>
  unfold DataW.trod at hx
  rw [h1] at hx
  change (if cs.length = P.cellsOf t then (fs.toList.mapM fun f => DataW.trod enc P W 0 (fun _ => true) true n f.type ((cs.drop f.offset).take (P.cellsOf f.type))).map (fun xs => (DataW.agg (xs.map (·.1)), xs.flatMap (·.2))) else none) = some x at hx
  split at hx
  ·rename_i hlen
   cases hm : fs.toList.mapM (fun f => DataW.trod enc P W 0 (fun _ => true) true n f.type ((cs.drop f.offset).take (P.cellsOf f.type))) with
   | none => rw [hm] at hx; simp at hx
   | some r =>
    obtain ⟨_, hm2⟩ := jU hm
    obtain ⟨y, hy⟩ := hl n cs (by rw [hlen, hc]; omega) (fun g hg => by
     rw [← h2, List.mem_map] at hg
     obtain ⟨f0, hf0, rfl⟩ := hg
     obtain ⟨i, hi⟩ := List.getElem?_of_mem hf0
     obtain ⟨z, _, hz⟩ := hm2 i f0 hi
     exact ⟨z, hz⟩)
    obtain ⟨x', hx'⟩ := hf y
    refine ⟨x', ?_⟩
    show p.rc _ cs (f x')
    rw [hx']
    simpa using hy
  ·cases hx⟩
theorem below_of_ext {W W' : World} {S S' : SH} (h : Ext noB W S W' S') : Below W.heap.size W W' := ⟨h.os, h.tape, h.output, h.size, fun k hk => h.heap k hk (fun h => h)⟩
theorem trodAll_stays (hl : laidOutB P = true) {W W' : World} (hb : Below W.heap.size W W') {sp : Nat → Bool} : ∀ {ts : List TypeId} {vs : List Value} {ds : List (DataW H)} {ps : List MemPlace}, (∀ t ∈ ts, P.readableRec t = true ∧ t < P.types.size) →
  DataW.TrodAll enc P W 0 (fun _ => true) true ts vs ds ps → (∀ p ∈ ps, p.block < W.heap.size) → (∀ p ∈ ps, sp p.block = true) → DataW.TrodAll enc P W' 0 sp true ts vs ds ps
 | [], [], [], _, _, h, _, _ => h
 | t :: ts, v :: vs, d :: ds, _, hr, ⟨p, q, h1, h2, e⟩, hlt, hsp => by
  subst e
  have ht := hr t (List.mem_cons_self ..)
  exact ⟨p, q, WideElems.Trod_stays hl ht.1 ht.2 h1 (fun x hx => hb.same (hlt x (List.mem_append_left _ hx))) (fun x hx => hsp x (List.mem_append_left _ hx)),
   trodAll_stays hl hb (fun t ht => hr t (List.mem_cons_of_mem _ ht)) h2 (fun x hx => hlt x (List.mem_append_right _ hx)) (fun x hx => hsp x (List.mem_append_right _ hx)), rfl⟩
theorem law_post {f : Func} {s : ChangeSpec} {apart fresh handsOn again : Bool} {W W' : World} {args : Array Value} {ds gs : List (DataW H)} {before : List MemPlace} {tb : TypeId}
  (hl : laidOutB P = true) (hr : ∀ t ∈ f.params.toList, P.readableRec t = true ∧ t < P.types.size) (hvs : s.vars = []) (hres : f.resultTypes = #[tb]) (htb : P.underlying tb = some .bool)
  (hW : DataW.Whole enc P f.params.toList s.vars apart W args.toList ds gs before) (hs : s.fn H (ds ++ gs) = { results := [.lit (.bool true)], args := ds }) (hb : Below W.heap.size W W') :
  s.post enc P f apart fresh handsOn again W args (.bool true) W' := by
 have hW0 := hW
 have hlt := hW.lt
 obtain ⟨pa, pv, hA, hV, rfl, hz, hn⟩ := hW
 rw [hvs] at hV
 have hpv : pv = [] := by
  cases gs with
  | nil => exact hV
  | cons g gs => exact hV.elim
 subst hpv
 have hlt' : ∀ p ∈ pa, p.block < W.heap.size := fun p hp => hlt p (by simpa using hp)
 have hargs : ∀ sp : Nat → Bool, (∀ p ∈ pa, sp p.block = true) → DataW.TrodAll enc P W' 0 sp true f.params.toList args.toList ds pa := fun sp hsp => trodAll_stays hl hb hr hA hlt' hsp
 have hresT : ∀ (b : Nat) (sp : Nat → Bool) (hd : Bool), DataW.TrodAll enc P W' b sp hd f.resultTypes.toList ((Value.bool true).resultList f.resultTypes.size) [.lit (.bool true)] [] := fun b sp hd => by
  rw [hres]
  exact ⟨[], [], ⟨1, by simp [DataW.trod, htb, Value.cells]⟩, rfl, rfl⟩
 have hvT : ∀ sp : Nat → Bool, DataW.TrodVars enc P W' sp s.vars (s.fn H (ds ++ gs)).vars [] := fun sp => by
  rw [hvs, hs]; rfl
 have hargs' : ∀ sp : Nat → Bool, (∀ p ∈ pa, sp p.block = true) → DataW.TrodAll enc P W' 0 sp true f.params.toList args.toList (s.fn H (ds ++ gs)).args pa := fun sp hsp => by rw [hs]; exact hargs sp hsp
 have hres' : ∀ (b : Nat) (sp : Nat → Bool) (hd : Bool), DataW.TrodAll enc P W' b sp hd f.resultTypes.toList ((Value.bool true).resultList f.resultTypes.size) (s.fn H (ds ++ gs)).results [] := fun b sp hd => by rw [hs]; exact hresT b sp hd
 have hold : ∀ p ∈ pa, (fun b => decide (b < W.heap.size)) p.block = true := fun p hp => by simpa using hlt' p hp
 refine ⟨ds, gs, pa ++ [], [], pa, [], hW0, hres' _ _ _, hargs' _ hold, hvT _, World.keptBut_mono (fun p hp => ⟨hp, ?_⟩) (hb.frame _), fun _ => ?_⟩
 ·right; simpa using hp
 ·refine ⟨?_, _, _, ([] ++ pa) ++ [], ⟨[] ++ pa, [], trodAll_append (hargs' _ (fun _ _ => rfl)) (hres' _ _ _), hvT _, rfl, ?_, ?_⟩, ?_⟩
  ·intro j t r h1 h2
   rw [hres] at h1 h2
   cases j with
   | zero =>
    simp [Value.resultList] at h1 h2
    subst h1 h2
    simp [Value.okWide, htb, Cell.okWide, Cell.ok]
   | succ j => simp at h1
  ·intro b off hp
   have hp' : MemPlace.cell b off ∈ pa := by simpa using hp
   have := hlt' _ hp'
   rw [hb.frozen (p := ⟨b, off, none⟩) this]
   exact hz b off (by simpa using hp')
  ·intro ha
   have := hn ha
   simpa using this
  ·intro p hp _
   simpa using hp
end
end Go.Proofs.YtegigakgcnhiaaaGreatDoor

namespace Go.Proofs.YtegigakgcnhiaaaGreatDoor
open Go Go.ChangeShapes Go.WideShapes Go.ChangeAt Go.RowKit

section
variable {H : Type} {enc : TypeId × Value → H} {P : Program}
def rOk {α : Type} (r : Rp α) (ok : α → Prop) : Rp α where
 sz := r.sz
 agg := r.agg
 rc := fun S cs x => r.rc S cs x ∧ ok x
 mono := fun h k => ⟨r.mono h k.1, k.2⟩
 len := fun k => r.len k.1
 one := fun k => r.one k.1
 sc := r.sc
def inK (k : IntKind) (n : Int) : Prop := k.min ≤ n ∧ n ≤ k.max
def inS (s : Str) : Prop := s.length ≤ maxLen
def inL {α : Type} (ok : α → Prop) (xs : List α) : Prop := xs.length ≤ maxLen ∧ ∀ x ∈ xs, ok x
theorem toR_intO {W : World} {t : TypeId} {k : IntKind} (h : P.underlying t = some (.int k)) (hc : P.cellsOf t = 1) : ToR enc P W t (rOk (rI k) (inK k)) := ⟨hc, fun fuel cs x hx => by
 cases fuel with
 | zero => simp [DataW.trod] at hx
 | succ n =>
  unfold DataW.trod at hx
  rw [h] at hx
  split at hx
  all_goals try (injections; done)
  ·rename_i k1 k2 m heq
   injection heq with e
   injection e with e
   subst e
   split at hx
   ·rename_i h2
    obtain ⟨rfl, h3⟩ := h2
    simp only [Lit.wf, Bool.and_eq_true, decide_eq_true_eq] at h3
    exact ⟨m, rfl, h3⟩
   ·cases hx⟩
theorem toR_strO {W : World} {t : TypeId} (h : P.underlying t = some .string) (hc : P.cellsOf t = 1) : ToR enc P W t (rOk rS inS) := ⟨hc, fun fuel cs x hx => by
 cases fuel with
 | zero => simp [DataW.trod] at hx
 | succ n =>
  unfold DataW.trod at hx
  rw [h] at hx
  split at hx
  all_goals try (injections; done)
  ·rename_i s heq
   split at hx
   ·rename_i h2; exact ⟨s.data.toList, rfl, (show s.data.toList.length ≤ maxLen from (show s.size = s.data.toList.length from rfl) ▸ h2)⟩
   ·cases hx⟩
def Ref {α : Type} (r' r : Rp α) (ok : α → Prop) : Prop := r'.sz = r.sz ∧ r'.agg = r.agg ∧ ∀ S cs x, r'.rc S cs x → r.rc S cs x ∧ ok x
theorem ref_ok {α : Type} {r : Rp α} {ok : α → Prop} : Ref (rOk r ok) r ok := ⟨rfl, rfl, fun _ _ _ h => h⟩
theorem ref_rcs {α : Type} {r' r : Rp α} {ok : α → Prop} (h : Ref r' r ok) {S : SH} : ∀ {xs : List α} {cs : List Value}, rcs r' S cs xs → rcs r S cs xs ∧ ∀ x ∈ xs, ok x
 | [], _, k => ⟨k, fun x hx => by cases hx⟩
 | x :: xs, _, ⟨a, b, e, h1, h2⟩ => by
  obtain ⟨g1, g2⟩ := h.2.2 _ _ _ h1
  obtain ⟨g3, g4⟩ := ref_rcs h h2
  exact ⟨⟨a, b, e, g1, g3⟩, fun y hy => by
   rcases List.mem_cons.1 hy with rfl | hy
   ·exact g2
   ·exact g4 y hy⟩
theorem ref_sl {α : Type} {r' r : Rp α} {ok : α → Prop} (h : Ref r' r ok) : Ref (rSl r') (rSl r) (inL ok) := ⟨rfl, rfl, fun S cs xs ⟨a, cap, e, h1, h2, h3⟩ => by
 rcases h3 with h3 | ⟨b, off, c, E, fr, e1, e2, e3⟩
 ·exact ⟨⟨a, cap, e, h1, h2, .inl h3⟩, by omega, fun x hx => by rw [h3] at hx; cases hx⟩
 ·rw [h.1] at e3
  obtain ⟨g1, g2⟩ := ref_rcs h e3
  exact ⟨⟨a, cap, e, h1, h2, .inr ⟨b, off, c, E, fr, e1, e2, g1⟩⟩, by omega, g2⟩⟩
theorem jQ {α β : Type} {p' p : Rp α} {q' q : Rp β} {f : α → Prop} {g : β → Prop} (h : Ref p' p f) (k : Ref q' q g) : Ref (fi p' q') (fi p q) (fun x => f x.1 ∧ g x.2) :=
 ⟨by show p'.sz + q'.sz = p.sz + q.sz; rw [h.1, k.1], rfl, fun S cs x ⟨a, b, e, h1, h2⟩ => ⟨⟨a, b, e, (h.2.2 _ _ _ h1).1, (k.2.2 _ _ _ h2).1⟩, (h.2.2 _ _ _ h1).2, (k.2.2 _ _ _ h2).2⟩⟩
theorem ref_map {α β : Type} {p' p : Rp α} {ok : α → Prop} {f : β → α} (h : Ref p' p ok) : Ref (iW p' f) (iW p f) (fun x => ok (f x)) :=
 ⟨h.1, rfl, fun S cs x k => h.2.2 _ _ _ k⟩
theorem arg_agg {W : World} {α : Type} {t : TypeId} {r' r : Rp α} {ok : α → Prop} (h : ToR enc P W t r') (hr : Ref r' r ok) (hag : r.agg = true) {v : Value} {d : DataW H} {ps : List MemPlace} (hv : DataW.Trod enc P W 0 (fun _ => true) true t v d ps) (hc : v = .agg v.cells) : ∃ y, (tD r y).p (memS W) v ∧ ok y := by
 obtain ⟨fuel, hx⟩ := hv
 obtain ⟨y, hy⟩ := h.2 _ _ _ hx
 obtain ⟨g1, g2⟩ := hr.2.2 _ _ _ hy
 exact ⟨y, ⟨_, by unfold Rp.val; rw [hag, if_pos rfl]; exact hc, g1⟩, g2⟩
theorem kE {W : World} {base : Nat} {t : TypeId} {l : Array Field} {v : Value} (ht : P.underlying t = some (.struct l)) (hv : Value.okWide P W .any base t v) : v = .agg v.cells := by
 unfold Value.okWide at hv
 rw [ht] at hv
 obtain ⟨cs, e, _⟩ := hv
 rw [e]
 rfl
end
end Go.Proofs.YtegigakgcnhiaaaGreatDoor

namespace Go.Proofs.YtegigakgcnhiaaaGreatDoor
open Go Go.ChangeShapes Go.WideShapes Go.ChangeAt Go.RowKit

section
variable {P : Program} {W : World} {held : Bool}
def ToC (P : Program) (W : World) (held : Bool) (t : TypeId) (D : DataW Unit) (cells : List Value) : Prop :=
 P.cellsOf t = cells.length ∧ ∀ fuel cs x, DataW.trod (fun _ => ()) P W 0 (fun _ => true) held fuel t cs = some x → x.1 = D → cs = cells
theorem toC_int {t : TypeId} {k : IntKind} {n : Int} (h : P.underlying t = some (.int k)) (hc : P.cellsOf t = 1) : ToC P W held t (.lit (.int k n)) [.int k n] := ⟨hc, fun fuel cs x hx hD => by
 obtain ⟨m, h1, h2, _⟩ := DataW.trod_int h hx
 subst h2
 simp only [DataW.lit.injEq, Lit.int.injEq, true_and] at hD
 rw [h1, hD]⟩
theorem bC {t : TypeId} {s : List UInt8} (h : P.underlying t = some .string) (hc : P.cellsOf t = 1) : ToC P W held t (.lit (.string s)) [.string ⟨s.toArray⟩] := ⟨hc, fun fuel cs x hx hD => by
 obtain ⟨m, h1, h2, _⟩ := DataW.trod_string h hx
 subst h2
 simp only [DataW.lit.injEq, Lit.string.injEq] at hD
 subst hD
 rw [h1]⟩
def FC (P : Program) (W : World) (held : Bool) (off : Nat) (l : List (TypeId × Nat)) (Ds : List (DataW Unit)) (cells : List Value) : Prop :=
 ∀ (n : Nat) (cs : List Value), cs.length = off + cells.length → (∀ (i : Nat) f, l[i]? = some f → ∃ x, DataW.trod (fun _ => ()) P W 0 (fun _ => true) held n f.1 ((cs.drop f.2).take (P.cellsOf f.1)) = some x ∧ Ds[i]? = some x.1) → cs.drop off = cells
theorem fc_nil {off : Nat} : FC P W held off [] [] [] := fun n cs hl _ => List.drop_of_length_le (by simp at hl; omega)
theorem bk {off off' : Nat} {t : TypeId} {l : List (TypeId × Nat)} {D : DataW Unit} {Ds : List (DataW Unit)} {c cells : List Value} (h : ToC P W held t D c) (ho : off' = off + c.length) (k : FC P W held off' l Ds cells) : FC P W held off ((t, off) :: l) (D :: Ds) (c ++ cells) := fun n cs hl hx => by
 obtain ⟨x, h1, h2⟩ := hx 0 (t, off) rfl
 simp only [List.getElem?_cons_zero, Option.some.injEq] at h2
 have h3 := h.2 n _ x h1 h2.symm
 have h4 := k n cs (by rw [hl, ho, List.length_append]; omega) fun i f hf => by simpa using hx (i + 1) f (by simpa using hf)
 have e : cs.drop off = (cs.drop off).take (P.cellsOf t) ++ cs.drop off' := by
  rw [ho, ← h.1, ← List.drop_drop, List.take_append_drop]
 rw [e, h4]
 exact congrArg (· ++ cells) h3
theorem toC_struct {t : TypeId} {l : List (TypeId × Nat)} {Ds : List (DataW Unit)} {cells : List Value} (ht : (P.underlying t).map (fun d => match d with | .struct l => (true, l.toList.map fun f => (f.type, f.offset)) | _ => (false, [])) = some (true, l)) (hc : P.cellsOf t = cells.length) (hf : FC P W held 0 l Ds cells) : ToC P W held t (.agg Ds) cells := ⟨hc, fun fuel cs x hx hD => by
 obtain ⟨fs, h1, h2⟩ : ∃ fs, P.underlying t = some (.struct fs) ∧ fs.toList.map (fun f => (f.type, f.offset)) = l := by
  cases hu : P.underlying t with
  | none => rw [hu] at ht; cases ht
  | some d =>
   rw [hu] at ht
   cases d <;> simp at ht
   exact ⟨_, rfl, ht⟩
 obtain ⟨xs, n, rfl, h3, h4, h5, h6⟩ := DataW.trod_struct h1 hx
 rw [h3] at hD
 simp only [DataW.agg.injEq] at hD
 have := hf n cs (by rw [h4, hc]; omega) fun i f hi => by
  rw [← h2, List.getElem?_map] at hi
  obtain ⟨f0, hf0, rfl⟩ := Option.map_eq_some_iff.1 hi
  have h7 := h6 i f0 (by simpa using hf0)
  have hlt : i < xs.length := by
   have := (List.getElem?_eq_some_iff.1 hf0).1
   rw [h5]; simpa using this
  rw [List.getElem?_eq_getElem hlt] at h7
  exact ⟨xs[i], h7, by rw [← hD]; simp [hlt]⟩
 rwa [List.drop_zero] at this⟩
theorem toC_arr {t e : TypeId} {m : Nat} {Ds : List (DataW Unit)} {cells : List Value} (ht : P.underlying t = some (.array m e)) (hc : P.cellsOf t = cells.length) (hf : FC P W held 0 ((List.range m).map fun i => (e, i * P.cellsOf e)) Ds cells) : ToC P W held t (.agg Ds) cells := ⟨hc, fun fuel cs x hx hD => by
 obtain ⟨xs, n, rfl, h3, h4, h5, h6⟩ := DataW.trod_array ht hx
 rw [h3] at hD
 simp only [DataW.agg.injEq] at hD
 have := hf n cs (by rw [h4, hc]; omega) fun i f hi => by
  rw [List.getElem?_map] at hi
  obtain ⟨j, hj, rfl⟩ := Option.map_eq_some_iff.1 hi
  obtain ⟨hlt, hj2⟩ := List.getElem?_eq_some_iff.1 hj
  simp at hlt hj2
  subst hj2
  have h7 := h6 i hlt
  have hlt' : i < xs.length := by rw [h5]; exact hlt
  rw [List.getElem?_eq_getElem hlt'] at h7
  exact ⟨xs[i], h7, by rw [← hD]; simp [hlt']⟩
 rwa [List.drop_zero] at this⟩
theorem laid_mem : ∀ {L : List (String × DataW Unit)} {ps : List MemPlace}, DataW.LaidVars P W L ps → ∀ n d, (n, d) ∈ L → ∃ g t cs fuel p, P.globalNamed n = some g ∧ (P.globals[g]?).map (·.type) = some t ∧ W.var? P n = some cs ∧ DataW.trod (fun _ => ()) P W 0 (fun _ => true) false fuel t cs.toList = some (d, p)
 | (_, _) :: _, _, ⟨g, t, cs, fuel, p, _, h1, h2, h3, h4, _, _⟩, _, _, .head _ => ⟨g, t, cs, fuel, p, h1, h2, h3, h4⟩
 | (_, _) :: _, _, ⟨_, _, _, _, _, _, _, _, _, _, h, _⟩, n, d, .tail _ hm => laid_mem h n d hm
theorem glob_of_laid {L : List (String × DataW Unit)} (h : laidMet P L W) {n : String} {d : DataW Unit} (hm : (n, d) ∈ L) {g : Nat} {t : TypeId} {cells : List Value} (hg : P.globalNamed n = some g) (ht : (P.globals[g]?).map (·.type) = some t) (hc : ToC P W false t d cells) :
  ∃ c T fr, W.heap[g]? = some (.cells c T fr) ∧ c.toList.take cells.length = cells := by
 obtain ⟨ps, hL, _, _⟩ := h
 obtain ⟨g', t', cs, fuel, p, h1, h2, h3, h4⟩ := laid_mem hL n d hm
 obtain rfl := Option.some.inj (hg.symm.trans h1)
 obtain rfl := Option.some.inj (ht.symm.trans h2)
 have h5 := hc.2 fuel _ _ h4 rfl
 unfold World.var? at h3
 rw [hg] at h3
 simp only [Option.bind_some] at h3
 split at h3
 ·rename_i c T fr hb
  cases h3
  exact ⟨_, _, _, hb, by rw [h5, List.take_length]⟩
 ·cases h3
end
end Go.Proofs.YtegigakgcnhiaaaGreatDoor

namespace Go.Proofs.YtegigakgcnhiaaaGreatDoor
open Go

section
variable {E : En} {O : List OE} {G : Ctx} {dst : Option Tmp} {ty : TypeId} {pos : String} {after : Array Edge} {g : Option (Nat × Bool)}
end
end Go.Proofs.YtegigakgcnhiaaaGreatDoor

namespace Go.Proofs.YtegigakgcnhiaaaGreatDoor
open Go
section
variable {H : Type} {enc : TypeId × Value → H} {P : Program} {W : World}
end
end Go.Proofs.YtegigakgcnhiaaaGreatDoor

