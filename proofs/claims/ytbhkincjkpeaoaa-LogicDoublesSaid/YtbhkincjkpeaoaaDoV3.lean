/- Facts of this claim: W33, W34, W35, W36, W37, W38, W15, W29, W21, W27. -/
import Derived.Test.YtbhkincjkpeaoaaDoV2
import Derived.Test.YtbhkincjkpeaoaaDoV1
import Derived.Shelf.SlSortCmp.NoneTotal
import Derived.Shelf.Slices.In.SortNone
import Derived.ProofKit
namespace Go.Proofs.Ytbhkincjkpeaoaa
open Go

def slots0 (N : Nat) : List Nat → List Oper → Bool
  | _, [] => true
  | seen, o :: rest => match o.dst with
    | some d => Nat.blt d N && !(seen.any (Nat.beq d)) && slots0 N (d :: seen) rest
    | none => slots0 N seen rest
theorem slots0_spec {N : Nat} (l : List Oper) : ∀ (seen : List Nat), slots0 N seen l = true →
    (∀ o : Oper, o ∈ l → ∀ d, o.dst = some d → d < N ∧ d ∉ seen) ∧ ∀ (i j : Nat) (o p : Oper) (d : Nat), l[i]? = some o → l[j]? = some p → o.dst = some d → p.dst = some d → i = j := by
  induction l with
  | nil => exact fun _ _ => ⟨fun _ h => (by cases h), fun _ _ _ _ _ h => (by simp at h)⟩
  | cons o l ih =>
    intro seen h
    unfold slots0 at h
    cases hd : o.dst with
    | none =>
      rw [hd] at h
      obtain ⟨h1, h2⟩ := ih seen h
      refine ⟨fun q hq d hqd => ?_, fun i j p q d hi hj hp hq => ?_⟩
      · rcases List.mem_cons.1 hq with rfl | hq
        · rw [hd] at hqd; cases hqd
        · exact h1 q hq d hqd
      · cases i with
        | zero => simp at hi; subst hi; rw [hd] at hp; cases hp
        | succ i =>
          cases j with
          | zero => simp at hj; subst hj; rw [hd] at hq; cases hq
          | succ j => rw [h2 i j p q d (by simpa using hi) (by simpa using hj) hp hq]
    | some d0 =>
      rw [hd] at h
      simp only [Bool.and_eq_true, Nat.blt_eq, Bool.not_eq_true'] at h
      obtain ⟨⟨g1, g2⟩, g3⟩ := h
      obtain ⟨h1, h2⟩ := ih (d0 :: seen) g3
      have hns : d0 ∉ seen := fun hm => by
        have : seen.any (Nat.beq d0) = true := List.any_eq_true.2 ⟨d0, hm, Nat.beq_refl d0⟩
        rw [this] at g2; cases g2
      refine ⟨fun q hq d hqd => ?_, fun i j p q d hi hj hp hq => ?_⟩
      · rcases List.mem_cons.1 hq with rfl | hq
        · rw [hd] at hqd; cases hqd; exact ⟨g1, hns⟩
        · obtain ⟨k1, k2⟩ := h1 q hq d hqd
          exact ⟨k1, fun hm => k2 (List.mem_cons_of_mem _ hm)⟩
      · cases i with
        | zero =>
          cases j with
          | zero => rfl
          | succ j =>
            simp at hi; subst hi
            rw [hd] at hp; cases hp
            exact absurd (List.mem_cons_self ..) (h1 q (List.mem_of_getElem? (by simpa using hj)) d0 hq).2
        | succ i =>
          cases j with
          | zero =>
            simp at hj; subst hj
            rw [hd] at hq; cases hq
            exact absurd (List.mem_cons_self ..) (h1 p (List.mem_of_getElem? (by simpa using hi)) d0 hp).2
          | succ j => rw [h2 i j p q d (by simpa using hi) (by simpa using hj) hp hq]
def outF : List Oper → List Ty → Ctx → Ctx
  | o :: l, t :: ts, G => match o.dst with
    | some d => (d, t) :: outF l ts G
    | none => outF l ts G
  | _, _, G => G
theorem look_outF {G : Ctx} (l : List Oper) : ∀ (ts : List Ty) (k : Nat) (t : Ty), ts.length = l.length → look (outF l ts G) k = some t →
    (∃ (j : Nat) (o : Oper), l[j]? = some o ∧ o.dst = some k ∧ ts[j]? = some t) ∨ (look G k = some t ∧ ∀ o : Oper, o ∈ l → o.dst ≠ some k) := by
  induction l with
  | nil =>
    intro ts k t hl h
    have : ts = [] := List.eq_nil_of_length_eq_zero (by simpa using hl)
    subst this
    exact .inr ⟨h, fun _ h => (by cases h)⟩
  | cons o l ih =>
    intro ts k t hl h
    cases ts with
    | nil => simp at hl
    | cons u ts =>
      unfold outF at h
      have hl' : ts.length = l.length := by simpa using hl
      have lift : ((∃ (j : Nat) (p : Oper), l[j]? = some p ∧ p.dst = some k ∧ ts[j]? = some t) ∨ (look G k = some t ∧ ∀ p : Oper, p ∈ l → p.dst ≠ some k)) → o.dst ≠ some k →
          (∃ (j : Nat) (p : Oper), (o :: l)[j]? = some p ∧ p.dst = some k ∧ (u :: ts)[j]? = some t) ∨ (look G k = some t ∧ ∀ p : Oper, p ∈ o :: l → p.dst ≠ some k) := by
        rintro (⟨j, p, h1, h2, h3⟩ | ⟨h1, h2⟩) hne
        · exact .inl ⟨j + 1, p, by simpa using h1, h2, by simpa using h3⟩
        · exact .inr ⟨h1, fun p hp => (List.mem_cons.1 hp).elim (fun e => by subst e; exact hne) (h2 p)⟩
      cases hd : o.dst with
      | none =>
        rw [hd] at h
        exact lift (ih ts k t hl' h) (by rw [hd]; exact fun e => by cases e)
      | some d =>
        rw [hd] at h
        simp only at h
        unfold look at h
        by_cases hb : Nat.beq d k = true
        · rw [hb] at h
          have := Nat.eq_of_beq_eq_true hb
          subst this
          have e : u = t := by simpa using h
          subst e
          exact .inl ⟨0, o, rfl, hd, rfl⟩
        · rw [Bool.not_eq_true] at hb
          rw [hb] at h
          refine lift (ih ts k t hl' h) ?_
          rw [hd]
          intro e
          have : d = k := Option.some.inj e
          subst this
          simp at hb
abbrev TS := List Nat × (List OI → Ty)
def TS.at (p : TS) (σ : Nat → OI) : Ty := p.2 (p.1.map σ)
def tc (t : Ty) : TS := ([], fun _ => t)
def OmS (Ss : List ((Nat → OI) → List OE)) (c : Nat) (σ : Nat → OI) : List OE := match Ss[c]? with | some f => f σ | none => []
structure NS where
  slot : Nat
  ty : (Nat → OI) → Ty
  src : Option Nat
def NS.at (n : NS) (σ : Nat → OI) : Nd := ⟨n.slot, n.ty σ, n.src⟩
def NSOK (G : Ctx) (ts : List TS) (n : NS) : Prop :=
  match n.src with
  | some j => ∀ σ, (ts[j]?).map (fun p => p.at σ) = some (n.ty σ)
  | none => ∀ σ, look G n.slot = some (n.ty σ)
def NSsOK (G : Ctx) (ts : List TS) : List NS → Prop
  | [] => True
  | n :: l => NSOK G ts n ∧ NSsOK G ts l
theorem NSsOK.mem {G : Ctx} {ts : List TS} : ∀ {l : List NS}, NSsOK G ts l → ∀ n ∈ l, NSOK G ts n
  | _ :: _, ⟨h, _⟩, _, .head _ => h
  | _ :: _, ⟨_, h⟩, _, .tail _ hm => NSsOK.mem h _ hm
def needS (l : List NS) (σ : Nat → OI) : Ctx := needCtx (l.map (·.at σ))
def tsS (ts : List TS) (σ : Nat → OI) : List Ty := ts.map fun p => p.at σ
def depB (L : List Oper) (es : List Bool) (i : Nat) (p : TS) : Bool := p.1.all fun k => (es[k]?).getD false && (Nat.beq k i || reaches L L.length i k)
def winB (L : List Oper) (es : List Bool) (i lo hi : Nat) : Bool :=
  Nat.ble lo (ahead es es.length) && (List.range es.length).all fun k => !((es[k]?).getD false) || ((Nat.ble lo (ahead es k) || reaches L L.length i k) && (Nat.blt (ahead es k) hi || reaches L L.length k i))
def DS (E : En) (G : Ctx) (L : List Oper) (ts : List TS) (Ss : List ((Nat → OI) → List OE)) (es0 : List Bool) : Nat → Nat → List Oper → List Bool → Prop
  | _, _, [], _ => True
  | i, c, o :: rest, false :: es => (∃ (needs : List NS) (t : TS) (lo hi : Nat), ts[i]? = some t ∧ NSsOK G ts needs ∧ (needs.all fun n => srcB L o i (n.at fun _ => zoi)) = true ∧ edgesB i o = true ∧ depB L es0 i t = true ∧ winB L es0 i lo hi = true ∧ o.dst.isSome = true ∧
      ∀ c σ, lo ≤ c → c ≤ hi → OpG E (OmS Ss c σ) L.toArray (needS needs σ) o (t.at σ)) ∧ DS E G L ts Ss es0 (i + 1) c rest es
  | i, c, o :: rest, true :: es => (∃ (needs : List NS) (t : TS), ts[i]? = some t ∧ NSsOK G ts needs ∧ (needs.all fun n => srcB L o i (n.at fun _ => zoi)) = true ∧ edgesB i o = true ∧ depB L es0 i t = true ∧
      ∀ σ, EffG E L.toArray (OmS Ss c σ) (needS needs σ) o (fun x => OmS Ss (c + 1) (upd σ i x)) (fun x => t.at (upd σ i x))) ∧ DS E G L ts Ss es0 (i + 1) (c + 1) rest es
  | _, _, _ :: _, [] => False
theorem DS.get {E : En} {G : Ctx} {L : List Oper} {ts : List TS} {Ss : List ((Nat → OI) → List OE)} {es0 : List Bool} : ∀ (r : List Oper) (es : List Bool) (k c : Nat), DS E G L ts Ss es0 k c r es → ∀ (j : Nat) (o : Oper), r[j]? = some o →
    ∃ e, es[j]? = some e ∧ ∃ (needs : List NS) (t : TS), ts[k + j]? = some t ∧ NSsOK G ts needs ∧ (needs.all fun n => srcB L o (k + j) (n.at fun _ => zoi)) = true ∧ edgesB (k + j) o = true ∧ depB L es0 (k + j) t = true ∧
      (match e with
       | false => o.dst.isSome = true ∧ ∃ lo hi, winB L es0 (k + j) lo hi = true ∧ ∀ c σ, lo ≤ c → c ≤ hi → OpG E (OmS Ss c σ) L.toArray (needS needs σ) o (t.at σ)
       | true => ∀ σ, EffG E L.toArray (OmS Ss (c + ahead es j) σ) (needS needs σ) o (fun x => OmS Ss (c + ahead es j + 1) (upd σ (k + j) x)) (fun x => t.at (upd σ (k + j) x))) := by
  intro r
  induction r with
  | nil => intro es k c _ j o h; simp at h
  | cons p r ih =>
    intro es k c h j o ho
    cases es with
    | nil => exact h.elim
    | cons e es =>
      cases e with
      | false =>
        obtain ⟨⟨needs, t, lo, hi, g1, g2, g3, g4, g5, g6, g7, g8⟩, h2⟩ := h
        cases j with
        | zero =>
          simp at ho; subst ho
          exact ⟨false, rfl, needs, t, g1, g2, g3, g4, g5, g7, lo, hi, g6, g8⟩
        | succ j =>
          obtain ⟨e', g1, g2⟩ := ih es (k + 1) _ h2 j o (by simpa using ho)
          refine ⟨e', by simpa using g1, ?_⟩
          rw [show k + 1 + j = k + (j + 1) from by omega] at g2
          have e1 : c + ahead (false :: es) (j + 1) = c + ahead es j := by simp [ahead]
          rw [e1]; exact g2
      | true =>
        obtain ⟨h1, h2⟩ := h
        cases j with
        | zero =>
          simp at ho; subst ho
          exact ⟨true, rfl, h1⟩
        | succ j =>
          obtain ⟨e', g1, g2⟩ := ih es (k + 1) _ h2 j o (by simpa using ho)
          refine ⟨e', by simpa using g1, ?_⟩
          rw [show k + 1 + j = k + (j + 1) from by omega] at g2
          have e1 : c + ahead (true :: es) (j + 1) = c + 1 + ahead es j := by simp [ahead]; omega
          rw [e1]; exact g2
structure DJS (E : En) (G : Ctx) (l : List Oper) (ts : List TS) (Ss : List ((Nat → OI) → List OE)) (es : List Bool) (done : Array Bool) (a : Act) (w : World) (S : SH) (σ : Nat → OI) (c : Nat) : Prop where
  ext : Ext E.B E.w0 E.S0 w S
  sat : Sat w S
  own : Own E.base E.B w S (OmS Ss c σ)
  size : a.tmps.size = E.N.n
  defers : a.defers = E.N.ds
  dsz : done.size = l.length
  down : ∀ j o, l[j]? = some o → done.getD j false = true → ∀ e ∈ o.after, Region.binds .any e = true → done.getD e.on false = true
  old : ∀ k t, look G k = some t → (∀ j o, l[j]? = some o → done.getD j false = true → o.dst ≠ some k) → t.p S (a.tmps.getD k undef)
  new : ∀ j o d p, l[j]? = some o → done.getD j false = true → o.dst = some d → ts[j]? = some p → (p.at σ).p S (a.tmps.getD d undef)
  deps : ∀ j p, done.getD j false = true → ts[j]? = some p → ∀ k ∈ p.1, done.getD k false = true
  chain : ∀ k, es[k]? = some true → (done.getD k false = true ↔ ahead es k < c)
section
variable {E : En} {G : Ctx} {L : List Oper} {ts : List TS} {Ss : List ((Nat → OI) → List OE)} {es : List Bool}
theorem DJS.need {done : Array Bool} {a : Act} {w : World} {S : SH} {σ : Nat → OI} {c : Nat} (h : DJS E G L ts Ss es done a w S σ c) {i : Nat} {o : Oper} (hi : L[i]? = some o) (hun : done.getD i true = false)
    (hwait : ∀ e ∈ o.after, Region.binds .any e = true → done.getD e.on false = true) {needs : List NS} (h1 : NSsOK G ts needs) (h2 : (needs.all fun n => srcB L o i (n.at fun _ => zoi)) = true) : Facts E.N S a (needS needs σ) := by
  have hlt : i < done.size := by rw [h.dsz]; exact (List.getElem?_eq_some_iff.1 hi).1
  have hun' : done.getD i false = false := by
    simp [hlt] at hun ⊢; exact hun
  refine ⟨h.size, h.defers, ?_⟩
  have key : ∀ n ∈ needs, (n.ty σ).p S (a.tmps.getD n.slot undef) := by
    intro n hn
    have hs := List.all_eq_true.1 h2 n hn
    have ho := h1.mem n hn
    unfold srcB NS.at at hs
    unfold NSOK at ho
    cases hsrc : n.src with
    | some j =>
      rw [hsrc] at hs ho
      simp only [Bool.and_eq_true] at hs
      obtain ⟨hs1, hs2⟩ := hs
      cases hj : L[j]? with
      | none => rw [hj] at hs1; cases hs1
      | some p =>
        rw [hj] at hs1
        cases hd : p.dst with
        | none => simp only [hd] at hs1; cases hs1
        | some d =>
          simp only [hd] at hs1
          have hd' := Nat.eq_of_beq_eq_true hs1
          subst hd'
          have hdone : done.getD j false = true := by
            unfold waits at hs2
            obtain ⟨e, he0, hb⟩ := List.any_eq_true.1 hs2
            have he : e ∈ o.after := by simpa using he0
            simp only [Bool.and_eq_true] at hb
            have := hwait e he hb.2
            rwa [Nat.eq_of_beq_eq_true hb.1] at this
          have hm := ho σ
          cases hf : ts[j]? with
          | none => rw [hf] at hm; simp at hm
          | some f =>
            rw [hf] at hm
            have e : f.at σ = n.ty σ := by simpa using hm
            rw [← e]
            exact h.new j p n.slot f hj hdone hd hf
    | none =>
      rw [hsrc] at hs ho
      refine h.old _ _ (ho σ) fun j p hj hdone hd => ?_
      have := List.all_eq_true.1 hs p (List.mem_of_getElem? hj)
      simp only [hd, Nat.beq_refl, Bool.not_true, Bool.false_or] at this
      unfold waits at this
      obtain ⟨e, he0, hb⟩ := List.any_eq_true.1 this
      have he : e ∈ p.after := by simpa using he0
      simp only [Bool.and_eq_true] at hb
      have h3 := h.down j p hj hdone e he hb.2
      rw [Nat.eq_of_beq_eq_true hb.1] at h3
      rw [h3] at hun'
      cases hun'
  clear h1 h2
  intro k t hk
  unfold needS at hk
  induction needs with
  | nil => simp [needCtx, look] at hk
  | cons n needs ih =>
    simp only [List.map_cons] at hk
    unfold needCtx look at hk
    by_cases hb : Nat.beq n.slot k = true
    · have hb' : Nat.beq (n.at σ).slot k = true := hb
      rw [hb'] at hk
      have := Nat.eq_of_beq_eq_true hb
      subst this
      have h9 : some (n.at σ).ty = some t := by simpa using hk
      have e : n.ty σ = t := Option.some.inj h9
      rw [← e]
      exact key n (List.mem_cons_self ..)
    · rw [Bool.not_eq_true] at hb
      have hb' : Nat.beq (n.at σ).slot k = false := hb
      rw [hb'] at hk
      exact ih (fun m hm => key m (List.mem_cons_of_mem _ hm)) hk
theorem DJS.step {done : Array Bool} {a : Act} {w w' : World} {S S' : SH} {σ σ' : Nat → OI} {c c' : Nat} (h : DJS E G L ts Ss es done a w S σ c) {i : Nat} {o : Oper} {p0 : TS} {v : Value} {C : Nat → Prop} (hi : L[i]? = some o)
    (hdN : ∀ d, o.dst = some d → d < E.N.n) (hs2 : ∀ d, o.dst = some d → ∀ j p, L[j]? = some p → done.getD j false = true → p.dst = some d → i = j)
    (hwait : ∀ e ∈ o.after, Region.binds .any e = true → done.getD e.on false = true) (ht : ts[i]? = some p0) (hun : done.getD i true = false) (hdep : ∀ k ∈ p0.1, k = i ∨ done.getD k false = true)
    (hext : Ext C w S w' S') (hC : ∀ b, C b → E.base ≤ b ∨ E.B b) (hsat : Sat w' S') (hown : Own E.base E.B w' S' (OmS Ss c' σ')) (hσ : ∀ k, k ≠ i → σ' k = σ k) (hv : (p0.at σ').p S' v) (hch : ∀ k, es[k]? = some true → ((done.setIfInBounds i true).getD k false = true ↔ ahead es k < c')) :
    DJS E G L ts Ss es (done.setIfInBounds i true) (a.put o.dst v) w' S' σ' c' := by
  have hlt : i < done.size := by rw [h.dsz]; exact (List.getElem?_eq_some_iff.1 hi).1
  have hset : ∀ j, (done.setIfInBounds i true).getD j false = true → j = i ∨ done.getD j false = true := fun j hj => by
    by_cases hij : i = j
    · exact .inl hij.symm
    · rw [getD_set_ne false hij] at hj; exact .inr hj
  have hseti : (done.setIfInBounds i true).getD i false = true := by simp [hlt]
  have hun' : done.getD i false = false := by simp [hlt] at hun ⊢; exact hun
  have hput : ∀ k, (∀ d, o.dst = some d → d ≠ k) → (a.put o.dst v).tmps.getD k undef = a.tmps.getD k undef := fun k hk => by
    cases hd : o.dst with
    | none => rfl
    | some d =>
      have hda : d < a.tmps.size := by rw [h.size]; exact hdN d hd
      rw [put_get hda, if_neg (hk d hd)]
  refine ⟨h.ext.step hext hC, hsat, hown, ?_, ?_, by simp [h.dsz], fun j p hj hdone e he hb => ?_, fun k u hk hno => ?_, fun j p d' u hj hdone hd' hu => ?_, fun j u hj hu k hk => ?_, hch⟩
  · cases o.dst with
    | none => exact h.size
    | some d => simp [Act.put, h.size]
  · cases o.dst with
    | none => exact h.defers
    | some d => exact h.defers
  · rcases hset j hdone with rfl | hj'
    · rw [hi] at hj
      have : o = p := by simpa using hj
      subst this
      exact getD_set_true (hwait e he hb)
    · exact getD_set_true (h.down j p hj hj' e he hb)
  · rw [hput k fun d hd e => hno i o hi hseti (by rw [hd, e])]
    exact u.mono hext.keep (h.old k u hk fun j p hj hdone => hno j p hj (getD_set_true hdone))
  · by_cases hij : j = i
    · subst hij
      rw [hi] at hj
      have : o = p := by simpa using hj
      subst this
      have hda : d' < a.tmps.size := by rw [h.size]; exact hdN d' hd'
      rw [hd', put_get hda, if_pos rfl]
      rw [ht] at hu
      have : p0 = u := by simpa using hu
      subst this
      exact hv
    · have hj' := (hset j hdone).resolve_left hij
      rw [hput d' fun d hd e => by subst e; exact hij (hs2 d hd j p hj hj' hd').symm]
      have e1 : u.at σ' = u.at σ := congrArg u.2 (List.map_congr_left fun k hk => hσ k fun e => by
          subst e
          rw [h.deps j u hj' hu k hk] at hun'; cases hun')
      rw [e1]
      exact Ty.mono _ hext.keep (h.new j p d' u hj hj' hd' hu)
  · rcases hset j hj with rfl | hj'
    · rw [ht] at hu
      have : p0 = u := by simpa using hu
      subst this
      rcases hdep k hk with rfl | h'
      · exact hseti
      · exact getD_set_true h'
    · exact getD_set_true (h.deps j u hj' hu k hk)
end
theorem wpAny_drawS {E : En} {G : Ctx} {l t : List Oper} {ts : List TS} {Ss : List ((Nat → OI) → List OE)} {es : List Bool} {Q : Exit → Act → World → Prop} (hsl : slots0 E.N.n [] l = true) (hlen : ts.length = l.length) (hesl : es.length = l.length)
    (hd : DS E G (l ++ t) ts Ss es 0 0 l es) (hch : chainB (l ++ t) es = true) (ht : tailB (l ++ t) l.length t.length = true)
    (hQ : ∀ a w S σ, St E (OmS Ss (ahead es es.length) σ) (outF l (tsS ts σ) G) a w S → wpListIn (fw E.r) 0 E.P (l ++ t).toArray Q t a w) :
    ∀ (fuel : Nat) (done : Array Bool) (a : Act) (w : World) (S : SH) (σ : Nat → OI) (c : Nat), undone done = fuel → (∀ j, l.length ≤ j → done.getD j false = false) → c ≤ ahead es es.length → DJS E G (l ++ t) ts Ss es done a w S σ c → wpAnyIn (fw E.r) 0 E.P .any (l ++ t).toArray Q fuel done a w := by
  have hL1 : ∀ i o, i < l.length → (l ++ t)[i]? = some o → l[i]? = some o := fun i o hi h => by rwa [List.getElem?_append_left hi] at h
  have hL2 : ∀ i o, l[i]? = some o → (l ++ t)[i]? = some o := fun i o h => by rw [List.getElem?_append_left (List.getElem?_eq_some_iff.1 h).1]; exact h
  have htail : ∀ m o, l.length ≤ m → (l ++ t)[m]? = some o → coverB (l ++ t) m = true ∧ edgesB m o = true := fun m o hm ho => by
    have hml : m < (l ++ t).length := (List.getElem?_eq_some_iff.1 ho).1
    rw [List.length_append] at hml
    unfold tailB at ht
    have := List.all_eq_true.1 ht (m - l.length) (by simp; omega)
    rw [show l.length + (m - l.length) = m from by omega, ho] at this
    simp only [Bool.and_eq_true] at this
    exact ⟨this.1, this.2.1⟩
  have hget := fun i o (hi : l[i]? = some o) => DS.get l es 0 0 hd i o hi
  have hedge : ∀ i o, (l ++ t)[i]? = some o → edgesB i o = true := fun i o hi => by
    rcases Nat.lt_or_ge i l.length with h | h
    · obtain ⟨_, _, _, _, _, _, _, h, _⟩ := hget i o (hL1 i o h hi)
      simpa using h
    · exact (htail i o h hi).2
  obtain ⟨hs1, hs2⟩ := slots0_spec l [] hsl
  have fin : ∀ fuel done a w S σ c, undone done = fuel → (∀ j, l.length ≤ j → done.getD j false = false) → c ≤ ahead es es.length → DJS E G (l ++ t) ts Ss es done a w S σ c → (∀ i, i < l.length → done.getD i false = true) → wpAnyIn (fw E.r) 0 E.P .any (l ++ t).toArray Q fuel done a w := by
    intro fuel done a w S σ c hu hfree hcle h hall
    have hcc : c = ahead es es.length := by
      rcases Nat.lt_or_ge c (ahead es es.length) with hlt | hge
      · obtain ⟨i, h1, h2, h3⟩ := ahead_find hlt
        have := (h.chain i h2).1 (hall i (by omega))
        omega
      · omega
    subst hcc
    refine wpAny_tail (n := l.length) (fun m o hm ho => (htail m o hm ho).1) hedge t l.length done fuel a w (Nat.le_refl _) (by simp) h.dsz (fun j hj => ⟨fun hjd => ?_, fun hlt => hall j hlt⟩) hu
      (hQ a w S σ ⟨h.ext, h.sat, h.own, h.size, h.defers, fun j u hj => ?_⟩)
    · rcases Nat.lt_or_ge j l.length with h' | h'
      · exact h'
      · rw [hfree j h'] at hjd; cases hjd
    · rcases look_outF l (tsS ts σ) j u (by unfold tsS; rw [List.length_map]; exact hlen) hj with ⟨i, o, h1, h2, h3⟩ | ⟨h1, h2⟩
      · unfold tsS at h3
        rw [List.getElem?_map] at h3
        cases hf : ts[i]? with
        | none => rw [hf] at h3; simp at h3
        | some f =>
          rw [hf] at h3
          have e : f.at σ = u := by simpa using h3
          rw [← e]
          exact h.new i o j f (hL2 i o h1) (hall i (List.getElem?_eq_some_iff.1 h1).1) h2 hf
      · refine h.old j u h1 fun i o ho hdn => ?_
        rcases Nat.lt_or_ge i l.length with h' | h'
        · exact h2 o (List.mem_of_getElem? (hL1 i o h' ho))
        · rw [hfree i h'] at hdn; cases hdn
  have lower : ∀ done a w S σ c i, (∀ j, l.length ≤ j → done.getD j false = false) → DJS E G (l ++ t) ts Ss es done a w S σ c → i ∈ Region.ready .any (l ++ t).toArray done → l.length ≤ i → ∀ j, j < l.length → done.getD j false = true := by
    intro done a w S σ c i hfree h hi hge j hj
    obtain ⟨hun, p, hp, hwait⟩ := mem_ready.1 hi
    have hp' : (l ++ t)[i]? = some p := by simpa using hp
    have hcov := (htail i p hge hp').1
    unfold coverB at hcov
    have hre := List.all_eq_true.1 hcov j (by simp; omega)
    exact reaches_done h.down _ i j (fun q hq e he hb => by
      have : q = p := by rw [hp'] at hq; simpa using hq.symm
      subst this
      exact hwait e he hb) hre
  have hchain : ∀ i j, j < i → es[i]? = some true → es[j]? = some true → reaches (l ++ t) (l ++ t).length i j = true := fun i j hij h1 h2 => by
    unfold chainB at hch
    have hil : i < es.length := (List.getElem?_eq_some_iff.1 h1).1
    have := List.all_eq_true.1 (List.all_eq_true.1 hch i (by simpa using hil)) j (by simpa using hij)
    rw [h1, h2] at this
    simpa using this
  intro fuel
  induction fuel with
  | zero =>
    intro done a w S σ c hu hfree hcle h
    exact fin 0 done a w S σ c hu hfree hcle h fun i hi => undone_zero hu (by rw [h.dsz, List.length_append]; omega)
  | succ fuel ih =>
    intro done a w S σ c hu hfree hcle h
    by_cases hall : ∀ i, i < l.length → done.getD i false = true
    · exact fin _ done a w S σ c hu hfree hcle h hall
    have hready0 : ∀ m i, i < m → i < l.length → Region.ready .any (l ++ t).toArray done = [] → done.getD i false = true := by
      intro m
      induction m with
      | zero => intro i h; omega
      | succ m ihm =>
        intro i him hil hr
        have his : i < done.size := by rw [h.dsz, List.length_append]; omega
        by_cases hdn : done.getD i true = true
        · rw [← getD_flip his]; exact hdn
        · exfalso
          obtain ⟨o, ho⟩ : ∃ o, (l ++ t)[i]? = some o := ⟨l[i], hL2 i _ (List.getElem?_eq_getElem hil)⟩
          have hmem : i ∈ Region.ready .any (l ++ t).toArray done := by
            rw [mem_ready]
            refine ⟨by simpa using hdn, o, by simpa using ho, fun e he hb => ?_⟩
            have := hedge i o ho
            unfold edgesB at this
            have := List.all_eq_true.1 this e (by simpa using he)
            simp only [hb, Bool.not_true, Bool.false_or, Nat.blt_eq] at this
            exact ihm e.on (by omega) (by omega) hr
          rw [hr] at hmem; cases hmem
    refine ⟨fun hr => absurd (fun i hi => hready0 (i + 1) i (by omega) hi hr) hall, fun i hi => ?_⟩
    have hil : i < l.length := by
      rcases Nat.lt_or_ge i l.length with h' | h'
      · exact h'
      · exact absurd (lower done a w S σ c i hfree h hi h') hall
    obtain ⟨hun, o, ho, hwait⟩ := mem_ready.1 hi
    have ho' : (l ++ t)[i]? = some o := by simpa using ho
    have hol := hL1 i o hil ho'
    obtain ⟨e, he, needs, u, h1, h2, h3, _, h4, h5⟩ := hget i o hol
    rw [Nat.zero_add] at h1 h3 h4
    have hF := h.need ho' hun hwait h2 h3
    have his : i < done.size := by rw [h.dsz, List.length_append]; omega
    have hun' : done.getD i false = false := by rw [← getD_flip his]; exact hun
    have hu' : undone (done.setIfInBounds i true) = fuel := by have := undone_set hun; omega
    have huq : ∀ d, o.dst = some d → ∀ j p, (l ++ t)[j]? = some p → done.getD j false = true → p.dst = some d → i = j := fun d hdd j p hj hjd hpd => by
      rcases Nat.lt_or_ge j l.length with h' | h'
      · exact hs2 i j o p d hol (hL1 j p h' hj) hdd hpd
      · rw [hfree j h'] at hjd; cases hjd
    have hfree' : ∀ j, l.length ≤ j → (done.setIfInBounds i true).getD j false = false := fun j hj => by
      rw [getD_set_ne false (by omega)]; exact hfree j hj
    have hbl : E.base ≤ w.heap.size := h.ext.size
    have hwaits : ∀ q, (l ++ t)[i]? = some q → ∀ e ∈ q.after, Region.binds .any e = true → done.getD e.on false = true := fun q hq e he hb => by
      have : q = o := by rw [ho'] at hq; simpa using hq.symm
      subst this
      exact hwait e he hb
    have hdpp : ∀ k ∈ u.1, k = i ∨ done.getD k false = true := fun k hk => by
      have := List.all_eq_true.1 h4 k hk
      simp only [Bool.and_eq_true, Bool.or_eq_true] at this
      rcases this.2 with hb | hb
      · exact .inl (Nat.eq_of_beq_eq_true hb)
      · exact .inr (reaches_done h.down _ i k hwaits hb)
    have hdNN : ∀ d, o.dst = some d → d < E.N.n := fun d hd => (hs1 o (List.mem_of_getElem? hol) d hd).1
    unfold wpOpIn
    rw [ho]
    show if _ then _ else _
    cases e with
    | false =>
      simp only at h5
      obtain ⟨hdS, lo, hi', hwin, h5⟩ := h5
      rw [Nat.zero_add] at hwin
      obtain ⟨d, hdd⟩ := Option.isSome_iff_exists.1 hdS
      have hdN := (hs1 o (List.mem_of_getElem? hol) d hdd).1
      unfold winB at hwin
      rw [Bool.and_eq_true] at hwin
      obtain ⟨hw1, hw2⟩ := hwin
      have hw1' := Nat.le_of_ble_eq_true hw1
      have hwk : ∀ k, es[k]? = some true → (Nat.ble lo (ahead es k) = true ∨ reaches (l ++ t) (l ++ t).length i k = true) ∧ (Nat.blt (ahead es k) hi' = true ∨ reaches (l ++ t) (l ++ t).length k i = true) := fun k hk => by
        have hkl : k < es.length := (List.getElem?_eq_some_iff.1 hk).1
        have := List.all_eq_true.1 hw2 k (by simpa using hkl)
        rw [hk] at this
        simpa using this
      have hlo : lo ≤ c := by
        rcases Nat.lt_or_ge c lo with hlt | hge
        · exfalso
          obtain ⟨k, hk1, hk2, hk3⟩ := ahead_find (es := es) (c := c) (k := es.length) (by omega)
          rcases (hwk k hk2).1 with hb | hb
          · have := Nat.le_of_ble_eq_true hb; omega
          · have := (h.chain k hk2).1 (reaches_done h.down _ i k hwaits hb)
            omega
        · exact hge
      have hhi : c ≤ hi' := by
        rcases Nat.lt_or_ge hi' c with hlt | hge
        · exfalso
          obtain ⟨k, hk1, hk2, hk3⟩ := ahead_find (es := es) (c := hi') (k := es.length) (by omega)
          rcases (hwk k hk2).2 with hb | hb
          · simp only [Nat.blt_eq] at hb; omega
          · have hkd : done.getD k false = true := (h.chain k hk2).2 (by omega)
            have := reaches_done h.down _ k i (fun q hq e he hb => h.down k q hq hkd e he hb) hb
            rw [this] at hun'; cases hun'
        · exact hge
      have h6 := h5 c σ hlo hhi a w S h.sat h.own hF
      have hch' : ∀ k, es[k]? = some true → ((done.setIfInBounds i true).getD k false = true ↔ ahead es k < c) := fun k hk => by
        have hne : i ≠ k := fun e => by subst e; rw [he] at hk; cases hk
        rw [getD_set_ne false hne]; exact h.chain k hk
      by_cases hw : Region.wanted o (yielded (l ++ t).toArray a.tmps) = true
      · rw [if_pos hw] at h6 ⊢
        refine wpIn_of_opWp (fun a' w' ⟨v, S', ha, hx, hs, hv⟩ => ?_) h6
        subst ha
        exact ih _ _ _ S' _ c hu' hfree' hcle (h.step ho' hdNN huq hwait h1 hun hdpp hx (fun _ hb => hb.elim) hs (h.own.ext0 hx) (fun _ _ => rfl) hv hch')
      · rw [if_neg hw] at h6 ⊢
        exact ⟨fun _ _ => trivial, ih _ _ _ S _ c hu' hfree' hcle (h.step ho' hdNN huq hwait h1 hun hdpp (Ext.refl noB _ _) (fun _ hb => hb.elim) h.sat h.own (fun _ _ => rfl) h6 hch')⟩
    | true =>
      simp only [Nat.zero_add] at h5
      -- it is the next one of the chain
      have hca : ahead es i = c := by
        have hn : ¬ ahead es i < c := fun hlt => by rw [(h.chain i he).2 hlt] at hun'; cases hun'
        rcases Nat.lt_or_ge c (ahead es i) with hlt | hge
        · exfalso
          obtain ⟨k, hk1, hk2, hk3⟩ := ahead_find hlt
          have hkd : done.getD k false = true := reaches_done h.down _ i k hwaits (hchain i k hk1 he hk2)
          have := (h.chain k hk2).1 hkd
          omega
        · omega
      subst hca
      have h6 := h5 σ a w S h.sat h.own hF hbl
      have hch' : ∀ k, es[k]? = some true → ((done.setIfInBounds i true).getD k false = true ↔ ahead es k < ahead es i + 1) := fun k hk => by
        by_cases hik : i = k
        · subst hik
          constructor
          · intro _; omega
          · intro _; simp [his]
        · rw [getD_set_ne false hik, h.chain k hk]
          constructor
          · intro h; omega
          · intro hlt
            rcases Nat.lt_or_ge i k with hlk | hlk
            · have := ahead_lt hlk he; omega
            · exact ahead_lt (by omega) hk
      have hcle' : ahead es i + 1 ≤ ahead es es.length := ahead_lt (by omega) he
      by_cases hw : Region.wanted o (yielded (l ++ t).toArray a.tmps) = true
      · rw [if_pos hw] at h6 ⊢
        refine wpIn_of_opWp (fun a' w' ⟨v, S', x, ha, hx, hs, hown, hv⟩ => ?_) h6
        subst ha
        exact ih _ _ _ S' _ _ hu' hfree' hcle' (h.step ho' hdNN huq hwait h1 hun hdpp hx (fun b ⟨f, hf, hb⟩ => (Own.mem h.own f hf).2 b hb) hs hown (fun k hk => upd_ne σ x hk) hv hch')
      · rw [if_neg hw] at h6 ⊢
        obtain ⟨x, hown, hv⟩ := h6
        exact ⟨fun _ _ => trivial, ih _ _ _ S _ _ hu' hfree' hcle' (h.step ho' hdNN huq hwait h1 hun hdpp (Ext.refl noB _ _) (fun _ hb => hb.elim) h.sat hown (fun k hk => upd_ne σ x hk) hv hch')⟩
theorem CG.drawS {E : En} {O : List OE} {G : Ctx} {Q : Exit → Act → World → Prop} {id : Nat} {L : List Oper} (m : Nat) (ts : List TS) (es : List Bool) (Ss : List ((Nat → OI) → List OE)) (hO : Ss[0]? = some fun _ => O) (hm : E.P.follows .mixedOrders = true) (hsl : slots0 E.N.n [] (L.take m) = true) (hlen : ts.length = (L.take m).length) (hesl : es.length = (L.take m).length)
    (hch : chainB L es = true) (ht : tailB L (L.take m).length (L.drop m).length = true)
    (hd : DS E G L ts Ss es 0 0 (L.take m) es) (k : ∀ σ : Nat → OI, RG E L.toArray Q (L.drop m) (OmS Ss (ahead es es.length) σ) (outF (L.take m) (tsS ts σ) G)) : CG E Q (.region id L.toArray true) O G := fun a w S st => by
  have hL : L = L.take m ++ L.drop m := (List.take_append_drop m L).symm
  generalize L.take m = l at hL hsl hlen hesl ht hd k
  generalize L.drop m = t at hL ht k
  subst hL
  refine wpIn_region_any hm ?_
  obtain ⟨he, hs⟩ := Ext.draw (w := w) st.sat
  have hO0 : OmS Ss 0 (fun _ => zoi) = O := by unfold OmS; rw [hO]
  refine wpAny_drawS hsl hlen hesl hd hch ht (fun a w S σ st => k σ a w S st) _ _ _ _ S (fun _ => zoi) 0 ?_ (fun j _ => ?_) (Nat.zero_le _)
    ⟨st.ext.step0 he, hs, by rw [hO0]; exact st.own.ext0 he, st.facts.size, st.facts.defers, by simp, fun j o hj hdone => ?_, fun k t hk _ => st.facts.at_ k t hk, fun j o d t hj hdone => ?_, fun j p hdone => ?_, fun k _ => ⟨fun hdone => ?_, fun h => (by omega)⟩⟩
  · unfold undone; rw [Array.toList_replicate, List.countP_replicate]; simp
  · simp [Array.getElem?_replicate]; split <;> rfl
  · simp [Array.getElem?_replicate] at hdone
    split at hdone <;> simp at hdone
  · simp [Array.getElem?_replicate] at hdone
    split at hdone <;> simp at hdone
  · simp [Array.getElem?_replicate] at hdone
    split at hdone <;> simp at hdone
  · simp [Array.getElem?_replicate] at hdone
    split at hdone <;> simp at hdone
theorem win1 {p : Nat → (Nat → OI) → Prop} {lo : Nat} (h : ∀ σ, p lo σ) : ∀ c σ, lo ≤ c → c ≤ lo → p c σ := fun c σ h1 h2 => by
  have : c = lo := by omega
  subst this; exact h σ
theorem winS {p : Nat → (Nat → OI) → Prop} {lo hi : Nat} (h : ∀ σ, p lo σ) (k : ∀ c σ, lo + 1 ≤ c → c ≤ hi → p c σ) : ∀ c σ, lo ≤ c → c ≤ hi → p c σ := fun c σ h1 h2 => by
  by_cases e : c = lo
  · subst e; exact h σ
  · exact k c σ (by omega) h2
theorem eff_none {E : En} {O : List OE} {G : Ctx} {op : Op} {ty : TypeId} {pos : String} {after : Array Edge} {g : Option (Nat × Bool)} {post : OI → List OE} (hnd : ∀ c, op ≠ .defer c) (h : ∀ a w S, Sat w S → Own E.base E.B w S O → Facts E.N S a G → E.base ≤ w.heap.size → ∃ w' S' x, (execOp a.eval ⟨none, op, ty, pos, after, g⟩).run E.P w = .ok .skip w' ∧ Ext (fpB O) w S w' S' ∧ Sat w' S' ∧ Own E.base E.B w' S' (post x)) :
    EffOK E O G ⟨none, op, ty, pos, after, g⟩ post (fun _ => tAny) := fun a w S hs ho hf hb => by
  obtain ⟨w', S', x, h1, h2, h3, h4⟩ := h a w S hs ho hf hb
  refine ⟨hnd, ?_⟩
  rw [h1]
  exact ⟨undef, S', x, rfl, h2, h3, h4, trivial⟩
end Go.Proofs.Ytbhkincjkpeaoaa

namespace Go.Proofs.Ytbhkincjkpeaoaa
open Go

abbrev HL := List (Nat × Value)
def hlook : HL → Nat → Option Value
  | [], _ => none
  | p :: hs, o => bif Nat.beq p.1 o then some p.2 else hlook hs o
theorem hlook_mem : ∀ {hs : HL} {o : Nat} {v : Value}, hlook hs o = some v → (o, v) ∈ hs
  | [], _, _, h => by cases h
  | p :: hs, o, v, h => by
    unfold hlook at h
    by_cases hb : Nat.beq p.1 o = true
    · rw [hb] at h
      have e1 := Nat.eq_of_beq_eq_true hb
      have e2 : p.2 = v := Option.some.inj h
      subst e1 e2
      exact List.mem_cons_self ..
    · rw [Bool.not_eq_true] at hb
      rw [hb] at h
      exact List.mem_cons_of_mem _ (hlook_mem h)
def rH {α : Type} (r : Rp α) (hs : HL) : Rp α where
  sz := r.sz
  agg := r.agg
  rc := fun S cs x => r.rc S cs x ∧ ∀ p ∈ hs, cs[p.1]? = some p.2
  mono := fun h k => ⟨r.mono h k.1, k.2⟩
  len := fun k => r.len k.1
  one := fun k => r.one k.1
  sc := r.sc
theorem fldH {α β : Type} {r : Rp α} {q : Rp β} {hs : HL} {off : Nat} {get : α → β} (h : Fld r off q get) : Fld (rH r hs) off q get := fun S cs x k => h S cs x k.1
theorem cell_part {cs : List Value} {off : Nat} {v : Value} (h : cs[off]? = some v) : (cs.drop off).take 1 = [v] := by
  have hlt := (List.getElem?_eq_some_iff.1 h).1
  rw [List.drop_eq_getElem_cons hlt, (List.getElem?_eq_some_iff.1 h).2]
  rfl
theorem fldV {α : Type} {r : Rp α} {hs : HL} {off : Nat} {v : Value} (h : hlook hs off = some v) : Fld (rH r hs) off rV (fun _ => v) := fun S cs x k => by
  have h1 := k.2 _ (hlook_mem h)
  exact ⟨cell_part h1, r.one k.1 v (List.mem_of_getElem? h1)⟩
def HZ (z : List Value) : HL → Prop
  | [] => True
  | p :: hs => z[p.1]? = some p.2 ∧ HZ z hs
theorem HZ.all {z : List Value} : ∀ {hs : HL}, HZ z hs → ∀ p ∈ hs, z[p.1]? = some p.2
  | _ :: _, ⟨h, _⟩, _, .head _ => h
  | _ :: _, ⟨_, h⟩, _, .tail _ hm => HZ.all h _ hm
theorem zH {α : Type} {r : Rp α} {z : List Value} {x : α} {hs : HL} (h : ∀ S, r.rc S z x) (k : HZ z hs) : ∀ S, (rH r hs).rc S z x := fun S => ⟨h S, k.all⟩
def hapart (hs : HL) (off sz : Nat) : Bool := hs.all fun p => Nat.blt p.1 off || Nat.ble (off + sz) p.1
def HOK (hs : HL) (off sz : Nat) (v : Option Value) : HL → Prop
  | [] => True
  | p :: l => ((v = some p.2 ∧ p.1 = off ∧ sz = 1) ∨ (hlook hs p.1 = some p.2 ∧ (Nat.blt p.1 off || Nat.ble (off + sz) p.1) = true)) ∧ HOK hs off sz v l
theorem HOK.all {hs : HL} {off sz : Nat} {v : Option Value} : ∀ {l : HL}, HOK hs off sz v l → ∀ p ∈ l, (v = some p.2 ∧ p.1 = off ∧ sz = 1) ∨ (hlook hs p.1 = some p.2 ∧ (Nat.blt p.1 off || Nat.ble (off + sz) p.1) = true)
  | _ :: _, ⟨h, _⟩, _, .head _ => h
  | _ :: _, ⟨_, h⟩, _, .tail _ hm => HOK.all h _ hm
theorem cells_apart {cs ds : List Value} {off sz k : Nat} (hl : ds.length = sz) (hoff : off + sz ≤ cs.length) (h : (Nat.blt k off || Nat.ble (off + sz) k) = true) : (cs.take off ++ ds ++ cs.drop (off + sz))[k]? = cs[k]? := by
  simp only [Bool.or_eq_true, Nat.blt_eq, Nat.ble_eq] at h
  have ht : (cs.take off).length = off := by simp; omega
  rcases h with h | h
  · rw [List.getElem?_append_left (by simp; omega), List.getElem?_append_left (by omega), List.getElem?_take_of_lt h]
  · rw [List.getElem?_append_right (by simp; omega), List.getElem?_drop]
    congr 1
    simp only [List.length_append, ht, hl]; omega
theorem cells_at {cs ds : List Value} {off : Nat} {v : Value} (hd : ds = [v]) (hoff : off + 1 ≤ cs.length) : (cs.take off ++ ds ++ cs.drop (off + 1))[off]? = some v := by
  subst hd
  have ht : (cs.take off).length = off := by simp; omega
  rw [List.getElem?_append_left (by simp; omega), List.getElem?_append_right (by omega), ht, Nat.sub_self]
  rfl
theorem sfldH {α β : Type} {r : Rp α} {q : Rp β} {hs : HL} {off : Nat} {set : α → β → α} (h : SFld r off q set) (hk : hapart hs off q.sz = true) (hoff : Nat.ble (off + q.sz) r.sz = true) : SFld (rH r hs) off q set := fun S cs x ds y h1 h2 => by
  refine ⟨h S cs x ds y h1.1 h2, fun p hp => ?_⟩
  have hl := r.len h1.1
  rw [cells_apart (q.len h2) (by have := Nat.le_of_ble_eq_true hoff; omega) (List.all_eq_true.1 hk p hp)]
  exact h1.2 _ hp
def rU : Rp Unit where
  sz := 1
  agg := false
  rc := fun _ cs _ => ∃ v, cs = [v] ∧ v.oneCell' = true
  mono := fun _ h => h
  len := fun ⟨v, h, _⟩ => by rw [h]; rfl
  one := fun ⟨v, h, k⟩ c hc => by rw [h] at hc; simp at hc; subst hc; exact k
  sc := fun _ => rfl
theorem hU {N : Fr} {G : Ctx} {x : Operand} {u : Value} (h : HasTy N G x (tV u)) (ho : u.oneCell' = true) : HasTy N G x (tD rU ()) := fun S a hf => by
  have h1 : a.eval x = u := h S a hf
  rw [h1]
  exact ⟨[u], rfl, u, rfl, ho⟩

section
variable {E : En} {O : List OE} {G : Ctx} {Q : Exit → Act → World → Prop} {ops : Array Oper} {rest : List Oper} {c : Code} {e : Exit}
section
variable {ty : TypeId} {pos : String} {after : Array Edge} {g : Option (Nat × Bool)}
theorem RG.eff0 {op : Op} {post : OI → List OE} {t : OI → Ty} (h : EffOK E O G ⟨none, op, ty, pos, after, none⟩ post t) (k : ∀ x, RG E ops Q rest (post x) G) : RG E ops Q (⟨none, op, ty, pos, after, none⟩ :: rest) O G := .of rfl fun a w S st =>
  opWp_mono (fun a' w' ⟨v, S', x, ha, hx, hs, ho, hv⟩ => by
    subst ha
    exact k x _ _ S' ⟨st.ext.step hx fun b ⟨f, hf, hb⟩ => (Own.mem st.own f hf).2 b hb, hs, ho, st.facts.mono hx.keep⟩) (h a w S st.sat st.own st.facts st.base_le)
theorem eff_storeX {α β γ : Type} {r : Rp α} {r' : Rp γ} {q : Rp β} {x : α} {x' : γ} {y : β} {T U : TypeId} {b off sz bytes : Nat} {agg : Bool} {z : List Value} {p v : Operand} (ti : TI E.P U sz bytes agg z) (hsz : q.sz = sz) (hset : SFldX r r' off q x y x') (hoff : Nat.ble (off + q.sz) r.sz = true)
    (hp : HasTy E.N G p (tV (bptr b off))) (hv : HasTy E.N G v (tD q y)) : EffOK E (bx r T b x :: O) G ⟨none, .store U p v, ty, pos, after, g⟩ (fun _ => bx r' T b x' :: O) (fun _ => tAny) := eff_none (fun _ h => (by cases h)) fun a w S hs ho hf hb => by
  have h1 : a.eval p = bptr b off := hp S a hf
  obtain ⟨ds, h2, h3⟩ := hv S a hf
  obtain ⟨⟨hno, cur, h5, h6⟩, _⟩ := ho.1
  have hl := r.len h6
  have hoff' := Nat.le_of_ble_eq_true hoff
  obtain ⟨w', hr, e1, e2, e3, e4, e5, e6⟩ := run_storeVar_at ti hsz h3 h5 (off := off) (by simp at hl; omega)
  have hrun : (execOp a.eval ⟨none, .store U p v, ty, pos, after, g⟩).run E.P w = .ok .skip w' := by
    simp [execOp, h1, h2, Instr.storeAt, bptr, Instr.sureAddr, hr]
  obtain ⟨g1, g2, g3⟩ := own_write (O := O) hs (bx r T b x) (bx r' T b x') ho (fun _ => Iff.rfl) (fun _ => Iff.rfl) ⟨e1, e2, e3, e4.1, e4.2⟩ e6 ⟨hno, _, e5, by simpa using hset S _ _ h6 h3⟩ hno
  exact ⟨w', S, zoi, hrun, g1.more fun k hk => ⟨_, List.mem_cons_self .., hk⟩, g2, g3⟩
theorem eff_storeH {α β : Type} {r : Rp α} {q : Rp β} {set : α → β → α} {hs hs' : HL} {x : α} {y : β} {u : Value} {T U : TypeId} {b off bytes : Nat} {z : List Value} {p v : Operand} (ti : TI E.P U 1 bytes false z) (hsz : q.sz = 1) (hag : q.agg = false) (hset : SFld r off q set) (hoff : Nat.ble (off + 1) r.sz = true) (hk : HOK hs off 1 (some u) hs')
    (hp : HasTy E.N G p (tV (bptr b off))) (hv : HasTy E.N G v (tD q y)) (hu : HasTy E.N G v (tV u)) : EffOK E (bx (rH r hs) T b x :: O) G ⟨none, .store U p v, ty, pos, after, g⟩ (fun _ => bx (rH r hs') T b (set x y) :: O) (fun _ => tAny) := eff_none (fun _ h => (by cases h)) fun a w S hsat ho hf hb => by
  have h1 : a.eval p = bptr b off := hp S a hf
  obtain ⟨ds, h2, h3⟩ := hv S a hf
  have hu' : a.eval v = u := hu S a hf
  obtain ⟨⟨hno, cur, h5, h6⟩, _⟩ := ho.1
  have hl := r.len h6.1
  have hoff' := Nat.le_of_ble_eq_true hoff
  have hdl := q.len h3
  have hds : ds = [u] := by
    obtain ⟨d, hd⟩ := List.length_eq_one_iff.1 (by rw [hdl, hsz] : ds.length = 1)
    subst hd
    have e1 : q.val [d] = d := by simp [Rp.val, hag]
    rw [h2, e1] at hu'
    rw [hu']
  obtain ⟨w', hr, e1, e2, e3, e4, e5, e6⟩ := run_storeVar_at ti hsz h3 h5 (off := off) (by simp at hl; omega)
  have hrun : (execOp a.eval ⟨none, .store U p v, ty, pos, after, g⟩).run E.P w = .ok .skip w' := by
    simp [execOp, h1, h2, Instr.storeAt, bptr, Instr.sureAddr, hr]
  rw [hsz] at e5
  have hnew : (rH r hs').rc S (cur.toList.take off ++ ds ++ cur.toList.drop (off + 1)) (set x y) := by
    have h7 := hset S _ _ _ _ h6.1 h3
    rw [hsz] at h7
    refine ⟨h7, fun p hp => ?_⟩
    rcases hk.all p hp with ⟨f1, f2, _⟩ | ⟨f1, f2⟩
    · rw [f2]
      exact cells_at (by rw [hds, Option.some.inj f1]) (by omega)
    · rw [cells_apart (by rw [hdl, hsz]) (by omega) f2]
      exact h6.2 _ (hlook_mem f1)
  obtain ⟨g1, g2, g3⟩ := own_write (O := O) hsat (bx (rH r hs) T b x) (bx (rH r hs') T b (set x y)) ho (fun _ => Iff.rfl) (fun _ => Iff.rfl) ⟨e1, e2, e3, e4.1, e4.2⟩ e6 ⟨hno, _, e5, by simpa using hnew⟩ hno
  exact ⟨w', S, zoi, hrun, g1.more fun k hk => ⟨_, List.mem_cons_self .., hk⟩, g2, g3⟩
end
section
variable {dst : Option Tmp} {ty : TypeId} {pos : String} {after : Array Edge} {g : Option (Nat × Bool)}
theorem ok_loadV {α : Type} {r : Rp α} {hs : HL} {x : α} {u : Value} {U T : TypeId} {b off bytes : Nat} {z : List Value} {p : Operand} (ti : TI E.P U 1 bytes false z) (hk : hlook hs off = some u) (hm : bx (rH r hs) T b x ∈ O) (hp : HasTy E.N G p (tV (bptr b off))) :
    OpOK E O G ⟨dst, .load U p, ty, pos, after, g⟩ (tV u) := (ok_loadB (q := rV) ti rfl rfl (fldV hk) hm hp).imp fun _ _ h => (tRV_iff.1 h).1
theorem ok_loadT {α β : Type} {q : Rp α} {r : Rp β} {hs : HL} {x : β} {U T V : TypeId} {b off bytes : Nat} {z : List Value} {p : Operand} {l : Option Nat} {cap : Nat} {xs : List α} (ti : TI E.P U 1 bytes false z) (hk : hlook hs off = some (oslV l cap xs.length)) (hm : bx (rH r hs) T b x ∈ O) (hm2 : tip q V l cap xs ∈ O) (hp : HasTy E.N G p (tV (bptr b off))) :
    OpOK E O G ⟨dst, .load U p, ty, pos, after, g⟩ (tO q l cap xs) := fun a w S hs' ho hf =>
  opWp_mono (fun _ _ ⟨v, S', h1, h2, h3, h4⟩ => ⟨v, S', h1, h2, h3, h4, by
    have h5 : v = oslV l cap xs.length := h4
    rw [h5]
    exact tip_data (((ho.ext0 h2).mem _ hm2).1)⟩) (ok_loadV (g := g) (ty := ty) (pos := pos) (after := after) (dst := dst) ti hk hm hp a w S hs' ho hf)
theorem ok_boxT {t : Ty} {x : Operand} {T : TypeId} (h1 : ∀ S v, t.p S v → v.oneCell' = true) (hx : HasTy E.N G x t) : OpOK E O G ⟨dst, .box T x, ty, pos, after, g⟩ (tPtr (rT t) ()) :=
  ok_box (fun S a hf => tRT.2 ⟨h1 _ _ (hx S a hf), hx S a hf⟩)
end
def subH : HL → HL → Prop
  | [], _ => True
  | p :: l, hs => hlook hs p.1 = some p.2 ∧ subH l hs
theorem subH.all {hs : HL} : ∀ {l : HL}, subH l hs → ∀ p ∈ l, p ∈ hs
  | _ :: _, ⟨h, _⟩, _, .head _ => hlook_mem h
  | _ :: _, ⟨_, h⟩, _, .tail _ hm => subH.all h _ hm
end
end Go.Proofs.Ytbhkincjkpeaoaa

namespace Go.Proofs.Ytbhkincjkpeaoaa
open Go

theorem EffOK.perm {E : En} {O O' : List OE} {G : Ctx} {o : Oper} {post : OI → List OE} {t : OI → Ty} (h : EffOK E O' G o post t) (k : ∀ {w S}, Own E.base E.B w S O → Own E.base E.B w S O') (m : ∀ f ∈ O', f ∈ O) : EffOK E O G o post t := fun a w S hs ho hf hb =>
  opWp_mono (fun _ _ ⟨v, S', x, h1, h2, h3, h4, h5⟩ => ⟨v, S', x, h1, h2.more fun _ ⟨f, hf, hk⟩ => ⟨f, m f hf, hk⟩, h3, h4, h5⟩) (h a w S hs (k ho) hf hb)
namespace EffOK
section
variable {E : En} {O : List OE} {G : Ctx} {o : Oper} {post : OI → List OE} {t : OI → Ty}
theorem fr1 {x0 x1 : OE} (h : EffOK E (x1 :: x0 :: O) G o post t) : EffOK E (x0 :: x1 :: O) G o post t := h.perm (fun hw => Own.swap hw) (fun f hf => by simp only [List.mem_cons] at hf ⊢; rcases hf with h | h | h <;> simp [h])
theorem fr2 {x0 x1 x2 : OE} (h : EffOK E (x2 :: x0 :: x1 :: O) G o post t) : EffOK E (x0 :: x1 :: x2 :: O) G o post t := h.perm (fun hw => Own.front2 hw) (fun f hf => by simp only [List.mem_cons] at hf ⊢; rcases hf with h | h | h | h <;> simp [h])
theorem fr3 {x0 x1 x2 x3 : OE} (h : EffOK E (x3 :: x0 :: x1 :: x2 :: O) G o post t) : EffOK E (x0 :: x1 :: x2 :: x3 :: O) G o post t := h.perm (fun hw => Own.front3 hw) (fun f hf => by simp only [List.mem_cons] at hf ⊢; rcases hf with h | h | h | h | h <;> simp [h])
theorem fr4 {x0 x1 x2 x3 x4 : OE} (h : EffOK E (x4 :: x0 :: x1 :: x2 :: x3 :: O) G o post t) : EffOK E (x0 :: x1 :: x2 :: x3 :: x4 :: O) G o post t := h.perm (fun hw => Own.front4 hw) (fun f hf => by simp only [List.mem_cons] at hf ⊢; rcases hf with h | h | h | h | h | h <;> simp [h])
theorem fr6 {x0 x1 x2 x3 x4 x5 x6 : OE} (h : EffOK E (x6 :: x0 :: x1 :: x2 :: x3 :: x4 :: x5 :: O) G o post t) : EffOK E (x0 :: x1 :: x2 :: x3 :: x4 :: x5 :: x6 :: O) G o post t := h.perm (fun hw => Own.front6 hw) (fun f hf => by simp only [List.mem_cons] at hf ⊢; rcases hf with h | h | h | h | h | h | h | h <;> simp [h])
theorem fr7 {x0 x1 x2 x3 x4 x5 x6 x7 : OE} (h : EffOK E (x7 :: x0 :: x1 :: x2 :: x3 :: x4 :: x5 :: x6 :: O) G o post t) : EffOK E (x0 :: x1 :: x2 :: x3 :: x4 :: x5 :: x6 :: x7 :: O) G o post t := h.perm (fun hw => Own.front7 hw) (fun f hf => by simp only [List.mem_cons] at hf ⊢; rcases hf with h | h | h | h | h | h | h | h | h <;> simp [h])
end
end EffOK
section
variable {E : En} {O : List OE} {G : Ctx} {Q : Exit → Act → World → Prop} {ops : Array Oper} {rest : List Oper} {ty : TypeId} {pos : String} {after : Array Edge} {g : Option (Nat × Bool)}
theorem eff_storeA {α : Type} {r : Rp α} {n : Nat} {T U : TypeId} {b : Nat} {xs zs : List α} {y v : α} {i : Int} {sz bytes : Nat} {agg : Bool} {z : List Value} {p x : Operand} (ti : TI E.P U sz bytes agg z) (hsz : r.sz = sz)
    (hy : idx xs i = some y) (hz : xs.set i.toNat v = zs) (hp : HasTy E.N G p (tV (bptr b (i.toNat * r.sz)))) (hv : HasTy E.N G x (tD r v)) : EffOK E (bx (rArr r n) T b xs :: O) G ⟨none, .store U p x, ty, pos, after, g⟩ (fun _ => bx (rArr r n) T b zs :: O) (fun _ => tAny) := eff_none (fun _ h => (by cases h)) fun a w S hsat hown hf hbase => by
  subst hz
  have h1 : a.eval p = bptr b (i.toNat * r.sz) := hp S a hf
  obtain ⟨ds, h2, h3⟩ := hv S a hf
  obtain ⟨⟨hno, cur, h5, h6⟩, _⟩ := hown.1
  obtain ⟨h0, hy'⟩ := idx_some hy
  have hlt : i.toNat < xs.length := (List.getElem?_eq_some_iff.1 hy').1
  have hl := rcs_len h6.2
  simp only [Array.length_toList] at hl
  have hmul : i.toNat * r.sz + r.sz ≤ xs.length * r.sz := by rw [← Nat.succ_mul]; exact Nat.mul_le_mul_right _ hlt
  obtain ⟨w', hr, e1, e2, e3, e4, e5, e6⟩ := run_storeVar_at ti hsz h3 h5 (off := i.toNat * r.sz) (by omega)
  have hrun : (execOp a.eval ⟨none, .store U p x, ty, pos, after, g⟩).run E.P w = .ok .skip w' := by
    simp [execOp, h1, h2, Instr.storeAt, bptr, Instr.sureAddr, hr]
  obtain ⟨g1, g2, g3⟩ := own_write (O := O) hsat (bx (rArr r n) T b xs) (bx (rArr r n) T b (xs.set i.toNat v)) hown (fun _ => Iff.rfl) (fun _ => Iff.rfl) ⟨e1, e2, e3, e4.1, e4.2⟩ e6 ⟨hno, _, e5, by rw [List.length_set]; exact h6.1, rcs_set h3 h6.2 hlt⟩ hno
  exact ⟨w', S, zoi, hrun, g1.more fun c hc => ⟨_, List.mem_cons_self .., hc⟩, g2, g3⟩

section
variable {d : Nat}
theorem eff_alloc {α : Type} {r : Rp α} {x : α} {T : TypeId} {sz bytes : Nat} {agg : Bool} {z : List Value} (ti : TI E.P T sz bytes agg z) (hx : ∀ S, r.rc S z x) :
    EffOK E O G ⟨some d, .alloc T, ty, pos, after, g⟩ (fun i => bx r T (i.h 0).2 x :: O) (fun i => tV (bptr (i.h 0).2 0)) := fun a w S hs ho hf hb => by
  obtain ⟨zv, hzr, hzc⟩ := ti.zero w
  obtain ⟨he, hs', hno⟩ := Ext.alloc_own (w := w) (.cells z.toArray T (0, 0)) hs
  have hrun : (execOp a.eval ⟨some d, .alloc T, ty, pos, after, g⟩).run E.P w = .ok (.value (bptr w.heap.size 0)) (w.alloc (.cells z.toArray T (0, 0))) := by
    simp [execOp, Instr.alloc, hzr, newVar, newRow, hzc, bptr]
  refine ⟨fun c h => (by cases h), ?_⟩
  rw [hrun]
  exact ⟨_, S, oi none w.heap.size, rfl, he.more fun _ hb => hb.elim, hs', own_new ho he (e := bx r T w.heap.size x) ⟨hno, z.toArray, heap_alloc_new w _, by simpa using hx S⟩ (fun b hb => Nat.le_of_eq hb.symm) hb, rfl⟩
theorem eff_callA {f : FuncId} {xs : List Operand} {ats : Array TypeId} {ts : List Ty} {α : Type} {r : Rp α} {T : TypeId} {ys : List α} (hc : callableB E.P f = true) (hs : SpecO E.P f ts false r T ys) (hx : HasTys E.N G xs ts) :
    EffOK E O G ⟨some d, .call ⟨.value (.func f), xs.toArray, ats⟩, ty, pos, after, g⟩ (fun i => arr r T (i.h 0).1 (i.h 0).2 ys :: O) (fun i => tV (oslV (i.h 0).1 (i.h 0).2 ys.length)) := eff_callG (mm := false) hc hs hx (fun _ _ _ _ _ => rfl)
end
section
variable {dst : Option Tmp}
theorem ok_fieldAddrF {α : Type} {mm : Bool} {r : Rp α} {U T : TypeId} {l : Option Nat} {cap o i off sz n : Nat} {xs : List α} {y : α} {j : Int} {p : Operand} (hf : fieldIn E.P T i = some (off, sz)) (h0 : Nat.beq sz 0 = false) (hm : arrM mm r U l cap xs ∈ O) (hy : idx xs j = some y) (hp : HasTy E.N G p (tV (eptr l o))) (he : o + off = n) :
    OpOK E O G ⟨dst, .fieldAddr T p i, ty, pos, after, g⟩ (tV (eptr l n)) := by
  subst he
  exact ok_fieldAddrE hf h0 hm hy hp
theorem ok_nilB {x : Operand} {b off : Nat} (hx : HasTy E.N G x (tV (bptr b off))) : OpOK E O G ⟨dst, .nilCheck x, ty, pos, after, g⟩ (tV (bptr b off)) := .of_pure fun a w S _ _ hf => by
  have h1 : a.eval x = bptr b off := hx S a hf
  exact ⟨bptr b off, by simp [execOp, h1, bptr], rfl⟩
theorem ok_nilP {α : Type} {r : Rp α} {y : α} {x : Operand} (hx : HasTy E.N G x (tPtr r y)) : OpOK E O G ⟨dst, .nilCheck x, ty, pos, after, g⟩ (tPtr r y) := .of_pure fun a w S _ _ hf => by
  have h0 := hx S a hf
  obtain ⟨b, off, c, U, fr, h1, h2, h3⟩ := h0
  exact ⟨_, by simp [execOp, h1], b, off, c, U, fr, rfl, h2, h3⟩
theorem ok_loadW {U T : TypeId} {b bytes : Nat} {z : List Value} {p : Operand} {u : Value} (ti : TI E.P U 1 bytes false z) (hm : bx rV T b u ∈ O) (hp : HasTy E.N G p (tV (bptr b 0))) :
    OpOK E O G ⟨dst, .load U p, ty, pos, after, g⟩ (tV u) := (ok_loadB (q := rV) (get := fun x => x) ti rfl rfl fld_whole hm hp).imp fun _ _ h => (tRV_iff.1 h).1
theorem ok_loadR {t : Ty} {U : TypeId} {bytes : Nat} {z : List Value} {p : Operand} (ti : TI E.P U 1 bytes false z) (hp : HasTy E.N G p (tPtr (rT t) ())) : OpOK E O G ⟨dst, .load U p, ty, pos, after, g⟩ t := ok_loadF ti hp
end
theorem RG.castO {O' : List OE} (h : O = O') (k : RG E ops Q rest O' G) : RG E ops Q rest O G := by subst h; exact k
theorem CG.castO {O' : List OE} {c : Code} (h : O = O') (k : CG E Q c O' G) : CG E Q c O G := by subst h; exact k
theorem AT.castO {O' : List OE} {e : Exit} (h : O = O') (k : AT E Q e O' G) : AT E Q e O G := by subst h; exact k
theorem hW {N : Fr} {x : Operand} {u : Value} (h : HasTy N G x (tV u)) (ho : u.oneCell' = true) : HasTy N G x (tD rV u) := fun S a hf => tRV_iff.2 ⟨h S a hf, ho⟩
theorem hTT {N : Fr} {x : Operand} {t : Ty} (h1 : ∀ S v, t.p S v → v.oneCell' = true) (h : HasTy N G x t) : HasTy N G x (tD (rT t) ()) := fun S a hf => tRT.2 ⟨h1 _ _ (h S a hf), h S a hf⟩
theorem one_fun {P : Program} {α β : Type} {args : α → List Ty} {res : β → Ty} {f : α → Option β} : ∀ S v, (tFun P args res f).p S v → v.oneCell' = true := fun _ _ ⟨_, _, e, _⟩ => by rw [e]; rfl
end
end Go.Proofs.Ytbhkincjkpeaoaa

namespace Go.Proofs.Ytbhkincjkpeaoaa
open Go

theorem src_of_view {P : Program} {α : Type} {mm : Bool} {r : Rp α} {U : TypeId} {l : Option Nat} {cap : Nat} {xs ys : List α} {lo : Int} {w : World} {S : SH} {t' e' : TypeId} (ht : P.underlying t' = some (.slice e')) (h : arrP mm r U l cap xs w S) (hs : sliceF xs lo (xs.length : Int) = some ys) :
    ∃ news, Src P r.sz t' (vslV r.sz l cap lo.toNat ys.length) ys.length news w ∧ rcs r S news ys := by
  obtain ⟨cells, h1, h2, _⟩ := h
  obtain ⟨lo', m, rfl, hm, h3, h4, rfl⟩ := sliceF_some hs
  have hm' : m = xs.length := by omega
  subst hm'
  rw [List.take_length, Int.toNat_natCast]
  cases l with
  | none =>
    have hx : xs = [] := List.eq_nil_of_length_eq_zero h1.1
    subst hx
    exact ⟨[], by simpa [vslV] using Src.ofNil w ht 0, by simp [rcs]⟩
  | some b =>
    obtain ⟨cur, g1, g2, g3, g4, g5⟩ := h1
    have hlen : (xs.drop lo').length = xs.length - lo' := by simp
    have hcl := rcs_len h2
    have hsp : xs = xs.take lo' ++ xs.drop lo' := (List.take_append_drop lo' xs).symm
    have htl : (xs.take lo').length = lo' := by simp; omega
    have hr : rcs r S (cells.drop (lo' * r.sz)) (xs.drop lo') := by
      rw [hsp] at h2
      have := (rcs_split h2).2
      rwa [htl] at this
    have hmul : lo' * r.sz ≤ xs.length * r.sz := Nat.mul_le_mul_right _ h3
    refine ⟨cells.drop (lo' * r.sz), ?_, hr⟩
    unfold vslV
    refine Src.ofSlice w ht _ _ _ _ (rcs_len hr) (fun j u hu => ?_) (rcs_one hr)
    by_cases hc : cap = lo'
    · have : xs.drop lo' = [] := List.drop_of_length_le (by omega)
      rw [this] at hr
      have hr' : cells.drop (lo' * r.sz) = [] := hr
      rw [hr'] at hu; simp at hu
    · simp only [hc, if_false]
      rw [addr_add, cell_in g1]
      rw [List.getElem?_drop, ← g5] at hu
      have hj : lo' * r.sz + j < xs.length * r.sz := by
        have := (List.getElem?_eq_some_iff.1 hu).1
        simp at this; omega
      rw [List.getElem?_take_of_lt hj] at hu
      simpa using hu
section
variable {E : En} {O : List OE} {G : Ctx} {Q : Exit → Act → World → Prop} {ops : Array Oper} {rest : List Oper} {d : Nat} {ty : TypeId} {pos : String} {after : Array Edge}
theorem RG.isNilV {α : Type} {mm : Bool} {r : Rp α} {U : TypeId} {l : Option Nat} {cap : Nat} {xs ys : List α} {lo : Int} {x : Operand} {t yt e : TypeId} (ht : E.P.underlying t = some (.slice e)) (hm : arrM mm r U l cap xs ∈ O) (hs : sliceF xs lo (xs.length : Int) = some ys) (hx : HasTy E.N G x (tV (vslV r.sz l cap lo.toNat ys.length))) (hd : Nat.blt d E.N.n = true)
    (k : ∀ b, (b = true → ys = []) → RG E ops Q rest O ((d, tD rB b) :: G)) : RG E ops Q (⟨some d, .binOp .eql t x (.const (.slice none 0 0)) yt, ty, pos, after, none⟩ :: rest) O G := .of rfl fun a w S st => by
  have h1 : a.eval x = vslV r.sz l cap lo.toNat ys.length := hx S a st.facts
  obtain ⟨⟨cells, hraw, _⟩, _⟩ := st.own.mem _ hm
  have hcn : a.eval (.const (.slice none 0 0)) = .slice none 0 0 := rfl
  cases l with
  | none =>
    have hx0 : xs = [] := List.eq_nil_of_length_eq_zero hraw.1
    have hy0 : ys = [] := by
      obtain ⟨lo', m, _, _, _, _, rfl⟩ := sliceF_some hs
      subst hx0; simp
    have h3 : (Op.equal t (.slice none 0 0) (.slice none 0 0)).run E.P w = .ok true w := run_eql fun d => by
      simp [Op.equalIn, run_underlying ht]
    have hrun : (execOp a.eval ⟨some d, .binOp .eql t x (.const (.slice none 0 0)) yt, ty, pos, after, none⟩).run E.P w = .ok (.value (.bool true)) w := by
      simp [execOp, h1, vslV, hcn, eqGuard, binOp, h3]
    refine ⟨fun c h => (by cases h), ?_⟩
    rw [hrun]
    exact k true (fun _ => hy0) _ _ S (st.step (Ext.refl _ _ _) st.sat hd (tB_iff.2 rfl))
  | some b =>
    obtain ⟨ad, hv⟩ : ∃ ad, vslV r.sz (some b) cap lo.toNat ys.length = .slice (some ad) ys.length (cap - lo.toNat) := ⟨_, rfl⟩
    have h3 : (Op.equal t (.slice (some ad) ys.length (cap - lo.toNat)) (.slice none 0 0)).run E.P w = .ok false w := run_eql fun d => by
      simp [Op.equalIn, run_underlying ht]
    have hrun : (execOp a.eval ⟨some d, .binOp .eql t x (.const (.slice none 0 0)) yt, ty, pos, after, none⟩).run E.P w = .ok (.value (.bool false)) w := by
      simp [execOp, h1, hv, hcn, eqGuard, binOp, h3]
    refine ⟨fun c h => (by cases h), ?_⟩
    rw [hrun]
    exact k false (fun e => (by cases e)) _ _ S (st.step (Ext.refl _ _ _) st.sat hd (tB_iff.2 rfl))
theorem RG.appendV {α : Type} {r : Rp α} {U T t t' : TypeId} {sz bytes : Nat} {agg : Bool} {z : List Value} {mm : Bool} {l l2 : Option Nat} {cap cap2 n : Nat} {xs ys zs us : List α} {lo : Int} {x y : Operand} (ti : TI E.P T sz bytes agg z) (hsz : r.sz = sz) (hz : Nat.beq z.length sz = true) (h0 : Nat.blt 0 sz = true) (h128 : Nat.ble bytes 2048 = true)
    (ht : E.P.underlying t = some (.slice T)) (ht' : t' = t) (hd : Nat.blt d E.N.n = true) (hx : HasTy E.N G x (tV (oslV l cap n))) (hm : arrM mm r U l2 cap2 us ∈ arr r T l cap xs :: O) (hs : sliceF us lo (us.length : Int) = some ys) (hy : HasTy E.N G y (tV (vslV r.sz l2 cap2 lo.toNat ys.length))) (happ : app xs ys = some zs)
    (k : ∀ l' cap', RG E ops Q rest (arr r T l' cap' zs :: O) ((d, tV (oslV l' cap' zs.length)) :: G)) (hn : n = xs.length := by rfl) :
    RG E ops Q (⟨some d, .call ⟨.builtin .append, #[x, y], #[t, t']⟩, ty, pos, after, none⟩ :: rest) (arr r T l cap xs :: O) G := by
  subst ht'
  exact RG.appendG (u := fun cap' l' => tV (oslV l' cap' zs.length)) ti hsz hz h0 h128 ht hd hx (fun a w S st => by
    have h1 : a.eval y = vslV r.sz l2 cap2 lo.toNat ys.length := hy S a st.facts
    rw [h1]
    exact src_of_view ht (st.own.mem _ hm).1 hs) happ (fun _ _ _ _ _ => rfl) k hn
end
end Go.Proofs.Ytbhkincjkpeaoaa

namespace Go.Proofs.Ytbhkincjkpeaoaa
open Go

abbrev ItX (α X : Type) := (σ : Type) → (α → σ → Option (Bool × σ)) → σ → Option (σ × X)
def ItCallX (P : Program) {α X : Type} (args : α → List Ty) (it : ItX α X) (Ob : X → OI → List OE) (fid : FuncId) (cap : Array Value) (fp : Nat → Prop) (w : World) (S : SH) : Prop :=
  ∀ (σ : Type) (y : α → σ → Option (Bool × σ)) (s : σ) (R : σ × X), it σ y s = some R → ∀ I yv, Yld P args y I yv → ∀ e, I s e → e.p w S → (∀ k, e.fp k → ¬ fp k) →
    Calls P fid (#[yv] ++ cap) w fun en w' => ∃ e' S' j, (∃ v, en = .returned v) ∧ I R.1 e' ∧ Ext (fun k => e.fp k ∨ fp k) w S w' S' ∧ Sat w' S' ∧ e'.p w' S' ∧ Own 0 noB w' S' (Ob R.2 j) ∧ (∀ k, e'.fp k ∨ fpB (Ob R.2 j) k → (e.fp k ∨ fp k) ∨ w.heap.size ≤ k) ∧ ∀ k, e'.fp k → ¬ fpB (Ob R.2 j) k
def itrX (P : Program) {α X : Type} (args : α → List Ty) (it : ItX α X) (Ob : X → OI → List OE) (v : Value) (fp : Nat → Prop) : OE where
  fp := fp
  p := fun w S => (∀ k, fp k → k < w.heap.size) ∧ ∃ fid cap, v = .func (.func fid) #[] cap ∧ callableB P fid = true ∧
    ∀ C w' S', Ext C w S w' S' → (∀ k, fp k → ¬ C k) → Sat w' S' → ItCallX P args it Ob fid cap fp w' S'
  here := fun h k hk => h.1 k hk
  kept := by
    rintro C w w' S S' ⟨h1, fid, cap, h2, h3, h4⟩ k hC
    refine ⟨fun b hb => Nat.lt_of_lt_of_le (h1 b hb) k.size, fid, cap, h2, h3, fun C' w'' S'' k' hC' hs => ?_⟩
    exact h4 (fun b => C b ∨ C' b) w'' S'' ((k.more fun b hb => .inl hb).trans (k'.more fun b hb => .inr hb)) (fun b hb h => h.elim (hC b hb) (hC' b hb)) hs
section
variable {E : En} {O : List OE} {G : Ctx} {Q : Exit → Act → World → Prop} {ops : Array Oper} {rest : List Oper} {c : Code} {P : Program} {α : Type} {args : α → List Ty} {it : It α} {v : Value} {fp : Nat → Prop}
end

def ItSpecX (P : Program) (fid : FuncId) {α X : Type} (args : α → List Ty) (it : ItX α X) (Ob : X → OI → List OE) (O : List OE) (cts : List Ty) : Prop :=
  ∀ w S cap, Sat w S → Own 0 noB w S O → Tys S cts cap → ItCallX P args it Ob fid cap.toArray (fpB O) w S
def endIX (E : En) {σ X : Type} (I : σ → OE → Prop) (R : σ × X) (Ob : X → OI → List OE) : Ending → World → Prop := fun en w' => ∃ e' S' j, (∃ v, en = .returned v) ∧ I R.1 e' ∧ Ext E.B E.w0 E.S0 w' S' ∧ Sat w' S' ∧ e'.p w' S' ∧ Own 0 noB w' S' (Ob R.2 j) ∧ (∀ k, e'.fp k ∨ fpB (Ob R.2 j) k → E.B k ∨ E.w0.heap.size ≤ k) ∧ ∀ k, e'.fp k → ¬ fpB (Ob R.2 j) k
theorem ItSpecX.of {P : Program} {f : FuncId} {fn : Func} {c : Code} {N : Nat} {α X : Type} {args : α → List Ty} {it : ItX α X} {Ob : X → OI → List OE} {O : List OE} {cts : List Ty} (hf : P.funcs[f]? = some fn) (hb : fn.body = some c) (hN : fn.ntmps = N) (hn : Nat.ble (cts.length + 1) N = true)
    (h : ∀ (σ : Type) (y : α → σ → Option (Bool × σ)) (s : σ) (R : σ × X), it σ y s = some R → ∀ I yv, Yld P args y I yv → ∀ e, I s e → ∀ w0 S0 B, (∀ k, B k → e.fp k ∨ ∃ f ∈ O, f.fp k) →
      CG ⟨P, ⟨N, []⟩, B, w0, S0, none⟩ (bodyPost P fn (endIX ⟨P, ⟨N, []⟩, B, w0, S0, none⟩ I R Ob)) c (e :: O) (initG 0 (tV yv :: cts))) : ItSpecX P f args it Ob O cts := by
  subst hN
  intro w S cap hs ho hc σ y s R hit I yv hy e he hep hap
  have hown : Own w.heap.size (fun k => e.fp k ∨ ∃ f ∈ O, f.fp k) w S (e :: O) :=
    ⟨⟨hep, fun k hk => .inr (.inl hk)⟩, fun f hf b hb hfb => hap b hb ⟨f, hf, hfb⟩, Own.based ho fun f hf k hk => .inr (.inr ⟨f, hf, hk⟩)⟩
  have hfacts := facts_init (S := S) (ts := tV yv :: cts) (vs := yv :: cap) ⟨rfl, hc⟩ fn.ntmps (by simpa using Nat.le_of_ble_eq_true hn)
  have := callsIn_fw.1 (callsIn_of_wp (F := fw none) (n := 0) hf hb trivial (h σ y s R hit I yv hy e he w S (fun k => e.fp k ∨ ∃ f ∈ O, f.fp k) (fun _ h => h) _ w S ⟨Ext.refl _ _ _, hs, hown, hfacts⟩))
  rw [show (#[yv] ++ cap.toArray : Array Value) = (yv :: cap).toArray from by simp]
  exact this.mono fun en w' ⟨e', S', j, h1, h2, h3, h4, h5, h6, h7, h8⟩ => ⟨e', S', j, h1, h2, h3, h4, h5, h6, h7, h8⟩
theorem AT.retIX {P : Program} {N : Nat} {B : Nat → Prop} {w0 : World} {S0 : SH} {fn : Func} {σ X : Type} {I : σ → OE → Prop} {R : σ × X} {Ob : X → OI → List OE} {e : OE} {O : List OE} {G : Ctx} (hr : fn.results = #[]) (he : I R.1 e) (j : OI) (hO : O = Ob R.2 j) :
    AT ⟨P, ⟨N, []⟩, B, w0, S0, none⟩ (bodyPost P fn (endIX ⟨P, ⟨N, []⟩, B, w0, S0, none⟩ I R Ob)) .ret (e :: O) G := fun _ _ S st => by
  subst hO
  refine ⟨st.facts.defers, _, run_results_none P fn hr _ _, e, S, j, ⟨_, rfl⟩, he, st.ext, st.sat, st.own.1.1, st.own.2.2.weak, fun k hk => ?_, fun k hk ⟨f, hf, hfk⟩ => st.own.2.1 f hf k hk hfk⟩
  rcases hk with hk | ⟨f, hf, hk⟩
  · exact (st.own.1.2 k hk).symm
  · exact ((Own.mem st.own.2.2 f hf).2 k hk).symm
theorem AT.normIX {P : Program} {N : Nat} {B : Nat → Prop} {w0 : World} {S0 : SH} {fn : Func} {σ X : Type} {I : σ → OE → Prop} {R : σ × X} {Ob : X → OI → List OE} {e : OE} {O : List OE} {G : Ctx} (hr : fn.results = #[]) (he : I R.1 e) (j : OI) (hO : O = Ob R.2 j) :
    AT ⟨P, ⟨N, []⟩, B, w0, S0, none⟩ (bodyPost P fn (endIX ⟨P, ⟨N, []⟩, B, w0, S0, none⟩ I R Ob)) .normal (e :: O) G := fun a w S st => AT.retIX hr he j hO a w S st
def SpecItX (P : Program) (f : FuncId) (ts : List Ty) (O1 : List OE) {α X : Type} (args : α → List Ty) (it : ItX α X) (Ob : X → OI → List OE) : Prop :=
  ∀ w S vs, Sat w S → Tys S ts vs → Own 0 noB w S O1 → Calls P f vs.toArray w fun e w' => ∃ v fp S', e = .returned v ∧ Ext (fpB O1) w S w' S' ∧ Sat w' S' ∧ (itrX P args it Ob v fp).p w' S' ∧ ∀ k, fp k → fpB O1 k ∨ w.heap.size ≤ k
def endItX (E : En) (O1 : List OE) {α X : Type} (args : α → List Ty) (it : ItX α X) (Ob : X → OI → List OE) : Ending → World → Prop := fun e w' => ∃ v fp S', e = .returned v ∧ Ext E.B E.w0 E.S0 w' S' ∧ Sat w' S' ∧ (itrX E.P args it Ob v fp).p w' S' ∧ ∀ k, fp k → fpB O1 k ∨ E.w0.heap.size ≤ k
theorem SpecItX.of {P : Program} {f : FuncId} {fn : Func} {c : Code} {ts : List Ty} {N : Nat} {O1 : List OE} {α X : Type} {args : α → List Ty} {it : ItX α X} {Ob : X → OI → List OE} (hf : P.funcs[f]? = some fn) (hb : fn.body = some c) (hN : fn.ntmps = N) (hn : Nat.ble ts.length N = true)
    (h : ∀ w0 S0, CG ⟨P, ⟨N, []⟩, fpB O1, w0, S0, none⟩ (bodyPost P fn (endItX ⟨P, ⟨N, []⟩, fpB O1, w0, S0, none⟩ O1 args it Ob)) c O1 (initG 0 ts)) : SpecItX P f ts O1 args it Ob := by
  subst hN
  intro w S vs hs hv ho
  exact callsIn_fw.1 (callsIn_of_wp (F := fw none) (n := 0) hf hb trivial (h w S _ w S ⟨Ext.refl _ _ _, hs, Own.based ho fun f hf k hk => .inr ⟨f, hf, hk⟩, facts_init hv _ (Nat.le_of_ble_eq_true hn)⟩))
theorem AT.retItX {P : Program} {N : Nat} {w0 : World} {S0 : SH} {fn : Func} {k : Nat} {O1 O : List OE} {G : Ctx} {α X : Type} {args : α → List Ty} {it : ItX α X} {Ob : X → OI → List OE} {v : Value} {fp : Nat → Prop} (hr : fn.results = #[.tmp k]) (hk : look G k = some (tV v)) :
    AT ⟨P, ⟨N, []⟩, fpB O1, w0, S0, none⟩ (bodyPost P fn (endItX ⟨P, ⟨N, []⟩, fpB O1, w0, S0, none⟩ O1 args it Ob)) .ret (itrX P args it Ob v fp :: O) G := fun a w S st => by
  have hv : a.tmps.getD k undef = v := st.facts.at_ k _ hk
  exact ⟨st.facts.defers, _, run_results_one P fn k hr _ _, v, fp, S, by rw [hv], st.ext, st.sat, st.own.1.1, fun k hk => (st.own.1.2 k hk).symm⟩
section
variable {E : En} {O : List OE} {G : Ctx} {Q : Exit → Act → World → Prop} {ops : Array Oper} {rest : List Oper} {d : Nat} {ty : TypeId} {pos : String} {after : Array Edge}
theorem RG.callItX {f : FuncId} {xs : List Operand} {ats : Array TypeId} {ts : List Ty} (O1 Or : List OE) {α X : Type} {args : α → List Ty} {it : ItX α X} {Ob : X → OI → List OE} (hO : O = O1 ++ Or) (hc : callableB E.P f = true) (hs : SpecItX E.P f ts O1 args it Ob) (hx : HasTys E.N G xs ts) (hd : Nat.blt d E.N.n = true)
    (k : ∀ v fp, RG E ops Q rest (itrX E.P args it Ob v fp :: Or) ((d, tV v) :: G)) :
    RG E ops Q (⟨some d, .call ⟨.value (.func f), xs.toArray, ats⟩, ty, pos, after, none⟩ :: rest) O G := .of rfl fun a w S st => by
  subst hO
  have hr : (execOp a.eval ⟨some d, .call ⟨.value (.func f), xs.toArray, ats⟩, ty, pos, after, none⟩).run E.P w = .ok (.enter f (xs.map a.eval).toArray) w := by
    simp [execOp, resolve, Act.eval, Deferred.ofValue, invoke, run_callFunc hc]
  refine ⟨fun c h => (by cases h), ?_⟩
  rw [hr]
  refine (hs w S _ st.sat (hx.tys st.facts) (Own.split st.own).1.weak).mono fun e w' ⟨v, fp, S', he, h1, h2, h3, h4⟩ => ⟨_, he, ?_⟩
  have st' := st.turn (O2 := [itrX E.P args it Ob v fp]) h1 h2 ⟨⟨h3, fun _ _ => .inl (Nat.zero_le _)⟩, fun _ h => (by cases h), trivial⟩ (fun k ⟨f, hf, hk⟩ => by
    rw [List.mem_singleton.1 hf] at hk; exact h4 k hk)
  exact k v fp _ _ S' (st'.put hd rfl)
theorem RG.makeIterX {fid : FuncId} {O1 O2 : List OE} {α X : Type} {args : α → List Ty} {it : ItX α X} {Ob : X → OI → List OE} {cts : List Ty} {caps : List Operand} (hO : O = O1 ++ O2) (hc : callableB E.P fid = true) (hs : ItSpecX E.P fid args it Ob O1 cts) (hcap : HasTys E.N G caps cts) (hd : Nat.blt d E.N.n = true)
    (k : ∀ v fp, RG E ops Q rest (itrX E.P args it Ob v fp :: O2) ((d, tV v) :: G)) :
    RG E ops Q (⟨some d, .makeFunc (.func fid) #[] caps.toArray, ty, pos, after, none⟩ :: rest) O G := .of rfl fun a w S st => by
  subst hO
  have hr : (execOp a.eval ⟨some d, .makeFunc (.func fid) #[] caps.toArray, ty, pos, after, none⟩).run E.P w = .ok (.value (.func (.func fid) #[] (caps.map a.eval).toArray)) w := by simp [execOp, Instr.makeFunc]
  refine ⟨fun c h => (by cases h), ?_⟩
  rw [hr]
  obtain ⟨h1, h2, h3⟩ := Own.split st.own
  have hcv := hcap.tys st.facts
  refine k (.func (.func fid) #[] (caps.map a.eval).toArray) (fpB O1) _ _ S ⟨st.ext, st.sat, ?_, st.facts.put hd rfl⟩
  refine Own.cons ⟨⟨fun b ⟨f, hf, hb⟩ => f.here (Own.mem h1 f hf).1 b hb, fid, _, rfl, hc, fun C w' S' he hC hs' => ?_⟩, fun b ⟨f, hf, hb⟩ => (Own.mem h1 f hf).2 b hb⟩ (fun f hf b ⟨g, hg, hb⟩ => h3 g hg f hf b hb) h2
  exact hs w' S' _ hs' (h1.weak.ext he fun f hf b hb => hC b ⟨f, hf, hb⟩) (hcv.mono he.keep)
end

def recP (l : Nat) (r : Loop) (st : LoopState) (pd : Option Code) : OE where
  fp := fun k => k = l
  p := fun w S => S l = none ∧ w.heap[l]? = some (.loop { r with state := st, pending := pd })
  here := by
    intro w S h k hk
    subst hk
    exact (Array.getElem?_eq_some_iff.1 h.2).1
  kept := by
    intro C w w' S S' h k hC
    have hlt := (Array.getElem?_eq_some_iff.1 h.2).1
    exact ⟨by rw [k.old l hlt (hC l rfl)]; exact h.1, by rw [k.heap l hlt (hC l rfl)]; exact h.2⟩
def stJ (j : Option Nat) : LoopState := if j.isNone then .ready else .done
def rndJ (E : En) (l : Nat) (rec : Loop) {σ ι : Type} (Oi : ι → List OE) (dat : ι → σ) (jc : Nat → Code) (r : Option Nat × σ) : Ending → World → Prop := fun en w' =>
  ∃ i S', en = .returned (.bool r.1.isNone) ∧ dat i = r.2 ∧ Ext E.B E.w0 E.S0 w' S' ∧ Sat w' S' ∧ Own E.base E.B w' S' (recP l rec (stJ r.1) (r.1.map jc) :: Oi i)
def bodyJ {α σ : Type} (f : α → σ → Option (Option Nat × σ)) : α → Option Nat × σ → Option (Bool × (Option Nat × σ)) := fun x s =>
  match s.1 with
  | some _ => none
  | none => (f x s.2).map fun r => (r.1.isNone, r)
section
variable {E : En} {O : List OE} {G : Ctx}
theorem own_recP {base : Nat} {B : Nat → Prop} {w : World} {S : SH} {l : Nat} {rec : Loop} {st st' : LoopState} {pd pd' : Option Code} {O : List OE} (h : Own base B w S (recP l rec st pd :: O)) (hs : Sat w S) :
    Ext (fun k => k = l) w S (w.putObj l (.loop { rec with state := st', pending := pd' })) S ∧ Sat (w.putObj l (.loop { rec with state := st', pending := pd' })) S ∧ Own base B (w.putObj l (.loop { rec with state := st', pending := pd' })) S (recP l rec st' pd' :: O) := by
  obtain ⟨hno, hl⟩ := h.1.1
  have hlt := (Array.getElem?_eq_some_iff.1 hl).1
  have hext : Ext (fun k => k = l) w S (w.putObj l (.loop { rec with state := st', pending := pd' })) S := ⟨rfl, rfl, rfl, Nat.le_refl _, by simp, fun k _ hk => World.putObj_heap_other hk, SH.le_refl _, fun _ _ _ => rfl⟩
  refine ⟨hext, hs.same fun k o hk => ?_, ⟨⟨hno, World.putObj_heap_same hlt⟩, h.1.2⟩, h.2.1, h.2.2.ext hext fun g hg k hk hkl => h.2.1 g hg k hkl hk⟩
  have hne : k ≠ l := fun e => by subst e; rw [hno] at hk; cases hk
  exact World.putObj_heap_other hne
theorem AT.beginP {l : Nat} {rec : Loop} {body : Code} {R : Ending → World → Prop} (h : CG E (roundPost E.P l R) body (recP l rec .busy none :: O) G) : AT E (begQ E l body R) .normal (recP l rec .ready none :: O) G := fun a w S st => by
  obtain ⟨h1, h2, h3⟩ := own_recP (st' := .busy) (pd' := none) st.own st.sat
  obtain ⟨_, hl⟩ := st.own.1.1
  exact ⟨_, run_beginRound hl rfl, h a _ S ⟨st.ext.step h1 (fun c hc => st.own.1.2 c hc), h2, h3, st.facts⟩⟩
theorem AT.endRoundP {l : Nat} {rec : Loop} {σ ι : Type} {Oi : ι → List OE} {dat : ι → σ} {jc : Nat → Code} {s2 : σ} (i : ι) (hi : dat i = s2) (hO : O = Oi i) : AT E (roundPost E.P l (rndJ E l rec Oi dat jc (none, s2))) .normal (recP l rec .busy none :: O) G := fun a w S st => by
  subst hO
  obtain ⟨h1, h2, h3⟩ := own_recP (st' := .ready) (pd' := none) st.own st.sat
  obtain ⟨_, hl⟩ := st.own.1.1
  exact ⟨_, _, run_endRound none hl, i, S, rfl, hi, st.ext.step h1 (fun c hc => st.own.1.2 c hc), h2, h3⟩
theorem AT.retRoundP {l : Nat} {rec : Loop} {σ ι : Type} {Oi : ι → List OE} {dat : ι → σ} {jc : Nat → Code} {s2 : σ} (q : Nat) (hq : jc q = .ret) (i : ι) (hi : dat i = s2) (hO : O = Oi i) : AT E (roundPost E.P l (rndJ E l rec Oi dat jc (some q, s2))) .ret (recP l rec .busy none :: O) G := fun a w S st => by
  subst hO
  obtain ⟨h1, h2, h3⟩ := own_recP (st' := .done) (pd' := some .ret) st.own st.sat
  obtain ⟨_, hl⟩ := st.own.1.1
  exact ⟨_, _, run_endRound (some .ret) hl, i, S, rfl, hi, st.ext.step h1 (fun c hc => st.own.1.2 c hc), h2, by rw [Option.map_some, hq]; exact h3⟩
theorem CG.rangeX {Q : Exit → Act → World → Prop} {v : Value} {fp : Nat → Prop} {α X : Type} {args : α → List Ty} {it : ItX α X} {Ob : X → OI → List OE} {σ ι : Type} (Oi : ι → List OE) (dat : ι → σ) (jc : Nat → Code) {f : α → σ → Option (Option Nat × σ)} {R : (Option Nat × σ) × X} {g : Operand} {ps : List Nat} {assign body : Code} (hr : E.r = none)
    (hg : HasTy E.N G g (tV v)) (i0 : ι) (hO : O = itrX E.P args it Ob v fp :: Oi i0) (hit : it (Option Nat × σ) (bodyJ f) (none, dat i0) = some R) (hps : ∀ x, ps.length = (args x).length) (hpn : (ps.all fun d => Nat.blt d E.N.n) = true)
    (hbody : ∀ (i : ι) (x : α) (r : Option Nat × σ), f x (dat i) = some r → ∀ (l : Nat) (rec : Loop) (w1 : World) (S1 : SH) (B1 : Nat → Prop),
      CG ⟨E.P, ⟨E.N.n, []⟩, B1, w1, S1, some l⟩ (begQ ⟨E.P, ⟨E.N.n, []⟩, B1, w1, S1, some l⟩ l body (rndJ ⟨E.P, ⟨E.N.n, []⟩, B1, w1, S1, some l⟩ l rec Oi dat jc r)) assign (recP l rec .ready none :: Oi i) (putsG ps (args x) G))
    (k : ∀ i' j, dat i' = R.1.2 → ∀ b, (R.1.1 = none → AT ⟨E.P, ⟨E.N.n, markD b :: E.N.ds⟩, E.B, E.w0, E.S0, E.r⟩ Q .normal (dfb b :: (Ob R.2 j ++ Oi i')) G) ∧
      (∀ q, R.1.1 = some q → CG ⟨E.P, ⟨E.N.n, markD b :: E.N.ds⟩, E.B, E.w0, E.S0, E.r⟩ Q (jc q) (dfb b :: (Ob R.2 j ++ Oi i')) G)) : CG E Q (.rangeFunc g ps.toArray assign body) O G := fun a w S st => by
  subst hO
  refine wpIn_rangeFunc fun fn _ => ?_
  have hr0 : (fw E.r).round = none := hr
  have hfw : fw E.r = fw none := by rw [hr]
  rw [hr0]
  obtain ⟨rec, hrec⟩ : ∃ rec : Loop, rec = { state := .ready, pending := none, fn, tmps := a.tmps, params := ps.toArray, assign, body, defers := w.heap.size } := ⟨_, rfl⟩
  obtain ⟨x1, x2, x3⟩ := Ext.alloc_own (w := w) (.deferred (some [])) st.sat
  obtain ⟨y1, y2, y3⟩ := Ext.alloc_own (w := w.alloc (.deferred (some []))) (.loop rec) x2
  obtain ⟨W1, hW1⟩ : ∃ W1, (w.alloc (.deferred (some []))).alloc (.loop rec) = W1 := ⟨_, rfl⟩
  rw [hW1] at y1 y2
  have hsz : (w.alloc (.deferred (some []))).heap.size = w.heap.size + 1 := by simp
  rw [hsz] at y3
  have hext : Ext noB w S W1 S := x1.trans y1
  have hL1 : W1.heap[w.heap.size + 1]? = some (.loop rec) := by
    rw [← hW1]; have := World.alloc_heap_new (w.alloc (.deferred (some []))) (.loop rec); rwa [hsz] at this
  have hK1 : W1.heap[w.heap.size]? = some (.deferred (some [])) := by
    rw [y1.heap w.heap.size (by omega) (fun h => h)]; exact World.alloc_heap_new w _
  have hW1s : W1.heap.size = w.heap.size + 2 := by rw [← hW1]; simp
  have hg' : a.eval g = v := hg S a st.facts
  obtain ⟨hit1, hap, hoi⟩ := st.own
  obtain ⟨⟨hfp, gf, cap, hv, hcal, hcall⟩, hbase⟩ := hit1
  have hbl := st.base_le
  have hoi1 : Own E.base E.B W1 S (Oi i0) := hoi.ext0 hext
  have hlt : ∀ f ∈ Oi i0, ∀ k, f.fp k → k < w.heap.size := fun f hf k hk => f.here (Own.mem hoi f hf).1 k hk
  refine ⟨w.heap.size + 1, [markD w.heap.size], W1, { target := .fn (.func gf) cap, args := #[.func (.yield (w.heap.size + 1)) #[] #[]] }, W1, gf,
    #[.func (.yield (w.heap.size + 1)) #[] #[]] ++ cap, W1, ?_, ?_, fun _ _ => trivial, ?_, fun h => (by cases h), ?_⟩
  · rw [← hW1, hrec]; exact run_enterLoop_outer _ _ _ _ _
  · simp only [resolve, hg', hv]
    simp [go_sem]
  · simp [invoke, go_sem, run_callFunc hcal]
  rw [hfw]
  refine callsIn_fw.2 ?_
  have hyld : Yld E.P args (bodyJ f) (fun s e => ∃ i, dat i = s.2 ∧ e = starE S (recP (w.heap.size + 1) rec (stJ s.1) (s.1.map jc) :: Oi i)) (.func (.yield (w.heap.size + 1)) #[] #[]) := by
    refine ⟨_, rfl, ?_⟩
    rintro x ⟨j0, s⟩ r hy e ⟨i, hi, rfl⟩ w2 S2 vs hs2 ⟨hle, hown⟩ hvs
    cases j0 with
    | some q => unfold bodyJ at hy; cases hy
    | none =>
    have hi' : dat i = s := hi
    subst hi'
    obtain ⟨r2, hs2', rfl⟩ : ∃ r2, f x (dat i) = some r2 ∧ r = (r2.1.isNone, r2) := by
      unfold bodyJ at hy
      cases hf : f x (dat i) with
      | none => simp only [hf] at hy; cases hy
      | some s2 => simp only [hf] at hy; exact ⟨s2, rfl, by simpa using hy.symm⟩
    have hl2 := hown.1.1.2
    have hvl := hvs.length
    have hyr := run_yield (P := E.P) (args := vs.toArray) hl2 (by rw [hrec]; simp [hps x, hvl])
    refine ⟨_, _, _, _, hyr, roundIn_of_wpIn trivial ?_⟩
    have hown' : Own 0 noB w2 S2 (recP (w.heap.size + 1) rec .ready none :: Oi i) := hown
    have := hbody i x r2 hs2' (w.heap.size + 1) rec w2 S2 (fun k => ∃ f ∈ recP (w.heap.size + 1) rec .ready none :: Oi i, f.fp k)
      { tmps := (ps.zip vs).foldl (fun t (p : Nat × Value) => t.setIfInBounds p.1 p.2) a.tmps, defers := [] } w2 S2
      ⟨Ext.refl _ _ _, hs2, Own.based hown' fun f hf k hk => .inr ⟨f, hf, hk⟩, facts_puts ps (args x) vs ⟨a.tmps, []⟩ G (hps x) hvs hpn ⟨st.facts.size, rfl, fun j t h => t.mono hle (st.facts.at_ j t h)⟩⟩
    rw [hrec]
    rw [hrec] at this
    rw [foldl_zip_array]
    refine wpIn_mono this ?_
    intro e a3 w3 hp
    cases e with
    | normal =>
      obtain ⟨w4, hb4, hp4⟩ := hp
      refine ⟨w4, hb4, wpIn_mono hp4 ?_⟩
      have hR : ∀ en w', rndJ ⟨E.P, ⟨E.N.n, []⟩, fun k => ∃ f ∈ recP (w.heap.size + 1) rec .ready none :: Oi i, f.fp k, w2, S2, some (w.heap.size + 1)⟩ (w.heap.size + 1) rec Oi dat jc r2 en w' →
          ∃ e' S', en = .returned (.bool r2.1.isNone) ∧ (∃ i', dat i' = r2.2 ∧ e' = starE S (recP (w.heap.size + 1) rec (stJ r2.1) (r2.1.map jc) :: Oi i')) ∧ Ext (starE S (recP (w.heap.size + 1) rec .ready none :: Oi i)).fp w2 S2 w' S' ∧ Sat w' S' ∧ e'.p w' S' ∧ ∀ k, e'.fp k → (starE S (recP (w.heap.size + 1) rec .ready none :: Oi i)).fp k ∨ w2.heap.size ≤ k := by
        rintro en w' ⟨i', S', h1, h2, h3, h4, h5⟩
        exact ⟨_, S', h1, ⟨i', h2, rfl⟩, h3, h4, ⟨SH.le_trans hle h3.keep, h5.weak⟩, fun k ⟨f, hf, hk⟩ => ((Own.mem h5 f hf).2 k hk).symm⟩
      rw [hrec] at hR
      intro e5 a5 w5 hp5
      cases e5 <;> simp only [roundPost] at hp5 ⊢
      case normal => obtain ⟨v5, w6, h1, h2⟩ := hp5; exact ⟨v5, w6, h1, hR _ _ h2⟩
      case ret => obtain ⟨v5, w6, h1, h2⟩ := hp5; exact ⟨v5, w6, h1, hR _ _ h2⟩
      case exit => obtain ⟨v5, w6, h1, h2⟩ := hp5; exact ⟨v5, w6, h1, hR _ _ h2⟩
      case goto => obtain ⟨v5, w6, h1, h2⟩ := hp5; exact ⟨v5, w6, h1, hR _ _ h2⟩
    | _ => exact hp
  have hrecE : W1.heap[w.heap.size + 1]? = some (.loop { rec with state := .ready, pending := none }) := by rw [hL1, hrec]
  have he0 : (starE S (recP (w.heap.size + 1) rec .ready none :: Oi i0)).p W1 S := ⟨SH.le_refl _, ⟨⟨y3, hrecE⟩, fun _ _ => .inl (Nat.zero_le _)⟩, fun f hf k hk hfk => by have := hlt f hf k hfk; have hk' : k = w.heap.size + 1 := hk; omega, hoi1.weak⟩
  have hap0 : ∀ k, (starE S (recP (w.heap.size + 1) rec .ready none :: Oi i0)).fp k → ¬ fp k := by
    rintro k ⟨f, hf, hk⟩ hfk
    rcases List.mem_cons.1 hf with rfl | hf
    · have := hfp k hfk; have hk' : k = w.heap.size + 1 := hk; omega
    · exact hap f hf k hfk hk
  refine (hcall noB W1 S hext (fun _ _ h => h) y2 _ (bodyJ f) (none, dat i0) R hit _ _ hyld _ ⟨i0, rfl, rfl⟩ he0 hap0).mono ?_
  rintro en w2 ⟨e', S2, j, ⟨vr, rfl⟩, ⟨i', hi', rfl⟩, hx2, hs2, ⟨hle2, hown2⟩, hob, hnew, hapo⟩
  have hl2 := hown2.1.1.2
  have hnb : ∀ k, (dfb w.heap.size).fp k → ¬ ((starE S (recP (w.heap.size + 1) rec .ready none :: Oi i0)).fp k ∨ fp k) := by
    rintro k hk h
    have hk' : k = w.heap.size := hk
    subst hk'
    rcases h with ⟨f, hf, hfk⟩ | h
    · rcases List.mem_cons.1 hf with rfl | hf
      · have hk' : w.heap.size = w.heap.size + 1 := hfk; omega
      · have := hlt f hf _ hfk; omega
    · have := hfp _ h; omega
  have hBin : ∀ k, ((starE S (recP (w.heap.size + 1) rec .ready none :: Oi i0)).fp k ∨ fp k) → E.w0.heap.size ≤ k ∨ E.B k := by
    rintro k (⟨f, hf, hk⟩ | h)
    · rcases List.mem_cons.1 hf with rfl | hf
      · left; have hk' : k = w.heap.size + 1 := hk; have : E.w0.heap.size ≤ w.heap.size := hbl; omega
      · exact (Own.mem hoi f hf).2 k hk
    · exact hbase k h
  have hBn : ∀ k, ((starE S (recP (w.heap.size + 1) rec (stJ R.1.1) (R.1.1.map jc) :: Oi i')).fp k ∨ fpB (Ob R.2 j) k) → E.base ≤ k ∨ E.B k := fun k hk => (hnew k hk).elim (hBin k) (fun h => .inl (by have h1 : E.base ≤ w.heap.size := hbl; have h2 : W1.heap.size ≤ k := h; omega))
  have hb2 : Own E.base E.B w2 S2 (recP (w.heap.size + 1) rec (stJ R.1.1) (R.1.1.map jc) :: (Ob R.2 j ++ Oi i')) := by
    obtain ⟨q1, q2, q3⟩ := hown2
    refine Own.cons ⟨q1.1, fun k hk => hBn k (.inl ⟨_, List.mem_cons_self .., hk⟩)⟩ (fun f hf => ?_) (Own.join (Own.based hob fun f hf k hk => hBn k (.inr ⟨f, hf, hk⟩)) (Own.based q3 fun f hf k hk => hBn k (.inl ⟨f, List.mem_cons_of_mem _ hf, hk⟩)) fun e he f hf k hek hfk => hapo k ⟨f, List.mem_cons_of_mem _ hf, hfk⟩ ⟨e, he, hek⟩)
    rcases List.mem_append.1 hf with hf | hf
    · exact fun k hk hfk => hapo k ⟨_, List.mem_cons_self .., hk⟩ ⟨f, hf, hfk⟩
    · exact q2 f hf
  have hend : stJ R.1.1 ≠ .busy := by unfold stJ; split <;> simp
  obtain ⟨z1, z2, z3⟩ := own_recP (st' := .exhausted) (pd' := R.1.1.map jc) hb2 hs2
  have hdf : (dfb w.heap.size).p W1 S := ⟨x3, hK1⟩
  have hd2 : (dfb w.heap.size).p w2 S2 := (dfb w.heap.size).kept hdf hx2 hnb
  have hd3 := (dfb w.heap.size).kept hd2 z1 (fun k hk hkl => by have h1 : k = w.heap.size := hk; have h2 : k = w.heap.size + 1 := hkl; omega)
  have stE : St ⟨E.P, ⟨E.N.n, markD w.heap.size :: E.N.ds⟩, E.B, E.w0, E.S0, E.r⟩ (dfb w.heap.size :: (Ob R.2 j ++ Oi i')) G { a with defers := [markD w.heap.size] ++ a.defers } (w2.putObj (w.heap.size + 1) (.loop { rec with state := .exhausted, pending := R.1.1.map jc })) S2 := by
    refine ⟨((st.ext.step0 hext).step hx2 hBin).step z1 (fun c hc => z3.1.2 c hc), z2, ?_, ?_⟩
    · refine Own.cons ⟨hd3, fun k hk => .inl (by have h1 : k = w.heap.size := hk; rw [h1]; exact hbl)⟩ (fun f hf k hk hfk => ?_) z3.2.2
      have h1 : k = w.heap.size := hk
      have h2 : ((starE S (recP (w.heap.size + 1) rec (stJ R.1.1) (R.1.1.map jc) :: Oi i')).fp k ∨ fpB (Ob R.2 j) k) := by
        rcases List.mem_append.1 hf with hf | hf
        · exact .inr ⟨f, hf, hfk⟩
        · exact .inl ⟨f, List.mem_cons_of_mem _ hf, hfk⟩
      rcases hnew k h2 with h | h
      · exact hnb k hk h
      · omega
    · refine ⟨st.facts.size, ?_, fun j t hj => t.mono (SH.le_trans (SH.le_refl S) hle2) (st.facts.at_ j t hj)⟩
      show markD w.heap.size :: a.defers = _
      rw [st.facts.defers]
  obtain ⟨k1, k2⟩ := k i' j hi' w.heap.size
  refine ⟨_, _, run_endLoop hl2 hend, ?_⟩
  cases hR1 : R.1.1 with
  | none =>
    rw [hR1] at stE
    exact k1 hR1 _ _ S2 stE
  | some q =>
    rw [hR1] at stE
    have := k2 q hR1 _ _ S2 stE
    show (jc q).wpIn (fw none) 0 E.P Q _ _
    have hE : fw (⟨E.P, ⟨E.N.n, markD w.heap.size :: E.N.ds⟩, E.B, E.w0, E.S0, E.r⟩ : En).r = fw none := hfw
    rw [hE] at this
    exact this
end
end Go.Proofs.Ytbhkincjkpeaoaa

namespace Go.Proofs.Ytbhkincjkpeaoaa
open Go

def oiL (l : List (Option Nat × Nat)) : OI := { h := fun n => l.getD n (none, 0) }
def tMeth (P : Program) {A X ρ : Type} (args : A → List Ty) (Ob : X → OI → List OE) (res : ρ → Ty) (f : X → A → Option (ρ × X)) : Ty where
  p := fun S v => ∀ x y R, f x y = some R → ∃ fid fst cap, v = .func (.func fid) fst cap ∧ callableB P fid = true ∧ ∀ i w S' vs, SH.le S S' → Sat w S' → Tys S' (args y) vs → Own 0 noB w S' (Ob x i) →
    Calls P fid (fst ++ vs.toArray ++ cap) w fun en w' => ∃ j v S'', en = .returned v ∧ (res R.1).p S'' v ∧ Ext (fpB (Ob x i)) w S' w' S'' ∧ Sat w' S'' ∧ Own 0 noB w' S'' (Ob R.2 j) ∧ ∀ k, fpB (Ob R.2 j) k → fpB (Ob x i) k ∨ w.heap.size ≤ k
  mono := fun h k x y R hf => by
    obtain ⟨fid, fst, cap, e, hc, hs⟩ := k x y R hf
    exact ⟨fid, fst, cap, e, hc, fun i w S' vs hle => hs i w S' vs (SH.le_trans h hle)⟩
theorem tMeth_nil {P : Program} {A X ρ : Type} {args : A → List Ty} {Ob : X → OI → List OE} {res : ρ → Ty} {S : SH} {v : Value} : (tMeth P args Ob res (fun _ _ => none)).p S v := fun _ _ _ h => by cases h
section
variable {E : En} {O : List OE} {G : Ctx} {Q : Exit → Act → World → Prop} {ops : Array Oper} {rest : List Oper}
section
variable {dst : Option Tmp} {ty : TypeId} {pos : String} {after : Array Edge} {g : Option (Nat × Bool)}
theorem ok_makeM {A X ρ : Type} {args : A → List Ty} {Ob : X → OI → List OE} {res : ρ → Ty} {f : X → A → Option (ρ × X)} {fid : FuncId} {p : Operand} {b : Nat} (hc : callableB E.P fid = true) (hp : HasTy E.N G p (tV (bptr b 0))) (hs : ∀ x y R, f x y = some R → ∀ i, SpecM E.P fid (tV (bptr b 0) :: args y) (Ob x i) (fun _ : OI => res R.1) (fun j => Ob R.2 j)) :
    OpOK E O G ⟨dst, .makeFunc (.func fid) #[p] #[], ty, pos, after, g⟩ (tMeth E.P args Ob res f) := .of_pure fun a w S _ _ hf => by
  have h1 : a.eval p = bptr b 0 := hp S a hf
  refine ⟨.func (.func fid) #[bptr b 0] #[], by simp [execOp, Instr.makeFunc, h1], fun x y R hR => ⟨fid, #[bptr b 0], #[], rfl, hc, fun i w' S' vs _ hsat hv ho => ?_⟩⟩
  have := hs x y R hR i w' S' (bptr b 0 :: vs) hsat ⟨rfl, hv⟩ ho
  rw [show (#[bptr b 0] ++ vs.toArray ++ #[] : Array Value) = (bptr b 0 :: vs).toArray from by simp]
  exact this
end
theorem eff_callMeth {A X ρ : Type} {args : A → List Ty} {Ob : X → OI → List OE} {res : ρ → Ty} {f : X → A → Option (ρ × X)} {x : X} {y : A} {R : ρ × X} {i : OI} {d : Nat} {ty : TypeId} {pos : String} {after : Array Edge} {g : Option (Nat × Bool)} {fo : Operand} {xs : List Operand} {ats : Array TypeId} {post : OI → List OE} (Or : List OE) (hO : O = Ob x i ++ Or)
    (hf : HasTy E.N G fo (tMeth E.P args Ob res f)) (hR : f x y = some R) (hx : HasTys E.N G xs (args y)) (hpost : ∀ j, Ob R.2 j ++ Or = post j) :
    EffOK E O G ⟨some d, .call ⟨.value fo, xs.toArray, ats⟩, ty, pos, after, g⟩ post (fun _ => res R.1) := fun a w S hsat ho hF hb => by
  subst hO
  obtain rfl : (fun j => Ob R.2 j ++ Or) = post := funext hpost
  obtain ⟨fid, fst, cap, e, hc, hs⟩ := hf S a hF x y R hR
  have hr : (execOp a.eval ⟨some d, .call ⟨.value fo, xs.toArray, ats⟩, ty, pos, after, g⟩).run E.P w = .ok (.enter fid (fst ++ (xs.map a.eval).toArray ++ cap)) w := by
    simp [execOp, resolve, e, Deferred.ofValue, invoke, run_callFunc hc]
  refine ⟨fun c h => (by cases h), ?_⟩
  rw [hr]
  exact (hs i w S _ (SH.le_refl _) hsat (hx.tys hF) (Own.split ho).1.weak).mono fun en w' ⟨j, v, S', he, hv, h1, h2, h3, h4⟩ => ⟨_, he, v, S', j, rfl, h1.more fun b ⟨f, hf, hb⟩ => ⟨f, List.mem_append_left _ hf, hb⟩, h2, Own.turn ho hb h1 h3 h4, hv⟩
theorem SpecM.fix {P : Program} {f : FuncId} {ts : List Ty} {O1 : List OE} {t : Ty} {Ob : OI → List OE} {i : OI} (h : SpecM P f ts O1 (fun _ : OI => t) (fun _ => Ob i)) : SpecM P f ts O1 (fun _ : OI => t) Ob := fun w S vs hs hv ho =>
  (h w S vs hs hv ho).mono fun _ _ ⟨_, v, S', h1, h2, h3, h4, h5, h6⟩ => ⟨i, v, S', h1, h2, h3, h4, h5, h6⟩
section
variable {P : Program} {N : Nat} {w0 : World} {S0 : SH} {fn : Func} {O1 : List OE} {ι : Type} {t : ι → Ty} {O2 : ι → List OE}
theorem AT.retML {rvs : List ResultVar} {ts : List Ty} (hr : fn.results = rvs.toArray) (h1 : Nat.beq rvs.length 1 = false) (h : ResL P ⟨N, []⟩ G rvs ts) (i : ι) (hO : O = O2 i) (ht : t i = tT ts) :
    AT ⟨P, ⟨N, []⟩, fpB O1, w0, S0, none⟩ (bodyPost P fn (endM ⟨P, ⟨N, []⟩, fpB O1, w0, S0, none⟩ O1 t O2)) .ret O G := fun a w S st => by
  obtain ⟨vs, k1, k2, k3⟩ := h.run st.sat st.facts
  have hne : ¬ vs.length = 1 := by rw [k3]; intro e; rw [e] at h1; cases h1
  refine ⟨st.facts.defers, .tuple vs.toArray, ?_, endM_of st rfl i hO (by rw [ht]; exact ⟨vs, rfl, k2⟩)⟩
  have e1 : (fn.results.mapM (resRun a.tmps)).run P w = .ok vs.toArray w := by
    rw [hr, List.mapM_toArray, Sem.run_map, k1]
    rfl
  have e3 : results fn a.tmps = ((fn.results.mapM (resRun a.tmps)) >>= fun vs => pure (if h : vs.size = 1 then vs[0] else .tuple vs)) := rfl
  rw [e3, Sem.run_bind, e1]
  simp [Result.andThen, hne]
end
def tPV (u : Value) (t : Ty) : Ty where
  p := fun S v => v = u ∧ t.p S u
  mono := fun h ⟨e, k⟩ => ⟨e, t.mono h k⟩
theorem St.settleP {α : Type} {r : Rp α} {T : TypeId} {b k : Nat} {x : α} {a : Act} {w : World} {S : SH} (h : St E (bx r T b x :: O) G a w S) (hk : look G k = some (tV (bptr b 0))) : ∃ S', St E O ((k, tPV (bptr b 0) (tPtr r x)) :: G) a w S' := by
  obtain ⟨S', h1⟩ := h.settleB hk
  have hv : a.tmps.getD k undef = bptr b 0 := h.facts.at_ k _ hk
  refine ⟨S', ⟨h1.ext, h1.sat, h1.own, ⟨h1.facts.size, h1.facts.defers, fun j t hj => ?_⟩⟩⟩
  have hp : (tPtr r x).p S' (a.tmps.getD k undef) := h1.facts.at_ k _ (by simp [look])
  by_cases hb : Nat.beq k j = true
  · have e := Nat.eq_of_beq_eq_true hb
    subst e
    simp only [look, Nat.beq_refl, cond_true, Option.some.injEq] at hj
    subst hj
    exact ⟨hv, by rw [← hv]; exact hp⟩
  · rw [Bool.not_eq_true] at hb
    have : look ((k, tPtr r x) :: G) j = some t := by
      simp only [look, hb, cond_false] at hj ⊢; exact hj
    exact h1.facts.at_ j t this
theorem AT.settleP {α : Type} {r : Rp α} {T : TypeId} {b : Nat} {x : α} {e : Exit} (k : Nat) (hk : look G k = some (tV (bptr b 0))) (h : AT E Q e O ((k, tPV (bptr b 0) (tPtr r x)) :: G)) : AT E Q e (bx r T b x :: O) G :=
  fun a w _ st => let ⟨S', st'⟩ := st.settleP hk; h a w S' st'
theorem RG.settleP {α : Type} {r : Rp α} {T : TypeId} {b : Nat} {x : α} (k : Nat) (hk : look G k = some (tV (bptr b 0))) (h : RG E ops Q rest O ((k, tPV (bptr b 0) (tPtr r x)) :: G)) : RG E ops Q rest (bx r T b x :: O) G :=
  fun a w _ st => let ⟨S', st'⟩ := st.settleP hk; h a w S' st'
theorem bx_data {α : Type} {r : Rp α} {hs : HL} {T : TypeId} {b : Nat} {x : α} {base : Nat} {B : Nat → Prop} {w : World} {S : SH} (h : Own base B w S (bx (rH r hs) T b x :: O)) : Own base B w S (bx r T b x :: O) := by
  obtain ⟨⟨⟨h1, c, h2, h3⟩, h4⟩, h5, h6⟩ := h
  exact ⟨⟨⟨h1, c, h2, h3.1⟩, h4⟩, h5, h6⟩
theorem AT.bxData {α : Type} {r : Rp α} {hs : HL} {T : TypeId} {b : Nat} {x : α} {e : Exit} (h : AT E Q e (bx r T b x :: O) G) : AT E Q e (bx (rH r hs) T b x :: O) G := fun a w S st => h a w S (st.own_map bx_data)
theorem RG.bxData {α : Type} {r : Rp α} {hs : HL} {T : TypeId} {b : Nat} {x : α} (h : RG E ops Q rest (bx r T b x :: O) G) : RG E ops Q rest (bx (rH r hs) T b x :: O) G := fun a w S st => h a w S (st.own_map bx_data)
theorem res_place {P : Program} {N : Fr} {G : Ctx} {k j : Nat} {T : TypeId} {u : Value} {t : Ty} {bytes : Nat} {z : List Value} (ti : TI P T 1 bytes false z) (hk : look G k = some (tPtr rV u)) (hj : look G j = some (tPV u t)) : ResOK P N G (.cell k T) t := fun a w S hs hf => by
  obtain ⟨v, h1, h2⟩ := res_cell (r := rV) ti rfl rfl hk a w S hs hf
  have h3 := (tRV_iff.1 h2).1
  subst h3
  obtain ⟨_, h4⟩ := hf.at_ j _ hj
  exact ⟨v, h1, h4⟩
end
section
variable {E : En} {O : List OE} {G : Ctx} {Q : Exit → Act → World → Prop} {ops : Array Oper} {rest : List Oper} {κ β : Type} [DecidableEq κ] {V : MV β} {kv : κ → Value} {b : Nat} {os : List (Option Nat × Nat)} {m : List (κ × β)} {k : κ} {t kt et : TypeId} {x i v : Operand}
  {d : Nat} {dst : Option Nat} {ty : TypeId} {pos : String} {after : Array Edge} {g : Option (Nat × Bool)}
theorem RG.insY {γ : β → Ty} {y : β} (hm : E.P.underlying t = some (.map kt et)) (hk : KeyOK E.P kt kv) (hx : HasTy E.N G x (tV (mapV b))) (hi : KeyAt E.N G i (kv k)) (hv : HasTy E.N G v (γ y))
    (h : ∀ os', RG E ops Q rest (mapO (mvY γ) kv b none os' (mset m k y) :: O) G) :
    RG E ops Q (⟨none, .insert t x i v, ty, pos, after, none⟩ :: rest) (mapO (mvY γ) kv b none os m :: O) G := .of rfl fun a w S st => by
  have h1 : a.eval x = mapV b := hx S a st.facts
  have h2 : a.eval i = kv k := hi S a st.facts
  have h3 : (γ y).p S (a.eval v) := hv S a st.facts
  obtain ⟨⟨hp, hfp⟩, hap, hO⟩ := st.own
  obtain ⟨hno, hnb, es, clock, e3, e4⟩ := hp
  obtain ⟨q, hq, hdk, hinj⟩ := hk
  obtain ⟨os1, p1, p2, _⟩ := ents_punch hdk hinj (k := k) 0 e4
  have hnb1 : ∀ o ∈ os1, o.1 ≠ some b := fun o ho => by
    rcases p1 o ho with h | h
    · exact hnb o h
    · rw [h]; exact fun e => by cases e
  obtain ⟨w', os', r, x1, x2, x3, x4⟩ := map_write (V := mvY γ) (E := E) (y := y) (o := (none, 0)) (val := a.eval v) st.sat hm ⟨q, hq, hdk, hinj⟩ ⟨hno, hnb1, es, clock, e3, p2⟩ ⟨rfl, h3⟩ (fun e => by cases e) (fun _ _ _ e => by cases e)
  have hrun : (execOp a.eval ⟨none, .insert t x i v, ty, pos, after, none⟩).run E.P w = .ok .skip w' := by simp [execOp, h1, h2, r]
  refine ⟨fun c h => (by cases h), ?_⟩
  rw [hrun]
  have hfp' : ∀ j, (mapO (mvY γ) kv b none os' (mset m k y)).fp j → (mapO (mvY γ) kv b none os m).fp j := fun j hj => by
    rcases x4 j hj with (h | ⟨o, ho, e⟩) | e
    · exact .inl h
    · rcases p1 o ho with h | h
      · exact .inr ⟨o, h, e⟩
      · rw [h] at e; cases e
    · cases e
  exact h os' _ _ S ⟨st.ext.step x1 (fun c hc => hfp c (.inl hc)), x2, ⟨⟨x3, fun j hj => hfp j (hfp' j hj)⟩, fun f hf j hj => hap f hf j (hfp' j hj), hO.ext x1 fun f hf j hj hjb => hap f hf j (.inl hjb) hj⟩, st.facts⟩
end
def isT (b : Bool) : Option Unit := if b then some () else none
theorem isT_some {b : Bool} {u : Unit} (h : isT b = some u) : b = true := by
  unfold isT at h
  split at h
  · assumption
  · cases h
end Go.Proofs.Ytbhkincjkpeaoaa

namespace Go.Proofs.Ytbhkincjkpeaoaa
open Go Go.Sort Go.Shelf

def ltF {α : Type} (cmp : α × α → Option Int) (x y : α) : Bool :=
  match cmp (x, y) with
  | some c => decide (c < 0)
  | none => false
structure Good {α : Type} (cmp : α × α → Option Int) (xs : List α) : Prop where
  len : xs.length ≤ 1099511627776
  tot : ∀ x ∈ xs, ∀ y ∈ xs, (cmp (x, y)).isSome = true
  irr : ∀ x ∈ xs, ltF cmp x x = false
  tr : ∀ x ∈ xs, ∀ y ∈ xs, ∀ z ∈ xs, ltF cmp x y = true → ltF cmp y z = true → ltF cmp x z = true
  anti : ∀ x ∈ xs, ∀ y ∈ xs, ltF cmp x y = false → ltF cmp y x = false → x = y
structure Elt {α : Type} (r : Rp α) (S : SH) (XS : List α) : Type where
  v : Value
  x : α
  h : r.rc S [v] x
  m : x ∈ XS
theorem heap_grow_lt {w : World} {os : Array Obj} {k : Nat} (h : k < w.heap.size) : (grow w os).heap[k]? = w.heap[k]? := by
  unfold grow; exact Array.getElem?_append_left h
theorem heap_putRow {α : Type} [Inhabited α] {enc : α → Value} {w : World} {b off : Nat} {d : Array α} {k : Nat} (h : k ≠ b) : (putRow enc w b off d).heap[k]? = w.heap[k]? := by
  unfold putRow mapBlock
  rw [Array.getElem?_modify, if_neg (Ne.symm h)]
theorem heap_sort_ne {α : Type} [Inhabited α] {enc : α → Value} {w : World} {b off m : Nat} {d : Array α} {os : Array Obj} {k : Nat} (hk : k < w.heap.size) (h : k ≠ b) : (sortWorld enc w b off m d os).heap[k]? = w.heap[k]? := by
  unfold sortWorld
  rw [heap_grow_lt (by rw [size_putRow]; exact hk), heap_putRow h]; rfl
theorem heap_sort_eq {α : Type} [Inhabited α] {enc : α → Value} {w : World} {b off m : Nat} {d : Array α} {os : Array Obj} {c : Array Value} {T : TypeId} {fr : Nat × Nat} (h : w.heap[b]? = some (.cells c T fr)) :
    (sortWorld enc w b off m d os).heap[b]? = some (.cells (putCells enc off d c) T fr) := by
  have hlt := (Array.getElem?_eq_some_iff.1 h).1
  unfold sortWorld
  rw [heap_grow_lt (by rw [size_putRow]; exact hlt)]
  unfold putRow mapBlock
  rw [Array.getElem?_modify, if_pos rfl]
  show Option.map _ (w.heap[b]?) = _
  rw [h]; rfl
theorem putCells_take {α : Type} [Inhabited α] {enc : α → Value} {d : Array α} {c : Array Value} (h : d.size ≤ c.size) : (putCells enc 0 d c).toList.take d.size = d.toList.map enc := by
  apply List.ext_getElem?
  intro k
  by_cases hk : k < d.size
  · rw [List.getElem?_take_of_lt hk]
    have hc : k < c.size := by omega
    simp [putCells, hc, hk]
  · rw [List.getElem?_eq_none (by simp; omega), List.getElem?_eq_none (by simp; omega)]
section
variable {E : En} {O : List OE} {G : Ctx} {Q : Exit → Act → World → Prop} {ops : Array Oper} {rest : List Oper} {d : Nat} {ty : TypeId} {pos : String} {after : Array Edge}
theorem RG.relen {n m : Nat} {l : Option Nat} {cap : Nat} (hl : m = n) (s : Nat) (hs : look G s = some (tV (oslV l cap n))) (k : RG E ops Q rest O ((s, tV (oslV l cap m)) :: G)) : RG E ops Q rest O G := by
  subst hl
  exact fun a w S st => k a w S ⟨st.ext, st.sat, st.own, ⟨st.facts.size, st.facts.defers, fun j t h => by
    unfold look at h
    by_cases hb : Nat.beq s j = true
    · rw [hb] at h
      have := Nat.eq_of_beq_eq_true hb
      subst this
      have e : tV (oslV l cap m) = t := by simpa using h
      rw [← e]; exact st.facts.at_ s _ hs
    · rw [Bool.not_eq_true] at hb
      rw [hb] at h
      exact st.facts.at_ j t h⟩⟩
end
end Go.Proofs.Ytbhkincjkpeaoaa

namespace Go.Proofs.Ytbhkincjkpeaoaa
open Go Go.Sort Go.Shelf

def sortI (xs : List Int) : List Int := xs.mergeSort fun x y => decide (x ≤ y)
theorem sortI_len (xs : List Int) : (sortI xs).length = xs.length := by unfold sortI; simp
def sortIF (xs : List Int) : Option (List Int) := if xs.length ≤ 68719476736 then some (sortI xs) else none
theorem sortIF_some {xs ys : List Int} (h : sortIF xs = some ys) : xs.length ≤ 68719476736 ∧ ys = sortI xs := by
  unfold sortIF at h
  split at h
  · exact ⟨by assumption, by simpa using h.symm⟩
  · cases h
theorem rcs_int {k : IntKind} {S : SH} : ∀ {xs : List Int} {cs : List Value}, rcs (rI k) S cs xs → cs = xs.map (Value.int k)
  | [], cs, h => by rw [show cs = [] from h]; rfl
  | x :: xs, cs, ⟨a, b, e, h1, h2⟩ => by
    rw [e, show a = [.int k x] from h1, rcs_int h2]
    rfl
theorem int_rcs {k : IntKind} {S : SH} : ∀ xs : List Int, rcs (rI k) S (xs.map (Value.int k)) xs
  | [] => rfl
  | x :: xs => ⟨[.int k x], _, rfl, rfl, int_rcs xs⟩
theorem sortI_arr {P : Program} {ρ : Ren} (L : Lays.n189 P ρ) {T : TypeId} {l : Option Nat} {cap : Nat} {xs : List Int} {w : World} {S : SH} (hlen0 : xs.length ≤ 68719476736) (hs : Sat w S) (h : (arr (rI .i64) T l cap xs).p w S) :
    Calls P (ρ.f 189) #[oslV l cap xs.length] w fun e w' => e = .returned (.tuple #[]) ∧ Ext (fun k => l = some k) w S w' S ∧ Sat w' S ∧ (arr (rI .i64) T l cap (sortI xs)).p w' S := by
  cases l with
  | none =>
    have hx : xs = [] := List.eq_nil_of_length_eq_zero (by obtain ⟨_, h4, _⟩ := h; exact h4.1)
    subst hx
    exact (Any.slices_Sort_int_none (P := P) (ρ := ρ) L none 0 w).mono fun _ _ ⟨h1, h2⟩ => by subst h2; exact ⟨h1, Ext.refl _ _ _, hs, by simpa [sortI] using h⟩
  | some b =>
    obtain ⟨cells0, ⟨cur, hb, hle, hmax, hcs, hct⟩, hrc, hno0⟩ := h
    have hno : S b = none := hno0 b rfl
    subst hct
    have h1 : (rI .i64).sz = 1 := rfl
    rw [h1, Nat.mul_one] at hcs hrc
    have hcells := rcs_int hrc
    have hH : Holds (Value.int .i64) w b 0 xs.toArray := by
      intro j hj
      have hj' : j < xs.length := by simpa using hj
      have hc : cur[j]? = some (Value.int .i64 xs.toArray[j]!) := by
        have : (cur.toList.take xs.length)[j]? = some (Value.int .i64 xs.toArray[j]!) := by
          rw [hcells, List.getElem?_map, getElem!_pos xs.toArray j hj]
          simp [hj']
        rw [List.getElem?_take_of_lt (by omega)] at this
        simpa using this
      refine ⟨by simp [World.cell?, hb, hc], ?_⟩
      simp [World.frozen?, hb]
    have hblk := (Array.getElem?_eq_some_iff.1 hb).1
    have hcall := calls_of_every_depth fun D => AnyS.slices_Sort_int_alone (P := P) (ρ := ρ) L D b 0 cap xs w hH hblk (by omega)
    refine hcall.mono fun e w' ⟨he, n, os, hw⟩ => ?_
    have hlen := sortI_len xs
    have hw2 : w' = sortWorld (Value.int .i64) w b 0 n (sortI xs).toArray os := hw
    subst hw2
    refine ⟨he, ⟨rfl, rfl, rfl, Nat.le_add_right _ _, ?_, fun k hk hkb => heap_sort_ne hk (fun e => hkb (by rw [e])), SH.le_refl _, fun _ _ _ => rfl⟩, hs.same fun k o hk => ?_, ⟨_, ⟨_, heap_sort_eq hb, by omega, hmax, ?_, rfl⟩, ?_, hno0⟩⟩
    · unfold sortWorld; rw [size_grow, size_putRow]; exact Nat.le_add_right _ _
    · have hkb : k ≠ b := fun e => by subst e; rw [hno] at hk; cases hk
      exact heap_sort_ne (hs.lt hk) hkb
    · simp [putCells, h1, hcs]
    · have e1 : (sortI xs).length * (rI .i64).sz = (sortI xs).toArray.size := by rw [h1]; simp
      rw [e1, putCells_take (by simp; omega)]
      exact int_rcs (sortI xs)
section
variable {E : En} {O : List OE} {G : Ctx} {Q : Exit → Act → World → Prop} {ops : Array Oper} {rest : List Oper} {d : Nat} {ty : TypeId} {pos : String} {after : Array Edge}
theorem RG.sortI {ρ : Ren} (L : Lays.n189 E.P ρ) {f : FuncId} (hf : ρ.f 189 = f) (hc : callableB E.P f = true) {T : TypeId} {l : Option Nat} {cap n : Nat} {xs ys : List Int} {x : Operand} {ats : Array TypeId} (hy : sortIF xs = some ys)
    (hx : HasTy E.N G x (tV (oslV l cap n))) (hn : n = xs.length) (hd : Nat.blt d E.N.n = true)
    (k : ys.length = n → RG E ops Q rest (arr (rI .i64) T l cap ys :: O) ((d, tAny) :: G)) : RG E ops Q (⟨some d, .call ⟨.value (.func f), #[x], ats⟩, ty, pos, after, none⟩ :: rest) (arr (rI .i64) T l cap xs :: O) G := .of rfl fun a w S st => by
  obtain ⟨hl0, rfl⟩ := sortIF_some hy
  subst hf
  subst hn
  have h1 : a.eval x = oslV l cap xs.length := hx S a st.facts
  have hr : (execOp a.eval ⟨some d, .call ⟨.value (.func (ρ.f 189)), #[x], ats⟩, ty, pos, after, none⟩).run E.P w = .ok (.enter (ρ.f 189) #[oslV l cap xs.length]) w := by
    have e0 : a.eval (.func (ρ.f 189)) = .func (.func (ρ.f 189)) #[] #[] := rfl
    simp [execOp, resolve, e0, h1, Deferred.ofValue, invoke, run_callFunc hc]
  refine ⟨fun c h => (by cases h), ?_⟩
  rw [hr]
  refine (sortI_arr L hl0 st.sat st.own.1.1).mono fun e w' ⟨he, hext, hsat, hp⟩ => ⟨_, he, ?_⟩
  have hfp : ∀ g ∈ O, ∀ b, g.fp b → ¬ (l = some b) := fun g hg b hb hl => st.own.2.1 g hg b hl hb
  refine k (sortI_len xs) _ _ S ⟨st.ext.step hext (fun c hc => st.own.1.2 c hc), hsat, ⟨⟨hp, st.own.1.2⟩, st.own.2.1, st.own.2.2.ext hext hfp⟩, ?_⟩
  exact (st.facts.mono hext.keep).put hd trivial
end
end Go.Proofs.Ytbhkincjkpeaoaa

namespace Go.Proofs.Ytbhkincjkpeaoaa
open Go Go.ChangeShapes Go.WideShapes Go.ChangeAt Go.RowKit

section
variable {H : Type} {enc : TypeId × Value → H} {P : Program}
def memS (W : World) : SH := fun b => W.heap[b]?
theorem sat_hS (W : World) : Sat W (memS W) := fun _ o h => ⟨o, h, ole_refl o⟩
def ToR (enc : TypeId × Value → H) (P : Program) (W : World) {α : Type} (t : TypeId) (r : Rp α) : Prop :=
  P.cellsOf t = r.sz ∧ ∀ fuel cs x, DataW.trod enc P W 0 (fun _ => true) true fuel t cs = some x → ∃ y, r.rc (memS W) cs y
theorem toR_bool {W : World} {t : TypeId} (h : P.underlying t = some .bool) (hc : P.cellsOf t = 1) : ToR enc P W t rB := ⟨hc, fun fuel cs x hx => by
  cases fuel with
  | zero => simp [DataW.trod] at hx
  | succ n =>
    unfold DataW.trod at hx
    rw [h] at hx
    split at hx
    all_goals try (injections; done)
    · exact ⟨_, rfl⟩⟩
theorem mapM_some {α β : Type} {f : α → Option β} : ∀ {l : List α} {r : List β}, l.mapM f = some r → r.length = l.length ∧ ∀ (i : Nat) (x : α), l[i]? = some x → ∃ y, r[i]? = some y ∧ f x = some y
  | [], r, h => by
    simp at h
    subst h
    exact ⟨rfl, fun i x hx => by simp at hx⟩
  | a :: l, r, h => by
    rw [List.mapM_cons] at h
    cases hf : f a with
    | none => rw [hf] at h; simp at h
    | some b =>
      rw [hf] at h
      cases hm : l.mapM f with
      | none => rw [hm] at h; simp at h
      | some r' =>
        rw [hm] at h
        simp at h
        subst h
        obtain ⟨h1, h2⟩ := mapM_some hm
        refine ⟨by simp [h1], fun i x hx => ?_⟩
        cases i with
        | zero => simp at hx; subst hx; exact ⟨b, rfl, hf⟩
        | succ i => exact h2 i x (by simpa using hx)
theorem cell_some {W : World} {a : Addr} {v : Value} (h : W.cell? a = some v) : a.spot = none ∧ ∃ c E fr, W.heap[a.block]? = some (.cells c E fr) ∧ c[a.off]? = some v := by
  unfold World.cell? at h
  cases ho : W.heap[a.block]? with
  | none => rw [ho] at h; cases h
  | some o =>
    rw [ho] at h
    cases o with
    | cells c E fr =>
      simp only at h
      by_cases hs : a.spot.isSome = true
      · rw [if_pos hs] at h; cases h
      · rw [if_neg hs] at h
        exact ⟨by cases hq : a.spot with
          | none => rfl
          | some s => rw [hq] at hs; simp at hs, c, E, fr, rfl, h⟩
    | _ => simp at h
theorem add_zero' (a : Addr) : a.add 0 = a := by unfold Addr.add; rfl
theorem cells_some {W : World} {b off n : Nat} {cs : List Value} (h : W.cells? 0 ⟨b, off, none⟩ n = some cs) (hn : 0 < n) : ∃ c E fr, W.heap[b]? = some (.cells c E fr) ∧ cs = (c.toList.drop off).take n := by
  unfold World.cells? at h
  rw [if_pos (Nat.zero_le _)] at h
  obtain ⟨h1, h2⟩ := mapM_some h
  obtain ⟨v, _, hv⟩ := h2 0 0 (by simp [hn])
  obtain ⟨_, c, E, fr, h3, h4⟩ := cell_some hv
  refine ⟨c, E, fr, by simpa [Addr.add] using h3, ?_⟩
  apply List.ext_getElem?
  intro i
  have hl : cs.length = n := by simpa using h1
  by_cases hi : i < n
  · obtain ⟨v, h5, h6⟩ := h2 i i (by simp [hi])
    obtain ⟨_, c', E', fr', h7, h8⟩ := cell_some h6
    rw [addr_add] at h7 h8
    have h7' : W.heap[b]? = some (.cells c' E' fr') := h7
    have h3' : W.heap[b]? = some (.cells c E fr) := by simpa [Addr.add] using h3
    rw [h3'] at h7'
    injection h7' with h7'
    injection h7' with e1
    subst e1
    rw [h5, List.getElem?_take_of_lt hi, List.getElem?_drop]
    simpa using h8.symm
  · rw [List.getElem?_eq_none (by omega), List.getElem?_eq_none (by simp; omega)]
theorem toR_elems {W : World} {α : Type} {e : TypeId} {q : Rp α} {n len cap : Nat} {a : Addr} {x : DataW H × List MemPlace} (h0' : 0 < q.sz) (hq : ToR enc P W e q)
    (hx : (let elemAt (i : Nat) : Option (DataW H × List MemPlace) := (W.cells? 0 (a.add (i * P.cellsOf e)) (P.cellsOf e)).bind (DataW.trod enc P W 0 (fun _ => true) true n e)
      if 0 ≤ a.block ∧ len ≤ cap ∧ cap ≤ maxLen then
        ((List.range len).mapM elemAt).bind fun elems =>
          (if (fun _ => true) a.block then (List.range (cap - len)).mapM fun j => elemAt (len + j) else some []).map fun rest =>
            (DataW.slice (elems.map (·.1)) (rest.map (·.1)), MemPlace.row a ((elems.length + rest.length) * P.cellsOf e) ++ (elems ++ rest).flatMap (·.2))
      else none) = some x) : ∃ y, (rSl q).rc (memS W) [.slice (some a) len cap] y := by
  simp only at hx
  split at hx
  · rename_i hcond
    obtain ⟨_, hle, hmax⟩ := hcond
    cases hm : (List.range len).mapM (fun i => (W.cells? 0 (a.add (i * P.cellsOf e)) (P.cellsOf e)).bind (DataW.trod enc P W 0 (fun _ => true) true n e)) with
    | none => rw [hm] at hx; simp at hx
    | some elems =>
      obtain ⟨hm1, hm2⟩ := mapM_some hm
      rw [hq.1] at hm2
      by_cases hl0 : len = 0
      · subst hl0; exact ⟨[], some a, cap, rfl, Nat.zero_le _, hmax, .inl rfl⟩
      have hsp0 : a.spot = none := by
        obtain ⟨z, _, hz⟩ := hm2 0 0 (by rw [List.getElem?_range (by omega)])
        rw [Nat.zero_mul, add_zero'] at hz
        cases hcs : W.cells? 0 a q.sz with
        | none => rw [hcs] at hz; simp at hz
        | some cs1 =>
          unfold World.cells? at hcs
          rw [if_pos (Nat.zero_le _)] at hcs
          obtain ⟨_, g2⟩ := mapM_some hcs
          obtain ⟨v, _, hv⟩ := g2 0 0 (by simp [h0'])
          rw [add_zero'] at hv
          exact (cell_some hv).1
      have hcell : ∀ i, i < len → ∃ c E fr, a.spot = none ∧ W.heap[a.block]? = some (.cells c E fr) ∧ ∃ y, q.rc (memS W) ((c.toList.drop (a.off + i * q.sz)).take q.sz) y := by
        intro i hi
        obtain ⟨z, _, hz⟩ := hm2 i i (by simp [hi])
        cases hcs : W.cells? 0 (a.add (i * q.sz)) q.sz with
        | none => rw [hcs] at hz; simp at hz
        | some cs1 =>
          rw [hcs] at hz
          have hsp : a.spot = none := hsp0
          obtain ⟨ab, ao, az⟩ := a
          simp only at hsp
          subst hsp
          rw [addr_add] at hcs
          obtain ⟨c, E, fr, g1, g2⟩ := cells_some hcs h0'
          obtain ⟨y, hy⟩ := hq.2 n cs1 z hz
          exact ⟨c, E, fr, rfl, g1, y, by rw [← g2]; exact hy⟩
      obtain ⟨c, E, fr, hsp, hb, _⟩ := hcell 0 (by omega)
      have key : ∀ m, m ≤ len → ∃ ys : List α, ys.length = m ∧ rcs q (memS W) ((c.toList.drop a.off).take (m * q.sz)) ys := by
        intro m
        induction m with
        | zero => intro _; exact ⟨[], rfl, by simp [rcs]⟩
        | succ m ih =>
          intro hm'
          obtain ⟨ys, hy1, hy2⟩ := ih (by omega)
          obtain ⟨c', E', fr', _, hb', y, hy⟩ := hcell m (by omega)
          rw [hb] at hb'
          injection hb' with hb'
          injection hb' with e1
          subst e1
          refine ⟨ys ++ [y], by simp [hy1], ?_⟩
          have hsplit : (c.toList.drop a.off).take ((m + 1) * q.sz) = (c.toList.drop a.off).take (m * q.sz) ++ (c.toList.drop (a.off + m * q.sz)).take q.sz := by
            rw [Nat.add_mul, Nat.one_mul, List.take_add, List.drop_drop]
          rw [hsplit]
          exact rcs_append hy2 (rcs_single.2 hy)
      obtain ⟨ys, hy1, hy2⟩ := key len (Nat.le_refl _)
      obtain ⟨ab, ao, az⟩ := a
      simp only at hsp
      subst hsp
      exact ⟨ys, some ⟨ab, ao, none⟩, cap, by rw [hy1], by omega, hmax, .inr ⟨ab, ao, c, E, fr, rfl, hb, by rw [hy1]; exact hy2⟩⟩
  · cases hx
theorem toR_slice {W : World} {α : Type} {t e : TypeId} {q : Rp α} (h : P.underlying t = some (.slice e)) (hc : P.cellsOf t = 1) (h0 : Nat.blt 0 q.sz = true) (hq : ToR enc P W e q) : ToR enc P W t (rSl q) := ⟨hc, fun fuel cs x hx => by
  have h0' : 0 < q.sz := by simpa [Nat.blt_eq] using h0
  cases fuel with
  | zero => simp [DataW.trod] at hx
  | succ n =>
    unfold DataW.trod at hx
    rw [h] at hx
    split at hx
    all_goals try (injections; done)
    · exact ⟨[], none, 0, rfl, Nat.le_refl _, Nat.zero_le _, .inl rfl⟩
    · rename_i e' a len cap heq
      injection heq with e1
      injection e1 with e1
      subst e1
      exact toR_elems h0' hq hx⟩
def FRep (enc : TypeId × Value → H) (P : Program) (W : World) {α : Type} (off : Nat) (l : List (TypeId × Nat)) (r : Rp α) : Prop :=
  ∀ (fuel : Nat) (cs : List Value), cs.length = off + r.sz → (∀ f ∈ l, ∃ x, DataW.trod enc P W 0 (fun _ => true) true fuel f.1 ((cs.drop f.2).take (P.cellsOf f.1)) = some x) → ∃ y, r.rc (memS W) (cs.drop off) y
theorem frep_one {W : World} {α : Type} {r : Rp α} {t off : Nat} (h : ToR enc P W t r) : FRep enc P W off [(t, off)] r := fun fuel cs hl hx => by
  obtain ⟨x, hx⟩ := hx _ (List.mem_singleton_self _)
  simp only at hx
  rw [h.1, List.take_of_length_le (by simp; omega)] at hx
  exact h.2 _ _ _ hx
theorem frep_cons {W : World} {α β : Type} {p : Rp α} {q : Rp β} {t off off' : Nat} {l : List (TypeId × Nat)} (h : ToR enc P W t p) (ho : off' = off + p.sz) (hr : FRep enc P W off' l q) : FRep enc P W off ((t, off) :: l) (rPair p q) := fun fuel cs hl hx => by
  subst ho
  obtain ⟨x, hx1⟩ := hx _ (List.mem_cons_self ..)
  simp only at hx1
  rw [h.1] at hx1
  obtain ⟨y, hy⟩ := h.2 _ _ _ hx1
  obtain ⟨z, hz⟩ := hr fuel cs (by rw [hl]; show off + (p.sz + q.sz) = _; omega) fun f hf => hx f (List.mem_cons_of_mem _ hf)
  exact ⟨(y, z), _, _, by rw [← List.drop_drop]; exact (List.take_append_drop _ _).symm, hy, hz⟩
theorem toR_struct {W : World} {α β : Type} {t : TypeId} {l : List (TypeId × Nat)} {p : Rp α} {f : β → α} (ht : (P.underlying t).map (fun d => match d with | .struct l => (true, l.toList.map fun f => (f.type, f.offset)) | _ => (false, [])) = some (true, l)) (hc : P.cellsOf t = p.sz) (hf : ∀ y, ∃ x, f x = y) (hl : FRep enc P W 0 l p) : ToR enc P W t (rMap p f) := ⟨hc, fun fuel cs x hx => by
  obtain ⟨fs, h1, h2⟩ : ∃ fs, P.underlying t = some (.struct fs) ∧ fs.toList.map (fun f => (f.type, f.offset)) = l := by
    cases hu : P.underlying t with
    | none => rw [hu] at ht; cases ht
    | some d =>
      rw [hu] at ht
      cases d <;> simp at ht
      exact ⟨_, rfl, ht⟩
  cases fuel with
  | zero => simp [DataW.trod] at hx
  | succ n =>
    unfold DataW.trod at hx
    rw [h1] at hx
    change (if cs.length = P.cellsOf t then (fs.toList.mapM fun f => DataW.trod enc P W 0 (fun _ => true) true n f.type ((cs.drop f.offset).take (P.cellsOf f.type))).map (fun xs => (DataW.agg (xs.map (·.1)), xs.flatMap (·.2))) else none) = some x at hx
    split at hx
    · rename_i hlen
      cases hm : fs.toList.mapM (fun f => DataW.trod enc P W 0 (fun _ => true) true n f.type ((cs.drop f.offset).take (P.cellsOf f.type))) with
      | none => rw [hm] at hx; simp at hx
      | some r =>
        obtain ⟨_, hm2⟩ := mapM_some hm
        obtain ⟨y, hy⟩ := hl n cs (by rw [hlen, hc]; omega) (fun g hg => by
          rw [← h2, List.mem_map] at hg
          obtain ⟨f0, hf0, rfl⟩ := hg
          obtain ⟨i, hi⟩ := List.getElem?_of_mem hf0
          obtain ⟨z, _, hz⟩ := hm2 i f0 hi
          exact ⟨z, hz⟩)
        obtain ⟨x', hx'⟩ := hf y
        refine ⟨x', ?_⟩
        show p.rc _ cs (f x')
        rw [hx']
        simpa using hy
    · cases hx⟩
theorem below_of_ext {W W' : World} {S S' : SH} (h : Ext noB W S W' S') : Below W.heap.size W W' := ⟨h.os, h.tape, h.output, h.size, fun k hk => h.heap k hk (fun h => h)⟩
theorem trodAll_stays (hl : laidOutB P = true) {W W' : World} (hb : Below W.heap.size W W') {sp : Nat → Bool} : ∀ {ts : List TypeId} {vs : List Value} {ds : List (DataW H)} {ps : List MemPlace}, (∀ t ∈ ts, P.readableRec t = true ∧ t < P.types.size) →
    DataW.TrodAll enc P W 0 (fun _ => true) true ts vs ds ps → (∀ p ∈ ps, p.block < W.heap.size) → (∀ p ∈ ps, sp p.block = true) → DataW.TrodAll enc P W' 0 sp true ts vs ds ps
  | [], [], [], _, _, h, _, _ => h
  | t :: ts, v :: vs, d :: ds, _, hr, ⟨p, q, h1, h2, e⟩, hlt, hsp => by
    subst e
    have ht := hr t (List.mem_cons_self ..)
    exact ⟨p, q, WideElems.Trod_stays hl ht.1 ht.2 h1 (fun x hx => hb.same (hlt x (List.mem_append_left _ hx))) (fun x hx => hsp x (List.mem_append_left _ hx)),
      trodAll_stays hl hb (fun t ht => hr t (List.mem_cons_of_mem _ ht)) h2 (fun x hx => hlt x (List.mem_append_right _ hx)) (fun x hx => hsp x (List.mem_append_right _ hx)), rfl⟩
theorem law_post {f : Func} {s : ChangeSpec} {apart fresh handsOn again : Bool} {W W' : World} {args : Array Value} {ds gs : List (DataW H)} {before : List MemPlace} {tb : TypeId}
    (hl : laidOutB P = true) (hr : ∀ t ∈ f.params.toList, P.readableRec t = true ∧ t < P.types.size) (hvs : s.vars = []) (hres : f.resultTypes = #[tb]) (htb : P.underlying tb = some .bool)
    (hW : DataW.Whole enc P f.params.toList s.vars apart W args.toList ds gs before) (hs : s.fn H (ds ++ gs) = { results := [.lit (.bool true)], args := ds }) (hb : Below W.heap.size W W') :
    s.post enc P f apart fresh handsOn again W args (.bool true) W' := by
  have hW0 := hW
  have hlt := hW.lt
  obtain ⟨pa, pv, hA, hV, rfl, hz, hn⟩ := hW
  rw [hvs] at hV
  have hpv : pv = [] := by
    cases gs with
    | nil => exact hV
    | cons g gs => exact hV.elim
  subst hpv
  have hlt' : ∀ p ∈ pa, p.block < W.heap.size := fun p hp => hlt p (by simpa using hp)
  have hargs : ∀ sp : Nat → Bool, (∀ p ∈ pa, sp p.block = true) → DataW.TrodAll enc P W' 0 sp true f.params.toList args.toList ds pa := fun sp hsp => trodAll_stays hl hb hr hA hlt' hsp
  have hresT : ∀ (b : Nat) (sp : Nat → Bool) (hd : Bool), DataW.TrodAll enc P W' b sp hd f.resultTypes.toList ((Value.bool true).resultList f.resultTypes.size) [.lit (.bool true)] [] := fun b sp hd => by
    rw [hres]
    exact ⟨[], [], ⟨1, by simp [DataW.trod, htb, Value.cells]⟩, rfl, rfl⟩
  have hvT : ∀ sp : Nat → Bool, DataW.TrodVars enc P W' sp s.vars (s.fn H (ds ++ gs)).vars [] := fun sp => by
    rw [hvs, hs]; rfl
  have hargs' : ∀ sp : Nat → Bool, (∀ p ∈ pa, sp p.block = true) → DataW.TrodAll enc P W' 0 sp true f.params.toList args.toList (s.fn H (ds ++ gs)).args pa := fun sp hsp => by rw [hs]; exact hargs sp hsp
  have hres' : ∀ (b : Nat) (sp : Nat → Bool) (hd : Bool), DataW.TrodAll enc P W' b sp hd f.resultTypes.toList ((Value.bool true).resultList f.resultTypes.size) (s.fn H (ds ++ gs)).results [] := fun b sp hd => by rw [hs]; exact hresT b sp hd
  have hold : ∀ p ∈ pa, (fun b => decide (b < W.heap.size)) p.block = true := fun p hp => by simpa using hlt' p hp
  refine ⟨ds, gs, pa ++ [], [], pa, [], hW0, hres' _ _ _, hargs' _ hold, hvT _, World.keptBut_mono (fun p hp => ⟨hp, ?_⟩) (hb.frame _), fun _ => ?_⟩
  · right; simpa using hp
  · refine ⟨?_, _, _, ([] ++ pa) ++ [], ⟨[] ++ pa, [], trodAll_append (hargs' _ (fun _ _ => rfl)) (hres' _ _ _), hvT _, rfl, ?_, ?_⟩, ?_⟩
    · intro j t r h1 h2
      rw [hres] at h1 h2
      cases j with
      | zero =>
        simp [Value.resultList] at h1 h2
        subst h1 h2
        simp [Value.okWide, htb, Cell.okWide, Cell.ok]
      | succ j => simp at h1
    · intro b off hp
      have hp' : MemPlace.cell b off ∈ pa := by simpa using hp
      have := hlt' _ hp'
      rw [hb.frozen (p := ⟨b, off, none⟩) this]
      exact hz b off (by simpa using hp')
    · intro ha
      have := hn ha
      simpa using this
    · intro p hp _
      simpa using hp
end
end Go.Proofs.Ytbhkincjkpeaoaa

namespace Go.Proofs.Ytbhkincjkpeaoaa
open Go Go.ChangeShapes Go.WideShapes Go.ChangeAt Go.RowKit

section
variable {H : Type} {enc : TypeId × Value → H} {P : Program}
def rOk {α : Type} (r : Rp α) (ok : α → Prop) : Rp α where
  sz := r.sz
  agg := r.agg
  rc := fun S cs x => r.rc S cs x ∧ ok x
  mono := fun h k => ⟨r.mono h k.1, k.2⟩
  len := fun k => r.len k.1
  one := fun k => r.one k.1
  sc := r.sc
def inK (k : IntKind) (n : Int) : Prop := k.min ≤ n ∧ n ≤ k.max
def inS (s : Str) : Prop := s.length ≤ maxLen
def inL {α : Type} (ok : α → Prop) (xs : List α) : Prop := xs.length ≤ maxLen ∧ ∀ x ∈ xs, ok x
def inT {α : Type} (_ : α) : Prop := True
theorem toR_intO {W : World} {t : TypeId} {k : IntKind} (h : P.underlying t = some (.int k)) (hc : P.cellsOf t = 1) : ToR enc P W t (rOk (rI k) (inK k)) := ⟨hc, fun fuel cs x hx => by
  cases fuel with
  | zero => simp [DataW.trod] at hx
  | succ n =>
    unfold DataW.trod at hx
    rw [h] at hx
    split at hx
    all_goals try (injections; done)
    · rename_i k1 k2 m heq
      injection heq with e
      injection e with e
      subst e
      split at hx
      · rename_i h2
        obtain ⟨rfl, h3⟩ := h2
        simp only [Lit.wf, Bool.and_eq_true, decide_eq_true_eq] at h3
        exact ⟨m, rfl, h3⟩
      · cases hx⟩
theorem toR_strO {W : World} {t : TypeId} (h : P.underlying t = some .string) (hc : P.cellsOf t = 1) : ToR enc P W t (rOk rS inS) := ⟨hc, fun fuel cs x hx => by
  cases fuel with
  | zero => simp [DataW.trod] at hx
  | succ n =>
    unfold DataW.trod at hx
    rw [h] at hx
    split at hx
    all_goals try (injections; done)
    · rename_i s heq
      split at hx
      · rename_i h2; exact ⟨s.data.toList, rfl, (show s.data.toList.length ≤ maxLen from (show s.size = s.data.toList.length from rfl) ▸ h2)⟩
      · cases hx⟩
theorem toR_boolO {W : World} {t : TypeId} (h : P.underlying t = some .bool) (hc : P.cellsOf t = 1) : ToR enc P W t (rOk rB inT) :=
  ⟨hc, fun fuel cs x hx => by obtain ⟨y, hy⟩ := (toR_bool (enc := enc) (W := W) h hc).2 fuel cs x hx; exact ⟨y, hy, trivial⟩⟩
def Ref {α : Type} (r' r : Rp α) (ok : α → Prop) : Prop := r'.sz = r.sz ∧ r'.agg = r.agg ∧ ∀ S cs x, r'.rc S cs x → r.rc S cs x ∧ ok x
theorem ref_ok {α : Type} {r : Rp α} {ok : α → Prop} : Ref (rOk r ok) r ok := ⟨rfl, rfl, fun _ _ _ h => h⟩
theorem ref_rcs {α : Type} {r' r : Rp α} {ok : α → Prop} (h : Ref r' r ok) {S : SH} : ∀ {xs : List α} {cs : List Value}, rcs r' S cs xs → rcs r S cs xs ∧ ∀ x ∈ xs, ok x
  | [], _, k => ⟨k, fun x hx => by cases hx⟩
  | x :: xs, _, ⟨a, b, e, h1, h2⟩ => by
    obtain ⟨g1, g2⟩ := h.2.2 _ _ _ h1
    obtain ⟨g3, g4⟩ := ref_rcs h h2
    exact ⟨⟨a, b, e, g1, g3⟩, fun y hy => by
      rcases List.mem_cons.1 hy with rfl | hy
      · exact g2
      · exact g4 y hy⟩
theorem ref_sl {α : Type} {r' r : Rp α} {ok : α → Prop} (h : Ref r' r ok) : Ref (rSl r') (rSl r) (inL ok) := ⟨rfl, rfl, fun S cs xs ⟨a, cap, e, h1, h2, h3⟩ => by
  rcases h3 with h3 | ⟨b, off, c, E, fr, e1, e2, e3⟩
  · exact ⟨⟨a, cap, e, h1, h2, .inl h3⟩, by omega, fun x hx => by rw [h3] at hx; cases hx⟩
  · rw [h.1] at e3
    obtain ⟨g1, g2⟩ := ref_rcs h e3
    exact ⟨⟨a, cap, e, h1, h2, .inr ⟨b, off, c, E, fr, e1, e2, g1⟩⟩, by omega, g2⟩⟩
theorem ref_pair {α β : Type} {p' p : Rp α} {q' q : Rp β} {f : α → Prop} {g : β → Prop} (h : Ref p' p f) (k : Ref q' q g) : Ref (rPair p' q') (rPair p q) (fun x => f x.1 ∧ g x.2) :=
  ⟨by show p'.sz + q'.sz = p.sz + q.sz; rw [h.1, k.1], rfl, fun S cs x ⟨a, b, e, h1, h2⟩ => ⟨⟨a, b, e, (h.2.2 _ _ _ h1).1, (k.2.2 _ _ _ h2).1⟩, (h.2.2 _ _ _ h1).2, (k.2.2 _ _ _ h2).2⟩⟩
theorem ref_map {α β : Type} {p' p : Rp α} {ok : α → Prop} {f : β → α} (h : Ref p' p ok) : Ref (rMap p' f) (rMap p f) (fun x => ok (f x)) :=
  ⟨h.1, rfl, fun S cs x k => h.2.2 _ _ _ k⟩
theorem arg_agg {W : World} {α : Type} {t : TypeId} {r' r : Rp α} {ok : α → Prop} (h : ToR enc P W t r') (hr : Ref r' r ok) (hag : r.agg = true) {v : Value} {d : DataW H} {ps : List MemPlace} (hv : DataW.Trod enc P W 0 (fun _ => true) true t v d ps) (hc : v = .agg v.cells) : ∃ y, (tD r y).p (memS W) v ∧ ok y := by
  obtain ⟨fuel, hx⟩ := hv
  obtain ⟨y, hy⟩ := h.2 _ _ _ hx
  obtain ⟨g1, g2⟩ := hr.2.2 _ _ _ hy
  exact ⟨y, ⟨_, by unfold Rp.val; rw [hag, if_pos rfl]; exact hc, g1⟩, g2⟩
theorem cells_struct {W : World} {base : Nat} {t : TypeId} {l : Array Field} {v : Value} (ht : P.underlying t = some (.struct l)) (hv : Value.okWide P W .any base t v) : v = .agg v.cells := by
  unfold Value.okWide at hv
  rw [ht] at hv
  obtain ⟨cs, e, _⟩ := hv
  rw [e]
  rfl
end
end Go.Proofs.Ytbhkincjkpeaoaa

