/- A small logic over the walk's rules: guarded operations, and regions whose order is open. It states nothing of any program. -/
import Derived.Test.YtchjhcgkfglgiaaW7
namespace Go.Proofs.Ytchjhcgkfglgiaa
open Go

/-- What a guarded operation has left. -/
def tOpt (c : Bool) (t : Ty) : Ty where
  p := fun S v => if c = true then t.p S v else v = undef
  mono := fun h k => by
    split
    · rename_i hc; rw [if_pos hc] at k; exact t.mono h k
    · rename_i hc; rw [if_neg hc] at k; exact k
section
variable {E : En} {O : List OE} {G : Ctx} {Q : Exit → Act → World → Prop} {ops : Array Oper} {rest : List Oper}
theorem htO {N : Fr} {k : Nat} {c : Bool} {t : Ty} (h : look G k = some (tOpt c t)) (hc : c = true) : HasTy N G (.tmp k) t := fun _ _ hF => by
  have h2 : if c = true then t.p _ (Act.eval _ (.tmp k)) else _ = undef := hF.at_ k _ h
  rw [if_pos hc] at h2; exact h2
/-- What is known of a guard's slot: whether it holds a truth at all, and which. -/
def guardTy (c b : Bool) : Ty := tOpt c (tD rB b)
theorem guard_plain {k : Nat} {b : Bool} (h : look G k = some (tD rB b)) : HasTy E.N G (.tmp k) (guardTy true b) := fun _ _ hF => by
  have h2 : (tD rB b).p _ (Act.eval _ (.tmp k)) := hF.at_ k _ h
  simp only [guardTy, tOpt, if_true]
  exact h2
theorem guard_opt {k : Nat} {c b : Bool} (h : look G k = some (tOpt c (tD rB b))) : HasTy E.N G (.tmp k) (guardTy c b) := fun _ _ hF => hF.at_ k _ h
theorem wanted_iff {o : Oper} {j gs : Nat} {pol c b : Bool} {S : SH} {a : Act} (hg : o.guard = some (j, pol)) (hj : (ops[j]?).bind (·.dst) = some gs) (hn : gs < a.tmps.size) (hv : (guardTy c b).p S (a.tmps.getD gs undef)) :
    Region.wanted o (yielded ops a.tmps) = (c && (b == pol)) := by
  have hget : a.tmps[gs]? = some (a.tmps.getD gs undef) := by
    rw [Array.getD_eq_getD_getElem?, Array.getElem?_eq_getElem hn]; rfl
  unfold Region.wanted
  rw [hg]
  simp only [yielded, hj, Option.bind_some, hget]
  cases c with
  | true =>
    have : a.tmps.getD gs undef = .bool b := tB_iff.1 (by simpa [guardTy, tOpt] using hv)
    rw [this]
    cases b <;> cases pol <;> rfl
  | false =>
    have : a.tmps.getD gs undef = undef := by simpa [guardTy, tOpt] using hv
    rw [this]
    cases pol <;> rfl
theorem RG.opG {d j gs : Nat} {pol c b : Bool} {op : Op} {ty : TypeId} {pos : String} {after : Array Edge} {t : Ty} (hj : (ops[j]?).bind (·.dst) = some gs) (hgs : Nat.blt gs E.N.n = true) (hg : HasTy E.N G (.tmp gs) (guardTy c b)) (hd : Nat.blt d E.N.n = true)
    (h : (c && (b == pol)) = true → OpOK E O G ⟨some d, op, ty, pos, after, some (j, pol)⟩ t) (k : RG E ops Q rest O ((d, tOpt (c && (b == pol)) t) :: G)) :
    RG E ops Q (⟨some d, op, ty, pos, after, some (j, pol)⟩ :: rest) O G := fun a w S st => by
  have hgs' : gs < a.tmps.size := by rw [st.facts.size]; simpa [Nat.blt_eq] using hgs
  have hw := wanted_iff (o := ⟨some d, op, ty, pos, after, some (j, pol)⟩) rfl hj hgs' (hg S a st.facts)
  refine wpListIn_step fun K hK => ?_
  rw [hw]
  by_cases hc : (c && (b == pol)) = true
  · rw [if_pos hc]
    refine wpIn_of_opWp (fun a' w' ⟨v, S', ha, he, hs, hv⟩ => ?_) (h hc a w S st.sat st.own st.facts)
    subst ha
    refine hK _ _ (k _ _ _ (st.step he hs hd ?_))
    simpa only [tOpt, hc, if_true] using hv
  · rw [if_neg hc]
    refine ⟨fun _ _ => trivial, hK _ _ (k _ _ S (st.step (Ext.refl _ _ _) st.sat hd ?_))⟩
    show if _ then _ else _
    rw [if_neg hc]
end

/-! ### A region whose order is open -/
structure Nd where
  slot : Nat
  ty : Ty
  src : Option Nat
/-- One operation, guarded or not, from what it needs. -/
def OpG (E : En) (O : List OE) (ops : Array Oper) (need : Ctx) (o : Oper) (t : Ty) : Prop :=
  ∀ a w S, Sat w S → Own E.base E.B w S O → Facts E.N S a need →
    if Region.wanted o (yielded ops a.tmps) then opWp E.P o a w (fun a' w' => ∃ v S', a' = a.put o.dst v ∧ Ext noB w S w' S' ∧ Sat w' S' ∧ t.p S' v) else t.p S undef
def needCtx : List Nd → Ctx
  | [] => []
  | n :: l => (n.slot, n.ty) :: needCtx l
def waits (o : Oper) (j : Nat) : Bool := o.after.toList.any fun e => Nat.beq e.on j && Region.binds .any e
def srcB (l : List Oper) (o : Oper) (i : Nat) (n : Nd) : Bool :=
  match n.src with
  | some j => (match l[j]? with | some p => (match p.dst with | some d => Nat.beq d n.slot | none => false) | none => false) && waits o j
  | none => l.all fun p => (match p.dst with | some d => !(Nat.beq d n.slot) | none => true) || waits p i
def NdOK (G : Ctx) (ts : List Ty) (n : Nd) : Prop :=
  match n.src with
  | some j => ts[j]? = some n.ty
  | none => look G n.slot = some n.ty
def NdsOK (G : Ctx) (ts : List Ty) : List Nd → Prop
  | [] => True
  | n :: l => NdOK G ts n ∧ NdsOK G ts l
theorem NdsOK.mem {G : Ctx} {ts : List Ty} : ∀ {l : List Nd}, NdsOK G ts l → ∀ n ∈ l, NdOK G ts n
  | _ :: _, ⟨h, _⟩, _, .head _ => h
  | _ :: _, ⟨_, h⟩, _, .tail _ hm => NdsOK.mem h _ hm
def dstN (o : Oper) : Nat := o.dst.getD 0
def edgesB (i : Nat) (o : Oper) : Bool := o.after.toList.all fun e => !(Region.binds .any e) || Nat.blt e.on i
/-- All operations of a region, from the i-th on. -/
def DR (E : En) (O : List OE) (G : Ctx) (l : List Oper) (ts : List Ty) : Nat → List Oper → Prop
  | _, [] => True
  | i, o :: rest => (∃ (needs : List Nd) (t : Ty), ts[i]? = some t ∧ NdsOK G ts needs ∧ (needs.all (srcB l o i)) = true ∧ edgesB i o = true ∧ OpG E O l.toArray (needCtx needs) o t) ∧ DR E O G l ts (i + 1) rest
def slotsB (N : Nat) : List Nat → List Oper → Bool
  | _, [] => true
  | seen, o :: rest => (match o.dst with | some d => Nat.blt d N && !(seen.any (Nat.beq d)) && slotsB N (d :: seen) rest | none => false)
def DRAt (E : En) (O : List OE) (G : Ctx) (l : List Oper) (ts : List Ty) (i : Nat) (o : Oper) : Prop :=
  ∃ (needs : List Nd) (t : Ty), ts[i]? = some t ∧ NdsOK G ts needs ∧ (needs.all (srcB l o i)) = true ∧ edgesB i o = true ∧ OpG E O l.toArray (needCtx needs) o t
theorem DR.get {E : En} {O : List OE} {G : Ctx} {l : List Oper} {ts : List Ty} (r : List Oper) : ∀ (k : Nat), DR E O G l ts k r → ∀ (j : Nat) (o : Oper), r[j]? = some o → DRAt E O G l ts (k + j) o := by
  induction r with
  | nil => intro k _ j o h; simp at h
  | cons p r ih =>
    intro k h j o ho
    cases j with
    | zero => simp at ho; subst ho; exact h.1
    | succ j =>
      have := ih (k + 1) h.2 j o (by simpa using ho)
      rwa [show k + 1 + j = k + (j + 1) from by omega] at this
theorem slotsB_spec {N : Nat} (l : List Oper) : ∀ (seen : List Nat), slotsB N seen l = true →
    (∀ o : Oper, o ∈ l → ∃ d, o.dst = some d ∧ d < N ∧ d ∉ seen) ∧ ∀ (i j : Nat) (o p : Oper), l[i]? = some o → l[j]? = some p → o.dst = p.dst → i = j := by
  induction l with
  | nil => exact fun _ _ => ⟨fun _ h => (by cases h), fun _ _ _ _ h => (by simp at h)⟩
  | cons o l ih =>
    intro seen h
    unfold slotsB at h
    cases hd : o.dst with
    | none => rw [hd] at h; cases h
    | some d =>
      rw [hd] at h
      simp only [Bool.and_eq_true, Bool.not_eq_true'] at h
      obtain ⟨⟨h1, h2⟩, h3⟩ := h
      have h2' : d ∉ seen := fun hm => by
        rw [List.any_eq_false] at h2
        exact h2 d hm (by simp)
      obtain ⟨ih1, ih2⟩ := ih _ h3
      refine ⟨fun q hq => ?_, fun i j q p hi hj hdp => ?_⟩
      · rcases List.mem_cons.1 hq with rfl | hq
        · exact ⟨d, hd, by simpa [Nat.blt_eq] using h1, h2'⟩
        · obtain ⟨d', e1, e2, e3⟩ := ih1 q hq
          exact ⟨d', e1, e2, fun hm => e3 (List.mem_cons_of_mem _ hm)⟩
      · cases i with
        | zero =>
          cases j with
          | zero => rfl
          | succ j =>
            simp at hi hj
            subst hi
            obtain ⟨d', e1, _, e3⟩ := ih1 p (List.mem_of_getElem? hj)
            rw [hd, e1] at hdp
            have e4 : d = d' := by simpa using hdp
            exact absurd (by rw [e4]; exact List.mem_cons_self ..) e3
        | succ i =>
          cases j with
          | zero =>
            simp at hi hj
            subst hj
            obtain ⟨d', e1, _, e3⟩ := ih1 q (List.mem_of_getElem? hi)
            rw [hd, e1] at hdp
            have e4 : d' = d := by simpa using hdp
            exact absurd (by rw [e4]; exact List.mem_cons_self ..) e3
          | succ j => rw [ih2 i j q p (by simpa using hi) (by simpa using hj) hdp]

structure DJ (E : En) (O : List OE) (G : Ctx) (l : List Oper) (ts : List Ty) (done : Array Bool) (a : Act) (w : World) (S : SH) : Prop where
  ext : Ext E.B E.w0 E.S0 w S
  sat : Sat w S
  own : Own E.base E.B w S O
  size : a.tmps.size = E.N.n
  defers : a.defers = E.N.ds
  dsz : done.size = l.length
  down : ∀ j o, l[j]? = some o → done.getD j false = true → ∀ e ∈ o.after, Region.binds .any e = true → done.getD e.on false = true
  old : ∀ k t, look G k = some t → (∀ j o, l[j]? = some o → done.getD j false = true → o.dst ≠ some k) → t.p S (a.tmps.getD k undef)
  new : ∀ j o d t, l[j]? = some o → done.getD j false = true → o.dst = some d → ts[j]? = some t → t.p S (a.tmps.getD d undef)
theorem DJ.need {E : En} {O : List OE} {G : Ctx} {l : List Oper} {ts : List Ty} {done : Array Bool} {a : Act} {w : World} {S : SH} (h : DJ E O G l ts done a w S) {i : Nat} {o : Oper} (hi : l[i]? = some o) (hun : done.getD i true = false)
    (hwait : ∀ e ∈ o.after, Region.binds .any e = true → done.getD e.on false = true) {needs : List Nd} (h1 : NdsOK G ts needs) (h2 : (needs.all (srcB l o i)) = true) : Facts E.N S a (needCtx needs) := by
  have hlt : i < done.size := by rw [h.dsz]; exact (List.getElem?_eq_some_iff.1 hi).1
  have hun' : done.getD i false = false := by
    simp [hlt] at hun ⊢; exact hun
  refine ⟨h.size, h.defers, ?_⟩
  have key : ∀ n ∈ needs, n.ty.p S (a.tmps.getD n.slot undef) := by
    intro n hn
    have hs := List.all_eq_true.1 h2 n hn
    have ho := h1.mem n hn
    unfold srcB at hs
    unfold NdOK at ho
    cases hsrc : n.src with
    | some j =>
      rw [hsrc] at hs ho
      simp only [Bool.and_eq_true] at hs
      obtain ⟨hs1, hs2⟩ := hs
      cases hj : l[j]? with
      | none => rw [hj] at hs1; cases hs1
      | some p =>
        rw [hj] at hs1
        cases hd : p.dst with
        | none => simp only [hd] at hs1; cases hs1
        | some d =>
          simp only [hd] at hs1
          have hd' := Nat.eq_of_beq_eq_true hs1
          subst hd'
          have hdone : done.getD j false = true := by
            unfold waits at hs2
            obtain ⟨e, he0, hb⟩ := List.any_eq_true.1 hs2
            have he : e ∈ o.after := by simpa using he0
            simp only [Bool.and_eq_true] at hb
            have := hwait e he hb.2
            rwa [Nat.eq_of_beq_eq_true hb.1] at this
          exact h.new j p n.slot n.ty hj hdone hd ho
    | none =>
      rw [hsrc] at hs ho
      refine h.old _ _ ho fun j p hj hdone hd => ?_
      have := List.all_eq_true.1 hs p (List.mem_of_getElem? hj)
      simp only [hd, Nat.beq_refl, Bool.not_true, Bool.false_or] at this
      unfold waits at this
      obtain ⟨e, he0, hb⟩ := List.any_eq_true.1 this
      have he : e ∈ p.after := by simpa using he0
      simp only [Bool.and_eq_true] at hb
      have h3 := h.down j p hj hdone e he hb.2
      rw [Nat.eq_of_beq_eq_true hb.1] at h3
      rw [h3] at hun'
      cases hun'
  clear h1 h2
  intro k t hk
  induction needs with
  | nil => simp [needCtx, look] at hk
  | cons n needs ih =>
    unfold needCtx look at hk
    by_cases hb : Nat.beq n.slot k = true
    · rw [hb] at hk
      have := Nat.eq_of_beq_eq_true hb
      subst this
      have e : n.ty = t := by simpa using hk
      rw [← e]
      exact key n (List.mem_cons_self ..)
    · rw [Bool.not_eq_true] at hb
      rw [hb] at hk
      exact ih (fun m hm => key m (List.mem_cons_of_mem _ hm)) hk
def outG : List Oper → List Ty → Ctx → Ctx
  | o :: l, t :: ts, G => (dstN o, t) :: outG l ts G
  | _, _, G => G
theorem look_outG {G : Ctx} (l : List Oper) : ∀ (ts : List Ty) (k : Nat) (t : Ty), (∀ o : Oper, o ∈ l → o.dst ≠ none) → ts.length = l.length → look (outG l ts G) k = some t →
    (∃ (j : Nat) (o : Oper), l[j]? = some o ∧ o.dst = some k ∧ ts[j]? = some t) ∨ (look G k = some t ∧ ∀ o : Oper, o ∈ l → o.dst ≠ some k) := by
  induction l with
  | nil =>
    intro ts k t _ hl h
    have : ts = [] := List.eq_nil_of_length_eq_zero (by simpa using hl)
    subst this
    exact .inr ⟨h, fun _ h => (by cases h)⟩
  | cons o l ih =>
    intro ts k t hne hl h
    cases ts with
    | nil => simp at hl
    | cons u ts =>
      unfold outG look at h
      by_cases hb : Nat.beq (dstN o) k = true
      · rw [hb] at h
        have hk := Nat.eq_of_beq_eq_true hb
        refine .inl ⟨0, o, rfl, ?_, by simpa using h⟩
        cases hd : o.dst with
        | none => exact absurd hd (hne o (List.mem_cons_self ..))
        | some d => simp only [dstN, hd, Option.getD_some] at hk; rw [hk]
      · rw [Bool.not_eq_true] at hb
        rw [hb] at h
        rcases ih ts k t (fun p hp => hne p (List.mem_cons_of_mem _ hp)) (by simpa using hl) h with ⟨j, p, h1, h2, h3⟩ | ⟨h1, h2⟩
        · exact .inl ⟨j + 1, p, by simpa using h1, h2, by simpa using h3⟩
        · refine .inr ⟨h1, fun p hp hd => ?_⟩
          rcases List.mem_cons.1 hp with rfl | hp
          · simp [dstN, hd] at hb
          · exact h2 p hp hd
theorem put_get {a : Act} {d k : Nat} {v : Value} (hd : d < a.tmps.size) : (a.put (some d) v).tmps.getD k undef = if d = k then v else a.tmps.getD k undef := by
  by_cases h : d = k
  · subst h; simp [Act.put, Array.getD_eq_getD_getElem?, hd]
  · simp [Act.put, Array.getD_eq_getD_getElem?, h]
theorem DJ.step {E : En} {O : List OE} {G : Ctx} {l : List Oper} {ts : List Ty} {done : Array Bool} {a : Act} {w w' : World} {S S' : SH} (h : DJ E O G l ts done a w S) (hsl : slotsB E.N.n [] l = true) {i : Nat} {o : Oper} {t : Ty} {v : Value} (hi : l[i]? = some o)
    (hwait : ∀ e ∈ o.after, Region.binds .any e = true → done.getD e.on false = true) (ht : ts[i]? = some t) (hun : done.getD i true = false)
    (hext : Ext noB w S w' S') (hsat : Sat w' S') (hv : t.p S' v) : DJ E O G l ts (done.setIfInBounds i true) (a.put o.dst v) w' S' := by
  obtain ⟨hs1, hs2⟩ := slotsB_spec l [] hsl
  obtain ⟨d, hd, hdN, _⟩ := hs1 o (List.mem_of_getElem? hi)
  have hda : d < a.tmps.size := by rw [h.size]; exact hdN
  have hlt : i < done.size := by rw [h.dsz]; exact (List.getElem?_eq_some_iff.1 hi).1
  have hset : ∀ j, (done.setIfInBounds i true).getD j false = true → j = i ∨ done.getD j false = true := fun j hj => by
    by_cases hij : i = j
    · exact .inl hij.symm
    · rw [getD_set_ne false hij] at hj; exact .inr hj
  have hseti : (done.setIfInBounds i true).getD i false = true := by simp [hlt]
  have hun' : done.getD i false = false := by simp [hlt] at hun ⊢; exact hun
  refine ⟨h.ext.step0 hext, hsat, h.own.ext0 hext, ?_, ?_, by simp [h.dsz], fun j p hj hdone e he hb => ?_, fun k u hk hno => ?_, fun j p d' u hj hdone hd' hu => ?_⟩
  · rw [hd]; simp [Act.put, h.size]
  · rw [hd]; exact h.defers
  · rcases hset j hdone with rfl | hj'
    · rw [hi] at hj
      have : o = p := by simpa using hj
      subst this
      exact getD_set_true (hwait e he hb)
    · exact getD_set_true (h.down j p hj hj' e he hb)
  · have hne : d ≠ k := fun e => hno i o hi hseti (by rw [hd, e])
    rw [hd, put_get hda, if_neg hne]
    exact u.mono hext.keep (h.old k u hk fun j p hj hdone => hno j p hj (getD_set_true hdone))
  · rw [hd, put_get hda]
    rcases hset j hdone with rfl | hj'
    · rw [hi] at hj
      have : o = p := by simpa using hj
      subst this
      rw [hd] at hd'
      have : d = d' := by simpa using hd'
      subst this
      rw [if_pos rfl]
      rw [ht] at hu
      have : t = u := by simpa using hu
      subst this
      exact hv
    · have hne : d ≠ d' := fun e => by
        subst e
        have := hs2 i j o p hi hj (by rw [hd, hd'])
        subst this
        rw [hj'] at hun'; cases hun'
      rw [if_neg hne]
      exact u.mono hext.keep (h.new j p d' u hj hj' hd' hu)
theorem all_done {l : List Oper} {done : Array Bool} (hsz : done.size = l.length) (hedge : ∀ i o, l[i]? = some o → edgesB i o = true) (hr : Region.ready .any l.toArray done = []) : ∀ n i, i < n → i < l.length → done.getD i false = true
  | 0, i, h, _ => by omega
  | n + 1, i, h, hi => by
    have ih := all_done hsz hedge hr n
    by_cases hd : done.getD i true = true
    · have : i < done.size := by omega
      simp [this] at hd ⊢; exact hd
    · exfalso
      have hmem : i ∈ Region.ready .any l.toArray done := by
        rw [mem_ready]
        refine ⟨by simpa using hd, l[i], by simp [hi], fun e he hb => ?_⟩
        have := hedge i l[i] (by simp [hi])
        unfold edgesB at this
        have := List.all_eq_true.1 this e (by simpa using he)
        simp only [hb, Bool.not_true, Bool.false_or, Nat.blt_eq] at this
        exact ih e.on (by omega) (by omega)
      rw [hr] at hmem
      cases hmem
def undone (done : Array Bool) : Nat := done.toList.countP (· == false)
theorem undone_set {done : Array Bool} {i : Nat} (h : done.getD i true = false) : undone (done.setIfInBounds i true) + 1 = undone done := by
  have hlt : i < done.size := by
    rcases Nat.lt_or_ge i done.size with h' | h'
    · exact h'
    · simp [Array.getElem?_eq_none h'] at h
  have hv : done[i] = false := by simpa [hlt] using h
  unfold undone
  rw [Array.toList_setIfInBounds, List.countP_set (by simpa using hlt)]
  have h2 : (done.toList[i]'(by simpa using hlt)) = false := by simpa using hv
  have hpos : 0 < done.toList.countP (· == false) := List.countP_pos_iff.2 ⟨done.toList[i]'(by simpa using hlt), List.getElem_mem _, by rw [h2]; rfl⟩
  rw [h2, if_pos (show (false == false) = true from rfl), if_neg (show ¬ ((true == false) = true) by decide)]
  omega
theorem wpAny_draw {E : En} {O : List OE} {G : Ctx} {l : List Oper} {ts : List Ty} {Q : Exit → Act → World → Prop} (hsl : slotsB E.N.n [] l = true) (hd : DR E O G l ts 0 l)
    (hQ : ∀ done a w S, DJ E O G l ts done a w S → (∀ i, i < l.length → done.getD i false = true) → Q .normal a w) :
    ∀ (fuel : Nat) (done : Array Bool) (a : Act) (w : World) (S : SH), undone done = fuel → DJ E O G l ts done a w S → wpAnyIn (fw E.r) 0 E.P .any l.toArray Q fuel done a w := by
  have hedge : ∀ i o, l[i]? = some o → edgesB i o = true := fun i o hi => by
    obtain ⟨_, _, _, _, _, h, _⟩ := DR.get l 0 hd i o hi
    simpa using h
  have fin : ∀ done a w S, DJ E O G l ts done a w S → Region.ready .any l.toArray done = [] → Q .normal a w := fun done a w S h hr =>
    hQ done a w S h fun i hi => all_done h.dsz hedge hr (i + 1) i (by omega) hi
  intro fuel
  induction fuel with
  | zero =>
    intro done a w S hu h
    have hr : Region.ready .any l.toArray done = [] := by
      cases hr : Region.ready .any l.toArray done with
      | nil => rfl
      | cons i r =>
        have hm : i ∈ Region.ready .any l.toArray done := by rw [hr]; exact List.mem_cons_self ..
        have := undone_set (mem_ready.1 hm).1
        omega
    exact ⟨hr, fin done a w S h hr⟩
  | succ fuel ih =>
    intro done a w S hu h
    refine ⟨fin done a w S h, fun i hi => ?_⟩
    obtain ⟨hun, o, ho, hwait⟩ := mem_ready.1 hi
    have ho' : l[i]? = some o := by simpa using ho
    obtain ⟨needs, t, h1, h2, h3, _, h5⟩ := DR.get l 0 hd i o ho'
    rw [Nat.zero_add] at h1 h3
    have hF := h.need ho' hun hwait h2 h3
    have h6 := h5 a w S h.sat h.own hF
    have hu' : undone (done.setIfInBounds i true) = fuel := by have := undone_set hun; omega
    unfold wpOpIn
    rw [ho]
    show if _ then _ else _
    by_cases hw : Region.wanted o (yielded l.toArray a.tmps) = true
    · rw [if_pos hw] at h6 ⊢
      refine wpIn_of_opWp (fun a' w' ⟨v, S', ha, he, hs, hv⟩ => ?_) h6
      subst ha
      exact ih _ _ _ S' hu' (h.step hsl ho' hwait h1 hun he hs hv)
    · rw [if_neg hw] at h6 ⊢
      exact ⟨fun _ _ => trivial, ih _ _ _ S hu' (h.step hsl ho' hwait h1 hun (Ext.refl _ _ _) h.sat h6)⟩
section
variable {E : En} {O : List OE} {G : Ctx} {Q : Exit → Act → World → Prop}
theorem CG.draw {id : Nat} {l : List Oper} {ts : List Ty} (hm : E.P.follows .mixedOrders = true) (hsl : slotsB E.N.n [] l = true) (hlen : ts.length = l.length) (hd : DR E O G l ts 0 l) (k : AT E Q .normal O (outG l ts G)) :
    CG E Q (.region id l.toArray true) O G := fun a w S st => by
  refine wpIn_region_any hm ?_
  obtain ⟨he, hs⟩ := Ext.draw (w := w) st.sat
  refine wpAny_draw hsl hd (fun done a w S h hall => k a w S ⟨h.ext, h.sat, h.own, h.size, h.defers, fun j t hj => ?_⟩) _ _ _ _ S ?_
    ⟨st.ext.step0 he, hs, st.own.ext0 he, st.facts.size, st.facts.defers, by simp, fun j o hj hdone => ?_, fun k t hk _ => st.facts.at_ k t hk, fun j o d t hj hdone => ?_⟩
  · obtain ⟨hs1, _⟩ := slotsB_spec l [] hsl
    rcases look_outG l ts j t (fun o ho e => by obtain ⟨d, hd, _⟩ := hs1 o ho; rw [hd] at e; cases e) hlen hj with ⟨i, o, h1, h2, h3⟩ | ⟨h1, h2⟩
    · exact h.new i o j t h1 (hall i (List.getElem?_eq_some_iff.1 h1).1) h2 h3
    · exact h.old j t h1 fun i o ho _ => h2 o (List.mem_of_getElem? ho)
  · unfold undone; rw [Array.toList_replicate, List.countP_replicate]; simp
  · simp [Array.getElem?_replicate] at hdone
    split at hdone <;> simp at hdone
  · simp [Array.getElem?_replicate] at hdone
    split at hdone <;> simp at hdone
theorem OpG.plain {ops : Array Oper} {need : Ctx} {o : Oper} {t : Ty} (hg : o.guard = none) (h : OpOK E O need o t) : OpG E O ops need o t := fun a w S hs ho hf => by
  have : Region.wanted o (yielded ops a.tmps) = true := by unfold Region.wanted; rw [hg]
  rw [this, if_pos rfl]
  exact h a w S hs ho hf
theorem OpG.guarded {l : List Oper} {need : Ctx} {o : Oper} {t : Ty} {j gs : Nat} {pol c b : Bool} (hg : o.guard = some (j, pol)) (hj : ((l.toArray)[j]?).bind (·.dst) = some gs) (hgs : Nat.blt gs E.N.n = true) (hb : HasTy E.N need (.tmp gs) (guardTy c b))
    (h : (c && (b == pol)) = true → OpOK E O need o t) : OpG E O l.toArray need o (tOpt (c && (b == pol)) t) := fun a w S hs ho hf => by
  have hw := wanted_iff (ops := l.toArray) hg hj (by rw [hf.size]; simpa [Nat.blt_eq] using hgs) (hb S a hf)
  rw [hw]
  by_cases hc : (c && (b == pol)) = true
  · rw [if_pos hc]
    refine opWp_mono (fun a' w' ⟨v, S', ha, he, hs, hv⟩ => ⟨v, S', ha, he, hs, ?_⟩) (h hc a w S hs ho hf)
    show if _ then _ else _
    rw [if_pos hc]; exact hv
  · rw [if_neg hc]
    show if _ then _ else _
    rw [if_neg hc]
end
end Go.Proofs.Ytchjhcgkfglgiaa
