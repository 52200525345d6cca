/- A small logic over the walk's rules: regions whose order is open, but for their last operations. It states nothing of any program. -/
import Derived.Test.YtchjhcgkfglgiaaW14
namespace Go.Proofs.Ytchjhcgkfglgiaa
open Go

def reaches (L : List Oper) : Nat → Nat → Nat → Bool
  | 0, _, _ => false
  | n + 1, i, j => match L[i]? with
    | some o => o.after.toList.any fun e => Region.binds .any e && (Nat.beq e.on j || reaches L n e.on j)
    | none => false
def coverB (L : List Oper) (m : Nat) : Bool := (List.range m).all fun j => reaches L L.length m j
def tailB (L : List Oper) (n k : Nat) : Bool := (List.range k).all fun m => coverB L (n + m) && (match L[n + m]? with | some o => edgesB (n + m) o && o.guard.isNone | none => false)
theorem reaches_done {L : List Oper} {done : Array Bool} (down : ∀ j o, L[j]? = some o → done.getD j false = true → ∀ e ∈ o.after, Region.binds .any e = true → done.getD e.on false = true) :
    ∀ (n i j : Nat), (∀ o, L[i]? = some o → ∀ e ∈ o.after, Region.binds .any e = true → done.getD e.on false = true) → reaches L n i j = true → done.getD j false = true
  | 0, _, _, _, h => by cases h
  | n + 1, i, j, hi, h => by
    unfold reaches at h
    cases ho : L[i]? with
    | none => rw [ho] at h; cases h
    | some o =>
      rw [ho] at h
      obtain ⟨e, he0, hb⟩ := List.any_eq_true.1 h
      have he : e ∈ o.after := by simpa using he0
      rw [Bool.and_eq_true, Bool.or_eq_true] at hb
      have hd := hi o ho e he hb.1
      rcases hb.2 with h1 | h1
      · rw [← Nat.eq_of_beq_eq_true h1]; exact hd
      · exact reaches_done down n e.on j (fun p hp => down e.on p hp hd) h1
theorem DJ.stepT {E : En} {O : List OE} {G : Ctx} {l : List Oper} {ts : List Ty} {done : Array Bool} {a : Act} {w w' : World} {S S' : SH} (h : DJ E O G l ts done a w S) {i d : Nat} {o : Oper} {t : Ty} {v : Value} (hi : l[i]? = some o)
    (hd : o.dst = some d) (hdN : d < E.N.n) (hs2 : ∀ j p, l[j]? = some p → done.getD j false = true → p.dst = some d → i = j)
    (hwait : ∀ e ∈ o.after, Region.binds .any e = true → done.getD e.on false = true) (ht : ts[i]? = some t) (hun : done.getD i true = false)
    (hext : Ext noB w S w' S') (hsat : Sat w' S') (hv : t.p S' v) : DJ E O G l ts (done.setIfInBounds i true) (a.put o.dst v) w' S' := by
  have hda : d < a.tmps.size := by rw [h.size]; exact hdN
  have hlt : i < done.size := by rw [h.dsz]; exact (List.getElem?_eq_some_iff.1 hi).1
  have hset : ∀ j, (done.setIfInBounds i true).getD j false = true → j = i ∨ done.getD j false = true := fun j hj => by
    by_cases hij : i = j
    · exact .inl hij.symm
    · rw [getD_set_ne false hij] at hj; exact .inr hj
  have hseti : (done.setIfInBounds i true).getD i false = true := by simp [hlt]
  have hun' : done.getD i false = false := by simp [hlt] at hun ⊢; exact hun
  refine ⟨h.ext.step0 hext, hsat, h.own.ext0 hext, ?_, ?_, by simp [h.dsz], fun j p hj hdone e he hb => ?_, fun k u hk hno => ?_, fun j p d' u hj hdone hd' hu => ?_⟩
  · rw [hd]; simp [Act.put, h.size]
  · rw [hd]; exact h.defers
  · rcases hset j hdone with rfl | hj'
    · rw [hi] at hj
      have : o = p := by simpa using hj
      subst this
      exact getD_set_true (hwait e he hb)
    · exact getD_set_true (h.down j p hj hj' e he hb)
  · have hne : d ≠ k := fun e => hno i o hi hseti (by rw [hd, e])
    rw [hd, put_get hda, if_neg hne]
    exact u.mono hext.keep (h.old k u hk fun j p hj hdone => hno j p hj (getD_set_true hdone))
  · rw [hd, put_get hda]
    rcases hset j hdone with rfl | hj'
    · rw [hi] at hj
      have : o = p := by simpa using hj
      subst this
      rw [hd] at hd'
      have : d = d' := by simpa using hd'
      subst this
      rw [if_pos rfl]
      rw [ht] at hu
      have : t = u := by simpa using hu
      subst this
      exact hv
    · have hne : d ≠ d' := fun e => by
        subst e
        have := hs2 j p hj hj' hd'
        subst this
        rw [hj'] at hun'; cases hun'
      rw [if_neg hne]
      exact u.mono hext.keep (h.new j p d' u hj hj' hd' hu)
theorem getD_flip {done : Array Bool} {i : Nat} (h : i < done.size) : done.getD i true = done.getD i false := by simp [h]
theorem undone_zero {done : Array Bool} (h : undone done = 0) {i : Nat} (hi : i < done.size) : done.getD i false = true := by
  unfold undone at h
  rw [List.countP_eq_zero] at h
  have h2 : done[i] ∈ done.toList := by simp
  have := h _ h2
  rw [← getD_flip hi]
  simpa [hi] using this
/-- Behind the open part: one operation after the other. -/
theorem wpAny_tail {r : Option Nat} {P : Program} {L : List Oper} {Q : Exit → Act → World → Prop} {n : Nat} (hc : ∀ m o, n ≤ m → L[m]? = some o → coverB L m = true) (hedge : ∀ m o, L[m]? = some o → edgesB m o = true) :
    ∀ (rest : List Oper) (m : Nat) (done : Array Bool) (fuel : Nat) (a : Act) (w : World), n ≤ m → L.drop m = rest → done.size = L.length → (∀ j, j < L.length → (done.getD j false = true ↔ j < m)) → undone done = fuel →
      wpListIn (fw r) 0 P L.toArray Q rest a w → wpAnyIn (fw r) 0 P .any L.toArray Q fuel done a w := by
  intro rest
  induction rest with
  | nil =>
    intro m done fuel a w hnm hdrop hsz hdone hu h
    have hlen : L.length ≤ m := List.drop_eq_nil_iff.1 hdrop
    have hr : Region.ready .any L.toArray done = [] := by
      cases hr : Region.ready .any L.toArray done with
      | nil => rfl
      | cons i r =>
        have hm : i ∈ Region.ready .any L.toArray done := by rw [hr]; exact List.mem_cons_self ..
        obtain ⟨hun, o, ho, _⟩ := mem_ready.1 hm
        have hi : i < L.length := by simpa using (Array.getElem?_eq_some_iff.1 ho).1
        have := (hdone i hi).2 (by omega)
        rw [getD_flip (by omega)] at hun
        rw [hun] at this; cases this
    cases fuel with
    | zero => exact ⟨hr, h⟩
    | succ f => exact ⟨fun _ => h, fun i hi => by rw [hr] at hi; cases hi⟩
  | cons o rest ih =>
    intro m done fuel a w hnm hdrop hsz hdone hu h
    have hm : m < L.length := by
      rcases Nat.lt_or_ge m L.length with h' | h'
      · exact h'
      · rw [List.drop_eq_nil_iff.2 h'] at hdrop; cases hdrop
    have hLm : L[m]? = some o := by
      have := List.getElem?_drop (xs := L) (i := m) (j := 0)
      rw [hdrop] at this
      simpa using this.symm
    have hmu : done.getD m true = false := by
      have hnot : ¬ (done.getD m false = true) := fun h2 => by have := (hdone m hm).1 h2; omega
      rw [getD_flip (by omega)]
      exact Bool.not_eq_true _ ▸ hnot
    have honly : ∀ i ∈ Region.ready .any L.toArray done, i = m := by
      intro i hi
      obtain ⟨hun, p, hp, hwait⟩ := mem_ready.1 hi
      have hp' : L[i]? = some p := by simpa using hp
      have hil : i < L.length := (List.getElem?_eq_some_iff.1 hp').1
      have hid : ¬ i < m := fun hlt => by
        have h2 := (hdone i hil).2 hlt
        rw [getD_flip (by omega)] at hun
        rw [hun] at h2; cases h2
      rcases Nat.lt_or_ge m i with hlt | hge
      · exfalso
        have hcov := hc i p (by omega) hp'
        unfold coverB at hcov
        have hre := List.all_eq_true.1 hcov m (by simpa using hlt)
        have : done.getD m false = true := by
          refine reaches_done (L := L) (done := done) (fun j q hj hjd e he hb => ?_) _ i m (fun q hq e he hb => ?_) hre
          · have hjl : j < L.length := (List.getElem?_eq_some_iff.1 hj).1
            have hjm := (hdone j hjl).1 hjd
            have := hedge j q hj
            unfold edgesB at this
            have := List.all_eq_true.1 this e (by simpa using he)
            simp only [hb, Bool.not_true, Bool.false_or, Nat.blt_eq] at this
            exact (hdone e.on (by omega)).2 (by omega)
          · have : q = p := by rw [hp'] at hq; simpa using hq.symm
            subst this
            exact hwait e he hb
        have := (hdone m hm).1 this
        omega
      · omega
    have hready : m ∈ Region.ready .any L.toArray done := by
      rw [mem_ready]
      refine ⟨hmu, o, by simpa using hLm, fun e he hb => ?_⟩
      have := hedge m o hLm
      unfold edgesB at this
      have := List.all_eq_true.1 this e (by simpa using he)
      simp only [hb, Bool.not_true, Bool.false_or, Nat.blt_eq] at this
      exact (hdone e.on (by omega)).2 this
    cases fuel with
    | zero =>
      have := undone_zero hu (i := m) (by omega)
      have := (hdone m hm).1 this
      omega
    | succ fuel =>
      refine ⟨fun hr => (by rw [hr] at hready; cases hready), fun i hi => ?_⟩
      have := honly i hi
      subst this
      have hnext := fun a w => ih (i + 1) (done.setIfInBounds i true) fuel a w (by omega) (by rw [← List.drop_drop, hdrop]; rfl) (by simpa using hsz) (fun j hj => by
        by_cases hij : i = j
        · subst hij; have : i < done.size := by omega
          simp [this]
        · rw [getD_set_ne false hij, hdone j hj]; omega) (by have := undone_set hmu; omega)
      unfold wpOpIn
      have hLm' : L.toArray[i]? = some o := by simpa using hLm
      rw [hLm']
      show if _ then _ else _
      unfold wpListIn at h
      by_cases hw : Region.wanted o (yielded L.toArray a.tmps) = true
      · rw [if_pos hw] at h ⊢; exact Oper.wpIn_mono (fun a w hk => hnext a w hk) h
      · rw [if_neg hw] at h ⊢; exact ⟨h.1, hnext _ _ h.2⟩
theorem wpAny_drawT {E : En} {O : List OE} {G : Ctx} {l t : List Oper} {ts : List Ty} {Q : Exit → Act → World → Prop} (hsl : slotsB E.N.n [] l = true) (hlen : ts.length = l.length) (hd : DR E O G (l ++ t) ts 0 l) (ht : tailB (l ++ t) l.length t.length = true)
    (hQ : ∀ a w S, St E O (outG l ts G) a w S → wpListIn (fw E.r) 0 E.P (l ++ t).toArray Q t a w) :
    ∀ (fuel : Nat) (done : Array Bool) (a : Act) (w : World) (S : SH), undone done = fuel → (∀ j, l.length ≤ j → done.getD j false = false) → DJ E O G (l ++ t) ts done a w S → wpAnyIn (fw E.r) 0 E.P .any (l ++ t).toArray Q fuel done a w := by
  have hL1 : ∀ i o, i < l.length → (l ++ t)[i]? = some o → l[i]? = some o := fun i o hi h => by rwa [List.getElem?_append_left hi] at h
  have hL2 : ∀ i o, l[i]? = some o → (l ++ t)[i]? = some o := fun i o h => by rw [List.getElem?_append_left (List.getElem?_eq_some_iff.1 h).1]; exact h
  have htail : ∀ m o, l.length ≤ m → (l ++ t)[m]? = some o → coverB (l ++ t) m = true ∧ edgesB m o = true := fun m o hm ho => by
    have hml : m < (l ++ t).length := (List.getElem?_eq_some_iff.1 ho).1
    rw [List.length_append] at hml
    unfold tailB at ht
    have := List.all_eq_true.1 ht (m - l.length) (by simp; omega)
    rw [show l.length + (m - l.length) = m from by omega, ho] at this
    simp only [Bool.and_eq_true] at this
    exact ⟨this.1, this.2.1⟩
  have hedge : ∀ i o, (l ++ t)[i]? = some o → edgesB i o = true := fun i o hi => by
    rcases Nat.lt_or_ge i l.length with h | h
    · obtain ⟨_, _, _, _, _, h, _⟩ := DR.get l 0 hd i o (hL1 i o h hi)
      simpa using h
    · exact (htail i o h hi).2
  obtain ⟨hs1, hs2⟩ := slotsB_spec l [] hsl
  have fin : ∀ fuel done a w S, undone done = fuel → (∀ j, l.length ≤ j → done.getD j false = false) → DJ E O G (l ++ t) ts done a w S → (∀ i, i < l.length → done.getD i false = true) → wpAnyIn (fw E.r) 0 E.P .any (l ++ t).toArray Q fuel done a w := by
    intro fuel done a w S hu hfree h hall
    refine wpAny_tail (n := l.length) (fun m o hm ho => (htail m o hm ho).1) hedge t l.length done fuel a w (Nat.le_refl _) (by simp) h.dsz (fun j hj => ⟨fun hjd => ?_, fun hlt => hall j hlt⟩) hu
      (hQ a w S ⟨h.ext, h.sat, h.own, h.size, h.defers, fun j u hj => ?_⟩)
    · rcases Nat.lt_or_ge j l.length with h' | h'
      · exact h'
      · rw [hfree j h'] at hjd; cases hjd
    · rcases look_outG l ts j u (fun o ho e => by obtain ⟨d, hd, _⟩ := hs1 o ho; rw [hd] at e; cases e) hlen hj with ⟨i, o, h1, h2, h3⟩ | ⟨h1, h2⟩
      · exact h.new i o j u (hL2 i o h1) (hall i (List.getElem?_eq_some_iff.1 h1).1) h2 h3
      · refine h.old j u h1 fun i o ho hdn => ?_
        rcases Nat.lt_or_ge i l.length with h' | h'
        · exact h2 o (List.mem_of_getElem? (hL1 i o h' ho))
        · rw [hfree i h'] at hdn; cases hdn
  have lower : ∀ done a w S i, (∀ j, l.length ≤ j → done.getD j false = false) → DJ E O G (l ++ t) ts done a w S → i ∈ Region.ready .any (l ++ t).toArray done → l.length ≤ i → ∀ j, j < l.length → done.getD j false = true := by
    intro done a w S i hfree h hi hge j hj
    obtain ⟨hun, p, hp, hwait⟩ := mem_ready.1 hi
    have hp' : (l ++ t)[i]? = some p := by simpa using hp
    have hcov := (htail i p hge hp').1
    unfold coverB at hcov
    have hre := List.all_eq_true.1 hcov j (by simp; omega)
    exact reaches_done h.down _ i j (fun q hq e he hb => by
      have : q = p := by rw [hp'] at hq; simpa using hq.symm
      subst this
      exact hwait e he hb) hre
  intro fuel
  induction fuel with
  | zero =>
    intro done a w S hu hfree h
    exact fin 0 done a w S hu hfree h fun i hi => undone_zero hu (by rw [h.dsz, List.length_append]; omega)
  | succ fuel ih =>
    intro done a w S hu hfree h
    by_cases hall : ∀ i, i < l.length → done.getD i false = true
    · exact fin _ done a w S hu hfree h hall
    have hready0 : ∀ m i, i < m → i < l.length → Region.ready .any (l ++ t).toArray done = [] → done.getD i false = true := by
      intro m
      induction m with
      | zero => intro i h; omega
      | succ m ihm =>
        intro i him hil hr
        have his : i < done.size := by rw [h.dsz, List.length_append]; omega
        by_cases hdn : done.getD i true = true
        · rw [← getD_flip his]; exact hdn
        · exfalso
          obtain ⟨o, ho⟩ : ∃ o, (l ++ t)[i]? = some o := ⟨l[i], hL2 i _ (List.getElem?_eq_getElem hil)⟩
          have hmem : i ∈ Region.ready .any (l ++ t).toArray done := by
            rw [mem_ready]
            refine ⟨by simpa using hdn, o, by simpa using ho, fun e he hb => ?_⟩
            have := hedge i o ho
            unfold edgesB at this
            have := List.all_eq_true.1 this e (by simpa using he)
            simp only [hb, Bool.not_true, Bool.false_or, Nat.blt_eq] at this
            exact ihm e.on (by omega) (by omega) hr
          rw [hr] at hmem; cases hmem
    refine ⟨fun hr => absurd (fun i hi => hready0 (i + 1) i (by omega) hi hr) hall, fun i hi => ?_⟩
    have hil : i < l.length := by
      rcases Nat.lt_or_ge i l.length with h' | h'
      · exact h'
      · exact absurd (lower done a w S i hfree h hi h') hall
    obtain ⟨hun, o, ho, hwait⟩ := mem_ready.1 hi
    have ho' : (l ++ t)[i]? = some o := by simpa using ho
    have hol := hL1 i o hil ho'
    obtain ⟨needs, u, h1, h2, h3, _, h5⟩ := DR.get l 0 hd i o hol
    rw [Nat.zero_add] at h1 h3
    have hF := h.need ho' hun hwait h2 h3
    have h6 := h5 a w S h.sat h.own hF
    have hu' : undone (done.setIfInBounds i true) = fuel := by have := undone_set hun; omega
    obtain ⟨d, hdd, hdN, _⟩ := hs1 o (List.mem_of_getElem? hol)
    have huq : ∀ j p, (l ++ t)[j]? = some p → done.getD j false = true → p.dst = some d → i = j := fun j p hj hjd hpd => by
      rcases Nat.lt_or_ge j l.length with h' | h'
      · exact hs2 i j o p hol (hL1 j p h' hj) (by rw [hdd, hpd])
      · rw [hfree j h'] at hjd; cases hjd
    have hfree' : ∀ j, l.length ≤ j → (done.setIfInBounds i true).getD j false = false := fun j hj => by
      rw [getD_set_ne false (by omega)]; exact hfree j hj
    unfold wpOpIn
    rw [ho]
    show if _ then _ else _
    by_cases hw : Region.wanted o (yielded (l ++ t).toArray a.tmps) = true
    · rw [if_pos hw] at h6 ⊢
      refine wpIn_of_opWp (fun a' w' ⟨v, S', ha, he, hs, hv⟩ => ?_) h6
      subst ha
      exact ih _ _ _ S' hu' hfree' (h.stepT ho' hdd hdN huq hwait h1 hun he hs hv)
    · rw [if_neg hw] at h6 ⊢
      exact ⟨fun _ _ => trivial, ih _ _ _ S hu' hfree' (h.stepT ho' hdd hdN huq hwait h1 hun (Ext.refl _ _ _) h.sat h6)⟩
/-- A region whose order is open, but for its last operations. -/
theorem CG.drawT {E : En} {O : List OE} {G : Ctx} {Q : Exit → Act → World → Prop} {id : Nat} {l t L : List Oper} {ts : List Ty} (hL : L = l ++ t) (hm : E.P.follows .mixedOrders = true) (hsl : slotsB E.N.n [] l = true) (hlen : ts.length = l.length) (ht : tailB L l.length t.length = true) (hd : DR E O G L ts 0 l)
    (k : RG E L.toArray Q t O (outG l ts G)) : CG E Q (.region id L.toArray true) O G := fun a w S st => by
  subst hL
  refine wpIn_region_any hm ?_
  obtain ⟨he, hs⟩ := Ext.draw (w := w) st.sat
  refine wpAny_drawT hsl hlen hd ht (fun a w S st => k a w S st) _ _ _ _ S ?_ (fun j _ => ?_)
    ⟨st.ext.step0 he, hs, st.own.ext0 he, st.facts.size, st.facts.defers, by simp, fun j o hj hdone => ?_, fun k t hk _ => st.facts.at_ k t hk, fun j o d t hj hdone => ?_⟩
  · unfold undone; rw [Array.toList_replicate, List.countP_replicate]; simp
  · simp [Array.getElem?_replicate]; split <;> rfl
  · simp [Array.getElem?_replicate] at hdone
    split at hdone <;> simp at hdone
  · simp [Array.getElem?_replicate] at hdone
    split at hdone <;> simp at hdone
end Go.Proofs.Ytchjhcgkfglgiaa
