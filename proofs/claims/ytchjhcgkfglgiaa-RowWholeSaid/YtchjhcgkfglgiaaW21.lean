/- A small logic over the walk's rules: what a statement's arguments are, as data; what is left behind a call. It states nothing of any program. -/
import Derived.Test.YtchjhcgkfglgiaaW20
import Derived.ProofKit
namespace Go.Proofs.Ytchjhcgkfglgiaa
open Go Go.ChangeShapes Go.WideShapes Go.ChangeAt Go.RowKit

section
variable {H : Type} {enc : TypeId × Value → H} {P : Program}
/-- All that lies there is settled. -/
def memS (W : World) : SH := fun b => W.heap[b]?
theorem sat_hS (W : World) : Sat W (memS W) := fun _ o h => ⟨o, h, ole_refl o⟩
def ToR (enc : TypeId × Value → H) (P : Program) (W : World) {α : Type} (t : TypeId) (r : Rp α) : Prop :=
  P.cellsOf t = r.sz ∧ ∀ fuel cs x, DataW.trod enc P W 0 (fun _ => true) true fuel t cs = some x → ∃ y, r.rc (memS W) cs y
theorem toR_int {W : World} {t : TypeId} {k : IntKind} (h : P.underlying t = some (.int k)) (hc : P.cellsOf t = 1) : ToR enc P W t (rI k) := ⟨hc, fun fuel cs x hx => by
  cases fuel with
  | zero => simp [DataW.trod] at hx
  | succ n =>
    unfold DataW.trod at hx
    rw [h] at hx
    split at hx
    all_goals try (injections; done)
    · rename_i k1 k2 m heq
      injection heq with e
      injection e with e
      subst e
      split at hx
      · rename_i h2; obtain ⟨rfl, _⟩ := h2; exact ⟨_, rfl⟩
      · cases hx⟩
theorem toR_bool {W : World} {t : TypeId} (h : P.underlying t = some .bool) (hc : P.cellsOf t = 1) : ToR enc P W t rB := ⟨hc, fun fuel cs x hx => by
  cases fuel with
  | zero => simp [DataW.trod] at hx
  | succ n =>
    unfold DataW.trod at hx
    rw [h] at hx
    split at hx
    all_goals try (injections; done)
    · exact ⟨_, rfl⟩⟩
theorem toR_str {W : World} {t : TypeId} (h : P.underlying t = some .string) (hc : P.cellsOf t = 1) : ToR enc P W t rS := ⟨hc, fun fuel cs x hx => by
  cases fuel with
  | zero => simp [DataW.trod] at hx
  | succ n =>
    unfold DataW.trod at hx
    rw [h] at hx
    split at hx
    all_goals try (injections; done)
    · rename_i s heq
      exact ⟨s.data.toList, rfl⟩⟩
theorem mapM_some {α β : Type} {f : α → Option β} : ∀ {l : List α} {r : List β}, l.mapM f = some r → r.length = l.length ∧ ∀ (i : Nat) (x : α), l[i]? = some x → ∃ y, r[i]? = some y ∧ f x = some y
  | [], r, h => by
    simp at h
    subst h
    exact ⟨rfl, fun i x hx => by simp at hx⟩
  | a :: l, r, h => by
    rw [List.mapM_cons] at h
    cases hf : f a with
    | none => rw [hf] at h; simp at h
    | some b =>
      rw [hf] at h
      cases hm : l.mapM f with
      | none => rw [hm] at h; simp at h
      | some r' =>
        rw [hm] at h
        simp at h
        subst h
        obtain ⟨h1, h2⟩ := mapM_some hm
        refine ⟨by simp [h1], fun i x hx => ?_⟩
        cases i with
        | zero => simp at hx; subst hx; exact ⟨b, rfl, hf⟩
        | succ i => exact h2 i x (by simpa using hx)
theorem cell_some {W : World} {a : Addr} {v : Value} (h : W.cell? a = some v) : a.spot = none ∧ ∃ c E fr, W.heap[a.block]? = some (.cells c E fr) ∧ c[a.off]? = some v := by
  unfold World.cell? at h
  cases ho : W.heap[a.block]? with
  | none => rw [ho] at h; cases h
  | some o =>
    rw [ho] at h
    cases o with
    | cells c E fr =>
      simp only at h
      by_cases hs : a.spot.isSome = true
      · rw [if_pos hs] at h; cases h
      · rw [if_neg hs] at h
        exact ⟨by cases hq : a.spot with
          | none => rfl
          | some s => rw [hq] at hs; simp at hs, c, E, fr, rfl, h⟩
    | _ => simp at h
theorem add_zero' (a : Addr) : a.add 0 = a := by unfold Addr.add; rfl
theorem cells_some {W : World} {b off n : Nat} {cs : List Value} (h : W.cells? 0 ⟨b, off, none⟩ n = some cs) (hn : 0 < n) : ∃ c E fr, W.heap[b]? = some (.cells c E fr) ∧ cs = (c.toList.drop off).take n := by
  unfold World.cells? at h
  rw [if_pos (Nat.zero_le _)] at h
  obtain ⟨h1, h2⟩ := mapM_some h
  obtain ⟨v, _, hv⟩ := h2 0 0 (by simp [hn])
  obtain ⟨_, c, E, fr, h3, h4⟩ := cell_some hv
  refine ⟨c, E, fr, by simpa [Addr.add] using h3, ?_⟩
  apply List.ext_getElem?
  intro i
  have hl : cs.length = n := by simpa using h1
  by_cases hi : i < n
  · obtain ⟨v, h5, h6⟩ := h2 i i (by simp [hi])
    obtain ⟨_, c', E', fr', h7, h8⟩ := cell_some h6
    rw [addr_add] at h7 h8
    have h7' : W.heap[b]? = some (.cells c' E' fr') := h7
    have h3' : W.heap[b]? = some (.cells c E fr) := by simpa [Addr.add] using h3
    rw [h3'] at h7'
    injection h7' with h7'
    injection h7' with e1
    subst e1
    rw [h5, List.getElem?_take_of_lt hi, List.getElem?_drop]
    simpa using h8.symm
  · rw [List.getElem?_eq_none (by omega), List.getElem?_eq_none (by simp; omega)]
theorem toR_elems {W : World} {α : Type} {e : TypeId} {q : Rp α} {n len cap : Nat} {a : Addr} {x : DataW H × List MemPlace} (h0' : 0 < q.sz) (hq : ToR enc P W e q)
    (hx : (let elemAt (i : Nat) : Option (DataW H × List MemPlace) := (W.cells? 0 (a.add (i * P.cellsOf e)) (P.cellsOf e)).bind (DataW.trod enc P W 0 (fun _ => true) true n e)
      if 0 ≤ a.block ∧ len ≤ cap ∧ cap ≤ maxLen then
        ((List.range len).mapM elemAt).bind fun elems =>
          (if (fun _ => true) a.block then (List.range (cap - len)).mapM fun j => elemAt (len + j) else some []).map fun rest =>
            (DataW.slice (elems.map (·.1)) (rest.map (·.1)), MemPlace.row a ((elems.length + rest.length) * P.cellsOf e) ++ (elems ++ rest).flatMap (·.2))
      else none) = some x) : ∃ y, (rSl q).rc (memS W) [.slice (some a) len cap] y := by
  simp only at hx
  split at hx
  · rename_i hcond
    obtain ⟨_, hle, hmax⟩ := hcond
    cases hm : (List.range len).mapM (fun i => (W.cells? 0 (a.add (i * P.cellsOf e)) (P.cellsOf e)).bind (DataW.trod enc P W 0 (fun _ => true) true n e)) with
    | none => rw [hm] at hx; simp at hx
    | some elems =>
      obtain ⟨hm1, hm2⟩ := mapM_some hm
      rw [hq.1] at hm2
      by_cases hl0 : len = 0
      · subst hl0; exact ⟨[], some a, cap, rfl, Nat.zero_le _, hmax, .inl rfl⟩
      have hsp0 : a.spot = none := by
        obtain ⟨z, _, hz⟩ := hm2 0 0 (by rw [List.getElem?_range (by omega)])
        rw [Nat.zero_mul, add_zero'] at hz
        cases hcs : W.cells? 0 a q.sz with
        | none => rw [hcs] at hz; simp at hz
        | some cs1 =>
          unfold World.cells? at hcs
          rw [if_pos (Nat.zero_le _)] at hcs
          obtain ⟨_, g2⟩ := mapM_some hcs
          obtain ⟨v, _, hv⟩ := g2 0 0 (by simp [h0'])
          rw [add_zero'] at hv
          exact (cell_some hv).1
      have hcell : ∀ i, i < len → ∃ c E fr, a.spot = none ∧ W.heap[a.block]? = some (.cells c E fr) ∧ ∃ y, q.rc (memS W) ((c.toList.drop (a.off + i * q.sz)).take q.sz) y := by
        intro i hi
        obtain ⟨z, _, hz⟩ := hm2 i i (by simp [hi])
        cases hcs : W.cells? 0 (a.add (i * q.sz)) q.sz with
        | none => rw [hcs] at hz; simp at hz
        | some cs1 =>
          rw [hcs] at hz
          have hsp : a.spot = none := hsp0
          obtain ⟨ab, ao, as⟩ := a
          simp only at hsp
          subst hsp
          rw [addr_add] at hcs
          obtain ⟨c, E, fr, g1, g2⟩ := cells_some hcs h0'
          obtain ⟨y, hy⟩ := hq.2 n cs1 z hz
          exact ⟨c, E, fr, rfl, g1, y, by rw [← g2]; exact hy⟩
      obtain ⟨c, E, fr, hsp, hb, _⟩ := hcell 0 (by omega)
      have key : ∀ m, m ≤ len → ∃ ys : List α, ys.length = m ∧ rcs q (memS W) ((c.toList.drop a.off).take (m * q.sz)) ys := by
        intro m
        induction m with
        | zero => intro _; exact ⟨[], rfl, by simp [rcs]⟩
        | succ m ih =>
          intro hm'
          obtain ⟨ys, hy1, hy2⟩ := ih (by omega)
          obtain ⟨c', E', fr', _, hb', y, hy⟩ := hcell m (by omega)
          rw [hb] at hb'
          injection hb' with hb'
          injection hb' with e1
          subst e1
          refine ⟨ys ++ [y], by simp [hy1], ?_⟩
          have hsplit : (c.toList.drop a.off).take ((m + 1) * q.sz) = (c.toList.drop a.off).take (m * q.sz) ++ (c.toList.drop (a.off + m * q.sz)).take q.sz := by
            rw [Nat.add_mul, Nat.one_mul, List.take_add, List.drop_drop]
          rw [hsplit]
          exact rcs_append hy2 (rcs_single.2 hy)
      obtain ⟨ys, hy1, hy2⟩ := key len (Nat.le_refl _)
      obtain ⟨ab, ao, as⟩ := a
      simp only at hsp
      subst hsp
      exact ⟨ys, some ⟨ab, ao, none⟩, cap, by rw [hy1], by omega, hmax, .inr ⟨ab, ao, c, E, fr, rfl, hb, by rw [hy1]; exact hy2⟩⟩
  · cases hx
theorem toR_slice {W : World} {α : Type} {t e : TypeId} {q : Rp α} (h : P.underlying t = some (.slice e)) (hc : P.cellsOf t = 1) (h0 : Nat.blt 0 q.sz = true) (hq : ToR enc P W e q) : ToR enc P W t (rSl q) := ⟨hc, fun fuel cs x hx => by
  have h0' : 0 < q.sz := by simpa [Nat.blt_eq] using h0
  cases fuel with
  | zero => simp [DataW.trod] at hx
  | succ n =>
    unfold DataW.trod at hx
    rw [h] at hx
    split at hx
    all_goals try (injections; done)
    · exact ⟨[], none, 0, rfl, Nat.le_refl _, Nat.zero_le _, .inl rfl⟩
    · rename_i e' a len cap heq
      injection heq with e1
      injection e1 with e1
      subst e1
      exact toR_elems h0' hq hx⟩
/-- A struct's fields, from a place on. -/
def FRep (enc : TypeId × Value → H) (P : Program) (W : World) {α : Type} (off : Nat) (l : List (TypeId × Nat)) (r : Rp α) : Prop :=
  ∀ (fuel : Nat) (cs : List Value), cs.length = off + r.sz → (∀ f ∈ l, ∃ x, DataW.trod enc P W 0 (fun _ => true) true fuel f.1 ((cs.drop f.2).take (P.cellsOf f.1)) = some x) → ∃ y, r.rc (memS W) (cs.drop off) y
theorem frep_one {W : World} {α : Type} {r : Rp α} {t off : Nat} (h : ToR enc P W t r) : FRep enc P W off [(t, off)] r := fun fuel cs hl hx => by
  obtain ⟨x, hx⟩ := hx _ (List.mem_singleton_self _)
  simp only at hx
  rw [h.1, List.take_of_length_le (by simp; omega)] at hx
  exact h.2 _ _ _ hx
theorem frep_cons {W : World} {α β : Type} {p : Rp α} {q : Rp β} {t off off' : Nat} {l : List (TypeId × Nat)} (h : ToR enc P W t p) (ho : off' = off + p.sz) (hr : FRep enc P W off' l q) : FRep enc P W off ((t, off) :: l) (rPair p q) := fun fuel cs hl hx => by
  subst ho
  obtain ⟨x, hx1⟩ := hx _ (List.mem_cons_self ..)
  simp only at hx1
  rw [h.1] at hx1
  obtain ⟨y, hy⟩ := h.2 _ _ _ hx1
  obtain ⟨z, hz⟩ := hr fuel cs (by rw [hl]; show off + (p.sz + q.sz) = _; omega) fun f hf => hx f (List.mem_cons_of_mem _ hf)
  exact ⟨(y, z), _, _, by rw [← List.drop_drop]; exact (List.take_append_drop _ _).symm, hy, hz⟩
theorem toR_struct {W : World} {α β : Type} {t : TypeId} {l : List (TypeId × Nat)} {p : Rp α} {f : β → α} (ht : (P.underlying t).map (fun d => match d with | .struct l => (true, l.toList.map fun f => (f.type, f.offset)) | _ => (false, [])) = some (true, l)) (hc : P.cellsOf t = p.sz) (hf : ∀ y, ∃ x, f x = y) (hl : FRep enc P W 0 l p) : ToR enc P W t (rMap p f) := ⟨hc, fun fuel cs x hx => by
  obtain ⟨fs, h1, h2⟩ : ∃ fs, P.underlying t = some (.struct fs) ∧ fs.toList.map (fun f => (f.type, f.offset)) = l := by
    cases hu : P.underlying t with
    | none => rw [hu] at ht; cases ht
    | some d =>
      rw [hu] at ht
      cases d <;> simp at ht
      exact ⟨_, rfl, ht⟩
  cases fuel with
  | zero => simp [DataW.trod] at hx
  | succ n =>
    unfold DataW.trod at hx
    rw [h1] at hx
    change (if cs.length = P.cellsOf t then (fs.toList.mapM fun f => DataW.trod enc P W 0 (fun _ => true) true n f.type ((cs.drop f.offset).take (P.cellsOf f.type))).map (fun xs => (DataW.agg (xs.map (·.1)), xs.flatMap (·.2))) else none) = some x at hx
    split at hx
    · rename_i hlen
      cases hm : fs.toList.mapM (fun f => DataW.trod enc P W 0 (fun _ => true) true n f.type ((cs.drop f.offset).take (P.cellsOf f.type))) with
      | none => rw [hm] at hx; simp at hx
      | some r =>
        obtain ⟨_, hm2⟩ := mapM_some hm
        obtain ⟨y, hy⟩ := hl n cs (by rw [hlen, hc]; omega) (fun g hg => by
          rw [← h2, List.mem_map] at hg
          obtain ⟨f0, hf0, rfl⟩ := hg
          obtain ⟨i, hi⟩ := List.getElem?_of_mem hf0
          obtain ⟨z, _, hz⟩ := hm2 i f0 hi
          exact ⟨z, hz⟩)
        obtain ⟨x', hx'⟩ := hf y
        refine ⟨x', ?_⟩
        show p.rc _ cs (f x')
        rw [hx']
        simpa using hy
    · cases hx⟩
theorem rep_of_trod {W : World} {α : Type} {t : TypeId} {r : Rp α} (h : ToR enc P W t r) (hag : r.agg = false) {v : Value} {d : DataW H} {ps : List MemPlace} (hv : DataW.Trod enc P W 0 (fun _ => true) true t v d ps) (hc : v.cells = #[v]) : ∃ y, (tD r y).p (memS W) v := by
  obtain ⟨fuel, hx⟩ := hv
  rw [hc] at hx
  obtain ⟨y, hy⟩ := h.2 _ _ _ hx
  exact ⟨y, _, by unfold Rp.val; rw [hag]; rfl, hy⟩

theorem cells_slice {W : World} {base : Nat} {t e : TypeId} {v : Value} (ht : P.underlying t = some (.slice e)) (hv : Value.okWide P W .any base t v) : v.cells = #[v] := by
  cases v <;> first | rfl | (simp [Value.okWide, ht, Cell.okWide, Cell.ok] at hv)
theorem cells_int {W : World} {base : Nat} {t : TypeId} {k : IntKind} {v : Value} (ht : P.underlying t = some (.int k)) (hv : Value.okWide P W .any base t v) : v.cells = #[v] := by
  cases v <;> first | rfl | (simp [Value.okWide, ht, Cell.okWide, Cell.ok] at hv)
/-! ### Behind the call -/
theorem below_of_ext {W W' : World} {S S' : SH} (h : Ext noB W S W' S') : Below W.heap.size W W' := ⟨h.os, h.tape, h.output, h.size, fun k hk => h.heap k hk (fun h => h)⟩
theorem trodAll_stays (hl : laidOutB P = true) {W W' : World} (hb : Below W.heap.size W W') {sp : Nat → Bool} : ∀ {ts : List TypeId} {vs : List Value} {ds : List (DataW H)} {ps : List MemPlace}, (∀ t ∈ ts, P.readableRec t = true ∧ t < P.types.size) →
    DataW.TrodAll enc P W 0 (fun _ => true) true ts vs ds ps → (∀ p ∈ ps, p.block < W.heap.size) → (∀ p ∈ ps, sp p.block = true) → DataW.TrodAll enc P W' 0 sp true ts vs ds ps
  | [], [], [], _, _, h, _, _ => h
  | t :: ts, v :: vs, d :: ds, _, hr, ⟨p, q, h1, h2, e⟩, hlt, hsp => by
    subst e
    have ht := hr t (List.mem_cons_self ..)
    exact ⟨p, q, WideElems.Trod_stays hl ht.1 ht.2 h1 (fun x hx => hb.same (hlt x (List.mem_append_left _ hx))) (fun x hx => hsp x (List.mem_append_left _ hx)),
      trodAll_stays hl hb (fun t ht => hr t (List.mem_cons_of_mem _ ht)) h2 (fun x hx => hlt x (List.mem_append_right _ hx)) (fun x hx => hsp x (List.mem_append_right _ hx)), rfl⟩
/-- Behind a law's call: true; the arguments read as they did. -/
theorem law_post {f : Func} {s : ChangeSpec} {apart fresh handsOn again : Bool} {W W' : World} {args : Array Value} {ds gs : List (DataW H)} {before : List MemPlace} {tb : TypeId}
    (hl : laidOutB P = true) (hr : ∀ t ∈ f.params.toList, P.readableRec t = true ∧ t < P.types.size) (hvs : s.vars = []) (hres : f.resultTypes = #[tb]) (htb : P.underlying tb = some .bool)
    (hW : DataW.Whole enc P f.params.toList s.vars apart W args.toList ds gs before) (hs : s.fn H (ds ++ gs) = { results := [.lit (.bool true)], args := ds }) (hb : Below W.heap.size W W') :
    s.post enc P f apart fresh handsOn again W args (.bool true) W' := by
  have hW0 := hW
  have hlt := hW.lt
  obtain ⟨pa, pv, hA, hV, rfl, hz, hn⟩ := hW
  rw [hvs] at hV
  have hpv : pv = [] := by
    cases gs with
    | nil => exact hV
    | cons g gs => exact hV.elim
  subst hpv
  have hlt' : ∀ p ∈ pa, p.block < W.heap.size := fun p hp => hlt p (by simpa using hp)
  have hargs : ∀ sp : Nat → Bool, (∀ p ∈ pa, sp p.block = true) → DataW.TrodAll enc P W' 0 sp true f.params.toList args.toList ds pa := fun sp hsp => trodAll_stays hl hb hr hA hlt' hsp
  have hresT : ∀ (b : Nat) (sp : Nat → Bool) (hd : Bool), DataW.TrodAll enc P W' b sp hd f.resultTypes.toList ((Value.bool true).resultList f.resultTypes.size) [.lit (.bool true)] [] := fun b sp hd => by
    rw [hres]
    exact ⟨[], [], ⟨1, by simp [DataW.trod, htb, Value.cells]⟩, rfl, rfl⟩
  have hvT : ∀ sp : Nat → Bool, DataW.TrodVars enc P W' sp s.vars (s.fn H (ds ++ gs)).vars [] := fun sp => by
    rw [hvs, hs]; rfl
  have hargs' : ∀ sp : Nat → Bool, (∀ p ∈ pa, sp p.block = true) → DataW.TrodAll enc P W' 0 sp true f.params.toList args.toList (s.fn H (ds ++ gs)).args pa := fun sp hsp => by rw [hs]; exact hargs sp hsp
  have hres' : ∀ (b : Nat) (sp : Nat → Bool) (hd : Bool), DataW.TrodAll enc P W' b sp hd f.resultTypes.toList ((Value.bool true).resultList f.resultTypes.size) (s.fn H (ds ++ gs)).results [] := fun b sp hd => by rw [hs]; exact hresT b sp hd
  have hold : ∀ p ∈ pa, (fun b => decide (b < W.heap.size)) p.block = true := fun p hp => by simpa using hlt' p hp
  refine ⟨ds, gs, pa ++ [], [], pa, [], hW0, hres' _ _ _, hargs' _ hold, hvT _, World.keptBut_mono (fun p hp => ⟨hp, ?_⟩) (hb.frame _), fun _ => ?_⟩
  · right; simpa using hp
  · refine ⟨?_, _, _, ([] ++ pa) ++ [], ⟨[] ++ pa, [], trodAll_append (hargs' _ (fun _ _ => rfl)) (hres' _ _ _), hvT _, rfl, ?_, ?_⟩, ?_⟩
    · intro j t r h1 h2
      rw [hres] at h1 h2
      cases j with
      | zero =>
        simp [Value.resultList] at h1 h2
        subst h1 h2
        simp [Value.okWide, htb, Cell.okWide, Cell.ok]
      | succ j => simp at h1
    · intro b off hp
      have hp' : MemPlace.cell b off ∈ pa := by simpa using hp
      have := hlt' _ hp'
      rw [hb.frozen (p := ⟨b, off, none⟩) this]
      exact hz b off (by simpa using hp')
    · intro ha
      have := hn ha
      simpa using this
    · intro p hp _
      simpa using hp
end
end Go.Proofs.Ytchjhcgkfglgiaa
