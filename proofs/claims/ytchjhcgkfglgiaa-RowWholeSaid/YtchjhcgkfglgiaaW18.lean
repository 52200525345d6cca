/- A small logic over the walk's rules: ranges over functions, the caller's side. It states nothing of any program. -/
import Derived.Test.YtchjhcgkfglgiaaW17
namespace Go.Proofs.Ytchjhcgkfglgiaa
open Go

theorem Own.split {base : Nat} {B : Nat → Prop} {w : World} {S : SH} : ∀ {O1 O2 : List OE}, Own base B w S (O1 ++ O2) → Own base B w S O1 ∧ Own base B w S O2 ∧ ∀ e ∈ O1, ∀ f ∈ O2, e.apart f
  | [], _, h => ⟨trivial, h, fun _ h => (by cases h)⟩
  | e :: O1, O2, ⟨h1, h2, h3⟩ => by
    obtain ⟨k1, k2, k3⟩ := Own.split h3
    refine ⟨⟨h1, fun f hf => h2 f (List.mem_append_left _ hf), k1⟩, k2, fun g hg f hf => ?_⟩
    rcases List.mem_cons.1 hg with rfl | hg
    · exact h2 f (List.mem_append_right _ hf)
    · exact k3 g hg f hf
theorem Own.cons {base : Nat} {B : Nat → Prop} {w : World} {S : SH} {e : OE} {O : List OE} (h1 : e.holds base B w S) (h2 : ∀ f ∈ O, e.apart f) (h3 : Own base B w S O) : Own base B w S (e :: O) := ⟨h1, h2, h3⟩

/-! ### Functions that hand back something to range over -/
def SpecIt (P : Program) (f : FuncId) (ts : List Ty) {α : Type} (args : α → List Ty) (it : It α) : Prop :=
  ∀ w S vs, Sat w S → Tys S ts vs → Calls P f vs.toArray w fun e w' => ∃ v fp S', e = .returned v ∧ Ext noB w S w' S' ∧ Sat w' S' ∧ (itr P args it v fp).holds w.heap.size noB w' S'
def endIt (E : En) {α : Type} (args : α → List Ty) (it : It α) : Ending → World → Prop := fun e w' => ∃ v fp S', e = .returned v ∧ Ext E.B E.w0 E.S0 w' S' ∧ Sat w' S' ∧ (itr E.P args it v fp).holds E.w0.heap.size E.B w' S'
theorem SpecIt.of {P : Program} {f : FuncId} {fn : Func} {c : Code} {ts : List Ty} {N : Nat} {α : Type} {args : α → List Ty} {it : It α} (hf : P.funcs[f]? = some fn) (hb : fn.body = some c) (hN : fn.ntmps = N) (hn : Nat.ble ts.length N = true)
    (h : ∀ w0 S0, CG ⟨P, ⟨N, []⟩, noB, w0, S0, none⟩ (bodyPost P fn (endIt ⟨P, ⟨N, []⟩, noB, w0, S0, none⟩ args it)) c [] (initG 0 ts)) : SpecIt P f ts args it := by
  subst hN
  intro w S vs hs hv
  exact callsIn_fw.1 (callsIn_of_wp (F := fw none) (n := 0) hf hb trivial (h w S _ w S ⟨Ext.refl _ _ _, hs, trivial, facts_init hv _ (Nat.le_of_ble_eq_true hn)⟩))
section
variable {E : En} {O : List OE} {G : Ctx} {Q : Exit → Act → World → Prop} {ops : Array Oper} {rest : List Oper}
theorem AT.retIt {P : Program} {N : Nat} {B : Nat → Prop} {w0 : World} {S0 : SH} {fn : Func} {k : Nat} {α : Type} {args : α → List Ty} {it : It α} {v : Value} {fp : Nat → Prop} (hr : fn.results = #[.tmp k]) (hk : look G k = some (tV v)) :
    AT ⟨P, ⟨N, []⟩, B, w0, S0, none⟩ (bodyPost P fn (endIt ⟨P, ⟨N, []⟩, B, w0, S0, none⟩ args it)) .ret (itr P args it v fp :: O) G := fun a w S st => by
  have hv : a.tmps.getD k undef = v := st.facts.at_ k _ hk
  exact ⟨st.facts.defers, _, run_results_one P fn k hr _ _, v, fp, S, by rw [hv], st.ext, st.sat, st.own.1⟩
section
variable {d : Nat} {ty : TypeId} {pos : String} {after : Array Edge}
theorem RG.callIt {f : FuncId} {xs : List Operand} {ats : Array TypeId} {ts : List Ty} {α : Type} {args : α → List Ty} {it : It α} (hc : callableB E.P f = true) (hs : SpecIt E.P f ts args it) (hx : HasTys E.N G xs ts) (hd : Nat.blt d E.N.n = true)
    (k : ∀ v fp, RG E ops Q rest (itr E.P args it v fp :: O) ((d, tV v) :: G)) :
    RG E ops Q (⟨some d, .call ⟨.value (.func f), xs.toArray, ats⟩, ty, pos, after, none⟩ :: rest) O G := .of rfl fun a w S st => by
  have hr : (execOp a.eval ⟨some d, .call ⟨.value (.func f), xs.toArray, ats⟩, ty, pos, after, none⟩).run E.P w = .ok (.enter f (xs.map a.eval).toArray) w := by
    simp [execOp, resolve, Act.eval, Deferred.ofValue, invoke, run_callFunc hc]
  refine ⟨fun c h => (by cases h), ?_⟩
  rw [hr]
  refine (hs w S _ st.sat (hx.tys st.facts)).mono fun e w' ⟨v, fp, S', he, h1, h2, h3⟩ => ⟨_, he, ?_⟩
  exact k v fp _ _ S' ⟨st.ext.step0 h1, h2, own_new st.own h1 h3.1 (fun b hb => (h3.2 b hb).resolve_right id) st.base_le, (st.facts.mono h1.keep).put hd rfl⟩
theorem RG.makeIter {fid : FuncId} {O1 O2 : List OE} {α : Type} {args : α → List Ty} {it : It α} {cts : List Ty} {caps : List Operand} (hO : O = O1 ++ O2) (hc : callableB E.P fid = true) (hs : ItSpec E.P fid args it O1 cts) (hcap : HasTys E.N G caps cts) (hd : Nat.blt d E.N.n = true)
    (k : ∀ v fp, RG E ops Q rest (itr E.P args it v fp :: O2) ((d, tV v) :: G)) :
    RG E ops Q (⟨some d, .makeFunc (.func fid) #[] caps.toArray, ty, pos, after, none⟩ :: rest) O G := .of rfl fun a w S st => by
  subst hO
  have hr : (execOp a.eval ⟨some d, .makeFunc (.func fid) #[] caps.toArray, ty, pos, after, none⟩).run E.P w = .ok (.value (.func (.func fid) #[] (caps.map a.eval).toArray)) w := by simp [execOp, Instr.makeFunc]
  refine ⟨fun c h => (by cases h), ?_⟩
  rw [hr]
  obtain ⟨h1, h2, h3⟩ := Own.split st.own
  have hcv := hcap.tys st.facts
  refine k (.func (.func fid) #[] (caps.map a.eval).toArray) (fun k => ∃ f ∈ O1, f.fp k) _ _ S ⟨st.ext, st.sat, ?_, st.facts.put hd rfl⟩
  refine Own.cons ⟨⟨fun b ⟨f, hf, hb⟩ => f.here (Own.mem h1 f hf).1 b hb, fid, _, rfl, hc, fun C w' S' he hC hs' => ?_⟩, fun b ⟨f, hf, hb⟩ => (Own.mem h1 f hf).2 b hb⟩ (fun f hf b ⟨g, hg, hb⟩ => h3 g hg f hf b hb) h2
  exact hs w' S' _ hs' (h1.weak.ext he fun f hf b hb => hC b ⟨f, hf, hb⟩) (hcv.mono he.keep)
end
end

/-! ### The statement -/
def putsG : List Nat → List Ty → Ctx → Ctx
  | d :: ds, t :: ts, G => putsG ds ts ((d, t) :: G)
  | _, _, G => G
theorem facts_puts {N : Fr} {S : SH} : ∀ (ds : List Nat) (ts : List Ty) (vs : List Value) (a : Act) (G : Ctx), ds.length = ts.length → Tys S ts vs → (ds.all fun d => Nat.blt d N.n) = true → Facts N S a G →
    Facts N S { tmps := (ds.zip vs).foldl (fun t (p : Nat × Value) => t.setIfInBounds p.1 p.2) a.tmps, defers := a.defers } (putsG ds ts G)
  | [], _, _, _, _, hl, _, _, hF => by
    cases List.eq_nil_of_length_eq_zero hl.symm
    simpa [putsG] using hF
  | d :: ds, [], _, _, _, hl, _, _, _ => by simp at hl
  | d :: ds, t :: ts, [], _, _, _, hv, _, _ => hv.elim
  | d :: ds, t :: ts, v :: vs, a, G, hl, ⟨h1, h2⟩, hd, hF => by
    simp only [List.all_cons, Bool.and_eq_true] at hd
    have := facts_puts ds ts vs (a.put (some d) v) ((d, t) :: G) (by simpa using hl) h2 hd.2 (hF.put hd.1 h1)
    simpa [putsG, Act.put] using this
def rndR (E : En) (l : Nat) (rec : Loop) {σ ι : Type} (Oi : ι → List OE) (dat : ι → σ) (s2 : σ) : Ending → World → Prop := fun en w' =>
  ∃ i S', en = .returned (.bool true) ∧ dat i = s2 ∧ Ext E.B E.w0 E.S0 w' S' ∧ Sat w' S' ∧ Own E.base E.B w' S' (recE l rec .ready :: Oi i)
/-- Where the loop's left sides have been assigned: the round begins. -/
def begQ (E : En) (l : Nat) (body : Code) (R : Ending → World → Prop) : Exit → Act → World → Prop :=
  Exit.then (fun a₁ w₁ => ∃ w₂, (Instr.beginRound l).run E.P w₁ = .ok () w₂ ∧ body.wpIn (fw E.r) 0 E.P (roundPost E.P l R) a₁ w₂) (fun _ _ _ => False)
section
variable {E : En} {O : List OE} {G : Ctx}
theorem own_rec {base : Nat} {B : Nat → Prop} {w : World} {S : SH} {l : Nat} {rec : Loop} {st st' : LoopState} {O : List OE} (h : Own base B w S (recE l rec st :: O)) (hs : Sat w S) :
    Ext (fun k => k = l) w S (w.putObj l (.loop { rec with state := st', pending := none })) S ∧ Sat (w.putObj l (.loop { rec with state := st', pending := none })) S ∧ Own base B (w.putObj l (.loop { rec with state := st', pending := none })) S (recE l rec st' :: O) := by
  obtain ⟨hno, hl⟩ := h.1.1
  have hlt := (Array.getElem?_eq_some_iff.1 hl).1
  have hext : Ext (fun k => k = l) w S (w.putObj l (.loop { rec with state := st', pending := none })) S := ⟨rfl, rfl, rfl, Nat.le_refl _, by simp, fun k _ hk => World.putObj_heap_other hk, SH.le_refl _, fun _ _ _ => rfl⟩
  refine ⟨hext, hs.same fun k o hk => ?_, ⟨⟨hno, World.putObj_heap_same hlt⟩, h.1.2⟩, h.2.1, h.2.2.ext hext fun g hg k hk hkl => h.2.1 g hg k hkl hk⟩
  have hne : k ≠ l := fun e => by subst e; rw [hno] at hk; cases hk
  exact World.putObj_heap_other hne
theorem AT.begin {l : Nat} {rec : Loop} {body : Code} {R : Ending → World → Prop} (h : CG E (roundPost E.P l R) body (recE l rec .busy :: O) G) : AT E (begQ E l body R) .normal (recE l rec .ready :: O) G := fun a w S st => by
  obtain ⟨h1, h2, h3⟩ := own_rec (st' := .busy) st.own st.sat
  obtain ⟨_, hl⟩ := st.own.1.1
  exact ⟨_, run_beginRound hl rfl, h a _ S ⟨st.ext.step h1 (fun c hc => st.own.1.2 c hc), h2, h3, st.facts⟩⟩
theorem AT.endRound {l : Nat} {rec : Loop} {σ ι : Type} {Oi : ι → List OE} {dat : ι → σ} {s2 : σ} (i : ι) (hi : dat i = s2) (hO : O = Oi i) : AT E (roundPost E.P l (rndR E l rec Oi dat s2)) .normal (recE l rec .busy :: O) G := fun a w S st => by
  subst hO
  obtain ⟨h1, h2, h3⟩ := own_rec (st' := .ready) st.own st.sat
  obtain ⟨_, hl⟩ := st.own.1.1
  exact ⟨_, _, run_endRound none hl, i, S, rfl, hi, st.ext.step h1 (fun c hc => st.own.1.2 c hc), h2, h3⟩
theorem foldl_zip_array {ps : Array Nat} {vs : List Value} {tmps : Array Value} : (ps.zip vs.toArray).foldl (fun t (p, v) => t.setIfInBounds p v) tmps = (ps.toList.zip vs).foldl (fun t (p : Nat × Value) => t.setIfInBounds p.1 p.2) tmps := by
  rw [← Array.foldl_toList]
  simp
/-- The bodies of the rounds, as data. -/
def bodyY {α σ : Type} (f : α → σ → Option σ) : α → σ → Option (Bool × σ) := fun x s => (f x s).map fun s' => (true, s')
theorem CG.rangeF {Q : Exit → Act → World → Prop} {v : Value} {fp : Nat → Prop} {α : Type} {args : α → List Ty} {it : It α} {σ ι : Type} (Oi : ι → List OE) (dat : ι → σ) {f : α → σ → Option σ} {s' : σ} {g : Operand} {ps : List Nat} {assign body : Code} (hr : E.r = none)
    (hg : HasTy E.N G g (tV v)) (i0 : ι) (hO : O = itr E.P args it v fp :: Oi i0) (hit : it σ (bodyY f) (dat i0) = some s') (hps : ∀ x, ps.length = (args x).length) (hpn : (ps.all fun d => Nat.blt d E.N.n) = true)
    (hbody : ∀ (i : ι) (x : α) (s2 : σ), f x (dat i) = some s2 → ∀ (l : Nat) (rec : Loop) (w1 : World) (S1 : SH) (B1 : Nat → Prop),
      CG ⟨E.P, ⟨E.N.n, []⟩, B1, w1, S1, some l⟩ (begQ ⟨E.P, ⟨E.N.n, []⟩, B1, w1, S1, some l⟩ l body (rndR ⟨E.P, ⟨E.N.n, []⟩, B1, w1, S1, some l⟩ l rec Oi dat s2)) assign (recE l rec .ready :: Oi i) (putsG ps (args x) G))
    (k : ∀ i', dat i' = s' → ∀ b, AT ⟨E.P, ⟨E.N.n, markD b :: E.N.ds⟩, E.B, E.w0, E.S0, E.r⟩ Q .normal (dfb b :: Oi i') G) : CG E Q (.rangeFunc g ps.toArray assign body) O G := fun a w S st => by
  subst hO
  refine wpIn_rangeFunc fun fn _ => ?_
  have hr0 : (fw E.r).round = none := hr
  have hfw : fw E.r = fw none := by rw [hr]
  rw [hr0]
  obtain ⟨rec, hrec⟩ : ∃ rec : Loop, rec = { state := .ready, pending := none, fn, tmps := a.tmps, params := ps.toArray, assign, body, defers := w.heap.size } := ⟨_, rfl⟩
  obtain ⟨x1, x2, x3⟩ := Ext.alloc_own (w := w) (.deferred (some [])) st.sat
  obtain ⟨y1, y2, y3⟩ := Ext.alloc_own (w := w.alloc (.deferred (some []))) (.loop rec) x2
  obtain ⟨W1, hW1⟩ : ∃ W1, (w.alloc (.deferred (some []))).alloc (.loop rec) = W1 := ⟨_, rfl⟩
  rw [hW1] at y1 y2
  have hsz : (w.alloc (.deferred (some []))).heap.size = w.heap.size + 1 := by simp
  rw [hsz] at y3
  have hext : Ext noB w S W1 S := x1.trans y1
  have hL1 : W1.heap[w.heap.size + 1]? = some (.loop rec) := by
    rw [← hW1]; have := World.alloc_heap_new (w.alloc (.deferred (some []))) (.loop rec); rwa [hsz] at this
  have hK1 : W1.heap[w.heap.size]? = some (.deferred (some [])) := by
    rw [y1.heap w.heap.size (by omega) (fun h => h)]; exact World.alloc_heap_new w _
  have hW1s : W1.heap.size = w.heap.size + 2 := by rw [← hW1]; simp
  have hg' : a.eval g = v := hg S a st.facts
  obtain ⟨hit1, hap, hoi⟩ := st.own
  obtain ⟨⟨hfp, gf, cap, hv, hcal, hcall⟩, hbase⟩ := hit1
  have hbl := st.base_le
  have hoi1 : Own E.base E.B W1 S (Oi i0) := hoi.ext0 hext
  have hlt : ∀ f ∈ Oi i0, ∀ k, f.fp k → k < w.heap.size := fun f hf k hk => f.here (Own.mem hoi f hf).1 k hk
  refine ⟨w.heap.size + 1, [markD w.heap.size], W1, { target := .fn (.func gf) cap, args := #[.func (.yield (w.heap.size + 1)) #[] #[]] }, W1, gf,
    #[.func (.yield (w.heap.size + 1)) #[] #[]] ++ cap, W1, ?_, ?_, fun _ _ => trivial, ?_, fun h => (by cases h), ?_⟩
  · rw [← hW1, hrec]; exact run_enterLoop_outer _ _ _ _ _
  · simp only [resolve, hg', hv]
    simp [go_sem]
  · simp [invoke, go_sem, run_callFunc hcal]
  rw [hfw]
  refine callsIn_fw.2 ?_
  have hyld : Yld E.P args (bodyY f) (fun s e => ∃ i, dat i = s ∧ e = starE S (recE (w.heap.size + 1) rec .ready :: Oi i)) (.func (.yield (w.heap.size + 1)) #[] #[]) := by
    refine ⟨_, rfl, ?_⟩
    rintro x s r hy e ⟨i, rfl, rfl⟩ w2 S2 vs hs2 ⟨hle, hown⟩ hvs
    obtain ⟨s2, hs2', rfl⟩ : ∃ s2, f x (dat i) = some s2 ∧ r = (true, s2) := by
      unfold bodyY at hy
      cases hf : f x (dat i) with
      | none => rw [hf] at hy; cases hy
      | some s2 => rw [hf] at hy; exact ⟨s2, rfl, by simpa using hy.symm⟩
    have hl2 := hown.1.1.2
    have hvl := hvs.length
    have hyr := run_yield (P := E.P) (args := vs.toArray) hl2 (by rw [hrec]; simp [hps x, hvl])
    refine ⟨_, _, _, _, hyr, roundIn_of_wpIn trivial ?_⟩
    have := hbody i x s2 hs2' (w.heap.size + 1) rec w2 S2 (fun k => ∃ f ∈ recE (w.heap.size + 1) rec .ready :: Oi i, f.fp k)
      { tmps := (ps.zip vs).foldl (fun t (p : Nat × Value) => t.setIfInBounds p.1 p.2) a.tmps, defers := [] } w2 S2
      ⟨Ext.refl _ _ _, hs2, Own.based hown fun f hf k hk => .inr ⟨f, hf, hk⟩, facts_puts ps (args x) vs ⟨a.tmps, []⟩ G (hps x) hvs hpn ⟨st.facts.size, rfl, fun j t h => t.mono hle (st.facts.at_ j t h)⟩⟩
    rw [hrec]
    rw [hrec] at this
    rw [foldl_zip_array]
    refine wpIn_mono this ?_
    intro e a3 w3 hp
    cases e with
    | normal =>
      obtain ⟨w4, hb4, hp4⟩ := hp
      refine ⟨w4, hb4, wpIn_mono hp4 ?_⟩
      have hR : ∀ en w', rndR ⟨E.P, ⟨E.N.n, []⟩, fun k => ∃ f ∈ recE (w.heap.size + 1) rec .ready :: Oi i, f.fp k, w2, S2, some (w.heap.size + 1)⟩ (w.heap.size + 1) rec Oi dat s2 en w' →
          ∃ e' S', en = .returned (.bool true) ∧ (∃ i', dat i' = s2 ∧ e' = starE S (recE (w.heap.size + 1) rec .ready :: Oi i')) ∧ Ext (starE S (recE (w.heap.size + 1) rec .ready :: Oi i)).fp w2 S2 w' S' ∧ Sat w' S' ∧ e'.p w' S' ∧ ∀ k, e'.fp k → (starE S (recE (w.heap.size + 1) rec .ready :: Oi i)).fp k ∨ w2.heap.size ≤ k := by
        rintro en w' ⟨i', S', h1, h2, h3, h4, h5⟩
        exact ⟨_, S', h1, ⟨i', h2, rfl⟩, h3, h4, ⟨SH.le_trans hle h3.keep, h5.weak⟩, fun k ⟨f, hf, hk⟩ => ((Own.mem h5 f hf).2 k hk).symm⟩
      rw [hrec] at hR
      intro e5 a5 w5 hp5
      cases e5 <;> simp only [roundPost] at hp5 ⊢
      case normal => obtain ⟨v5, w6, h1, h2⟩ := hp5; exact ⟨v5, w6, h1, hR _ _ h2⟩
      case ret => obtain ⟨v5, w6, h1, h2⟩ := hp5; exact ⟨v5, w6, h1, hR _ _ h2⟩
      case exit => obtain ⟨v5, w6, h1, h2⟩ := hp5; exact ⟨v5, w6, h1, hR _ _ h2⟩
      case goto => obtain ⟨v5, w6, h1, h2⟩ := hp5; exact ⟨v5, w6, h1, hR _ _ h2⟩
    | _ => exact hp
  have hrecE : W1.heap[w.heap.size + 1]? = some (.loop { rec with state := .ready, pending := none }) := by rw [hL1, hrec]
  have he0 : (starE S (recE (w.heap.size + 1) rec .ready :: Oi i0)).p W1 S := ⟨SH.le_refl _, ⟨⟨y3, hrecE⟩, fun _ _ => .inl (Nat.zero_le _)⟩, fun f hf k hk hfk => by have := hlt f hf k hfk; have hk' : k = w.heap.size + 1 := hk; omega, hoi1.weak⟩
  have hap0 : ∀ k, (starE S (recE (w.heap.size + 1) rec .ready :: Oi i0)).fp k → ¬ fp k := by
    rintro k ⟨f, hf, hk⟩ hfk
    rcases List.mem_cons.1 hf with rfl | hf
    · have := hfp k hfk; have hk' : k = w.heap.size + 1 := hk; omega
    · exact hap f hf k hfk hk
  refine (hcall noB W1 S hext (fun _ _ h => h) y2 σ (bodyY f) (dat i0) s' hit _ _ hyld _ ⟨i0, rfl, rfl⟩ he0 hap0).mono ?_
  rintro en w2 ⟨e', S2, ⟨vr, rfl⟩, ⟨i', hi', rfl⟩, hx2, hs2, ⟨hle2, hown2⟩, hnew⟩
  have hl2 := hown2.1.1.2
  refine ⟨none, _, run_endLoop hl2 (by simp), ?_⟩
  have hb2 : Own E.base E.B w2 S2 (recE (w.heap.size + 1) rec .ready :: Oi i') := by
    refine Own.based hown2 fun f hf k hk => ?_
    rcases hnew k ⟨f, hf, hk⟩ with ⟨f0, hf0, hk0⟩ | h
    · rcases List.mem_cons.1 hf0 with rfl | hf0
      · left; have hk' : k = w.heap.size + 1 := hk0; omega
      · exact (Own.mem hoi f0 hf0).2 k hk0
    · left; omega
  obtain ⟨z1, z2, z3⟩ := own_rec (st' := .exhausted) hb2 hs2
  have hdf : (dfb w.heap.size).p W1 S := ⟨x3, hK1⟩
  have hnb : ∀ k, (dfb w.heap.size).fp k → ¬ ((starE S (recE (w.heap.size + 1) rec .ready :: Oi i0)).fp k ∨ fp k) := by
    rintro k hk h
    have hk' : k = w.heap.size := hk
    subst hk'
    rcases h with ⟨f, hf, hfk⟩ | h
    · rcases List.mem_cons.1 hf with rfl | hf
      · have hk' : w.heap.size = w.heap.size + 1 := hfk; omega
      · have := hlt f hf _ hfk; omega
    · have := hfp _ h; omega
  have hd2 : (dfb w.heap.size).p w2 S2 := (dfb w.heap.size).kept hdf hx2 hnb
  have hd3 := (dfb w.heap.size).kept hd2 z1 (fun k hk hkl => by have h1 : k = w.heap.size := hk; have h2 : k = w.heap.size + 1 := hkl; omega)
  have hBin : ∀ k, ((starE S (recE (w.heap.size + 1) rec .ready :: Oi i0)).fp k ∨ fp k) → E.w0.heap.size ≤ k ∨ E.B k := by
    rintro k (⟨f, hf, hk⟩ | h)
    · rcases List.mem_cons.1 hf with rfl | hf
      · left; have hk' : k = w.heap.size + 1 := hk; have : E.w0.heap.size ≤ w.heap.size := hbl; omega
      · exact (Own.mem hoi f hf).2 k hk
    · exact hbase k h
  refine k i' hi' w.heap.size _ _ S2 ⟨((st.ext.step0 hext).step hx2 hBin).step z1 (fun c hc => z3.1.2 c hc), z2, ?_, ?_⟩
  · refine Own.cons ⟨hd3, fun k hk => .inl (by have h1 : k = w.heap.size := hk; rw [h1]; exact hbl)⟩ (fun f hf k hk hfk => ?_) z3.2.2
    have h1 : k = w.heap.size := hk
    rcases hnew k ⟨f, List.mem_cons_of_mem _ hf, hfk⟩ with h2 | h2
    · exact hnb k hk (.inl h2)
    · omega
  · refine ⟨st.facts.size, ?_, fun j t hj => t.mono (SH.le_trans (SH.le_refl S) hle2) (st.facts.at_ j t hj)⟩
    show markD w.heap.size :: a.defers = _
    rw [st.facts.defers]
end
end Go.Proofs.Ytchjhcgkfglgiaa
