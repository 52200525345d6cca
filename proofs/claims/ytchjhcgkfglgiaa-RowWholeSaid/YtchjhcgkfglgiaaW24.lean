/- A small logic over the walk's rules: operations that turn what is the call's own, in regions whose order is open. It states nothing of any program. -/
import Derived.Test.YtchjhcgkfglgiaaW23
namespace Go.Proofs.Ytchjhcgkfglgiaa
open Go

abbrev OI := Option Nat × Nat
/-- An operation that turns what is the call's own (O) into something else (post). -/
def EffOK (E : En) (O : List OE) (need : Ctx) (o : Oper) (post : OI → List OE) (t : OI → Ty) : Prop :=
  ∀ a w S, Sat w S → Own E.base E.B w S O → Facts E.N S a need → E.base ≤ w.heap.size →
    opWp E.P o a w (fun a' w' => ∃ v S' x, a' = a.put o.dst v ∧ Ext (fpB O) w S w' S' ∧ Sat w' S' ∧ Own E.base E.B w' S' (post x) ∧ (t x).p S' v)
section
variable {E : En} {O : List OE} {G : Ctx} {Q : Exit → Act → World → Prop} {ops : Array Oper} {rest : List Oper} {d : Nat} {ty : TypeId} {pos : String} {after : Array Edge} {g : Option (Nat × Bool)}
theorem EffOK.quiet {o : Oper} {t : Ty} (h : OpOK E O G o t) : EffOK E O G o (fun _ => O) (fun _ => t) := fun a w S hs ho hf _ =>
  opWp_mono (fun _ _ ⟨v, S', h1, h2, h3, h4⟩ => ⟨v, S', (none, 0), h1, h2.more fun _ hb => hb.elim, h3, ho.ext0 h2, h4⟩) (h a w S hs ho hf)
theorem eff_append {α : Type} {r : Rp α} {T t t' : TypeId} {sz bytes : Nat} {agg : Bool} {z : List Value} {mm : Bool} {l : Option Nat} {cap n : Nat} {xs ys zs : List α} {x y : Operand} {u : OI → Ty} (ti : TI E.P T sz bytes agg z) (hsz : r.sz = sz) (hz : Nat.beq z.length sz = true) (h0 : Nat.blt 0 sz = true) (h128 : Nat.ble bytes 2048 = true)
    (ht : E.P.underlying t = some (.slice T)) (hx : HasTy E.N G x (tV (oslV l cap n))) (hy : ∀ a w S, Sat w S → Facts E.N S a G → ∃ news, Src E.P r.sz t' (a.eval y) ys.length news w ∧ rcs r S news ys) (happ : app xs ys = some zs)
    (hu : ∀ l' cap' w0 S, (arrM mm r T l' cap' zs).p w0 S → (u (l', cap')).p S (oslV l' cap' zs.length)) (hn : n = xs.length) :
    EffOK E (arrM mm r T l cap xs :: O) G ⟨some d, .call ⟨.builtin .append, #[x, y], #[t, t']⟩, ty, pos, after, g⟩ (fun i => arrM mm r T i.1 i.2 zs :: O) u := fun a w S hs ho hf hb => by
  subst hn
  have h1 : a.eval x = oslV l cap xs.length := hx S a hf
  obtain ⟨news, h2, h3⟩ := hy a w S hs hf
  obtain ⟨l', cap', w', S', hr, hext, hsat, hh, hnew⟩ := run_arr_append (ty := ty) ti hsz hz h0 h128 ht hs ho.1 hb h2 h3 happ
  have hrun : (execOp a.eval ⟨some d, .call ⟨.builtin .append, #[x, y], #[t, t']⟩, ty, pos, after, g⟩).run E.P w = .ok (.value (oslV l' cap' zs.length)) w' := by
    simp [execOp, resolve, invoke, builtin, h1, hr]
  refine ⟨fun c h => (by cases h), ?_⟩
  rw [hrun]
  refine ⟨_, S', (l', cap'), rfl, hext.more fun b hb => ⟨_, List.mem_cons_self .., hb⟩, hsat, ⟨hh, fun f hf b hb hfb => ?_, ho.2.2.ext hext fun f hf b hb hbl => ho.2.1 f hf b hbl hb⟩, hu l' cap' w' S' hh.1⟩
  rcases hnew b hb with h | h
  · exact ho.2.1 f hf b h hfb
  · have := f.here (Own.mem ho.2.2 f hf).1 b hfb
    omega
theorem eff_appendA {α : Type} {r : Rp α} {T t t' : TypeId} {sz bytes : Nat} {agg : Bool} {z : List Value} {l : Option Nat} {cap n : Nat} {xs ys zs : List α} {x y : Operand} (ti : TI E.P T sz bytes agg z) (hsz : r.sz = sz) (hz : Nat.beq z.length sz = true) (h0 : Nat.blt 0 sz = true) (h128 : Nat.ble bytes 2048 = true)
    (ht : E.P.underlying t = some (.slice T)) (ht' : t' = t) (hx : HasTy E.N G x (tV (oslV l cap n))) (hy : HasTy E.N G y (tD (rSl r) ys)) (happ : app xs ys = some zs) (hn : n = xs.length := by rfl) :
    EffOK E (arr r T l cap xs :: O) G ⟨some d, .call ⟨.builtin .append, #[x, y], #[t, t']⟩, ty, pos, after, g⟩ (fun i => arr r T i.1 i.2 zs :: O) (fun i => tV (oslV i.1 i.2 zs.length)) := by
  subst ht'
  exact eff_append ti hsz hz h0 h128 ht hx (fun a w S hs hf => src_of_data ht hs (hy S a hf)) happ (fun _ _ _ _ _ => rfl) hn
theorem eff_appendT {α : Type} {r : Rp α} {T t t' : TypeId} {sz bytes : Nat} {agg : Bool} {z : List Value} {l : Option Nat} {cap : Nat} {xs ys zs : List α} {x y : Operand} (ti : TI E.P T sz bytes agg z) (hsz : r.sz = sz) (hz : Nat.beq z.length sz = true) (h0 : Nat.blt 0 sz = true) (h128 : Nat.ble bytes 2048 = true)
    (ht : E.P.underlying t = some (.slice T)) (ht' : t' = t) (hx : HasTy E.N G x (tO r l cap xs)) (hy : HasTy E.N G y (tD (rSl r) ys)) (happ : app xs ys = some zs) :
    EffOK E (tip r T l cap xs :: O) G ⟨some d, .call ⟨.builtin .append, #[x, y], #[t, t']⟩, ty, pos, after, g⟩ (fun i => tip r T i.1 i.2 zs :: O) (fun i => tO r i.1 i.2 zs) := by
  subst ht'
  exact eff_append ti hsz hz h0 h128 ht (tO_v hx) (fun a w S hs hf => src_of_data ht hs (hy S a hf)) happ (fun _ _ _ _ h => ⟨rfl, tip_data h⟩) rfl
theorem eff_appendSA {T t t' : TypeId} {bytes : Nat} {agg : Bool} {z : List Value} {l : Option Nat} {cap n : Nat} {xs zs : List Int} {s : Str} {x y : Operand} (ti : TI E.P T 1 bytes agg z) (hz : Nat.beq z.length 1 = true) (h128 : Nat.ble bytes 2048 = true)
    (ht : E.P.underlying t = some (.slice T)) (ht' : E.P.underlying t' = some .string) (hx : HasTy E.N G x (tV (oslV l cap n))) (hy : HasTy E.N G y (tD rS s)) (happ : app xs (bytesOf s) = some zs) (hn : n = xs.length := by rfl) :
    EffOK E (arr (rI .u8) T l cap xs :: O) G ⟨some d, .call ⟨.builtin .append, #[x, y], #[t, t']⟩, ty, pos, after, g⟩ (fun i => arr (rI .u8) T i.1 i.2 zs :: O) (fun i => tV (oslV i.1 i.2 zs.length)) :=
  eff_append (r := rI .u8) ti rfl hz rfl h128 ht hx (fun a w S _ hf => src_of_str ht' (hy S a hf)) happ (fun _ _ _ _ _ => rfl) hn
theorem eff_appendST {T t t' : TypeId} {bytes : Nat} {agg : Bool} {z : List Value} {l : Option Nat} {cap : Nat} {xs zs : List Int} {s : Str} {x y : Operand} (ti : TI E.P T 1 bytes agg z) (hz : Nat.beq z.length 1 = true) (h128 : Nat.ble bytes 2048 = true)
    (ht : E.P.underlying t = some (.slice T)) (ht' : E.P.underlying t' = some .string) (hx : HasTy E.N G x (tO (rI .u8) l cap xs)) (hy : HasTy E.N G y (tD rS s)) (happ : app xs (bytesOf s) = some zs) :
    EffOK E (tip (rI .u8) T l cap xs :: O) G ⟨some d, .call ⟨.builtin .append, #[x, y], #[t, t']⟩, ty, pos, after, g⟩ (fun i => tip (rI .u8) T i.1 i.2 zs :: O) (fun i => tO (rI .u8) i.1 i.2 zs) :=
  eff_append (r := rI .u8) ti rfl hz rfl h128 ht (tO_v hx) (fun a w S _ hf => src_of_str ht' (hy S a hf)) happ (fun _ _ _ _ h => ⟨rfl, tip_data h⟩) rfl
theorem eff_callG {f : FuncId} {xs : List Operand} {ats : Array TypeId} {ts : List Ty} {mm : Bool} {α : Type} {r : Rp α} {T : TypeId} {ys : List α} {u : OI → Ty} (hc : callableB E.P f = true) (hs : SpecO E.P f ts mm r T ys) (hx : HasTys E.N G xs ts)
    (hu : ∀ l cap w0 S, (arrM mm r T l cap ys).p w0 S → (u (l, cap)).p S (oslV l cap ys.length)) :
    EffOK E O G ⟨some d, .call ⟨.value (.func f), xs.toArray, ats⟩, ty, pos, after, g⟩ (fun i => arrM mm r T i.1 i.2 ys :: O) u := fun a w S hsat ho hf hb => by
  have hr : (execOp a.eval ⟨some d, .call ⟨.value (.func f), xs.toArray, ats⟩, ty, pos, after, g⟩).run E.P w = .ok (.enter f (xs.map a.eval).toArray) w := by
    simp [execOp, resolve, Act.eval, Deferred.ofValue, invoke, run_callFunc hc]
  refine ⟨fun c h => (by cases h), ?_⟩
  rw [hr]
  exact (hs w S _ hsat (hx.tys hf)).mono fun e w' ⟨l, cap, S', he, h1, h2, h3⟩ => ⟨_, he, _, S', (l, cap), rfl, h1.more fun _ hb => hb.elim, h2, own_new ho h1 h3.1 (fun b hb => (h3.2 b hb).resolve_right id) hb, hu l cap w' S' h3.1⟩
theorem SpecO.tip {P : Program} {f : FuncId} {ts : List Ty} {mm : Bool} {α : Type} {r : Rp α} {T : TypeId} {ys : List α} (h : SpecO P f ts mm r T ys) : SpecO P f ts true r T ys := by
  cases mm with
  | true => exact h
  | false =>
    intro w S vs hs hv
    refine (h w S vs hs hv).mono fun e w' ⟨l, cap, S', he, h1, h2, h3⟩ => ?_
    have st : St ⟨default, ⟨0, []⟩, noB, w, S, none⟩ [arr r T l cap ys] [] ⟨#[], []⟩ w' S' := ⟨h1, h2, ⟨h3, fun _ hf => (by cases hf), trivial⟩, ⟨rfl, rfl, fun _ _ h => (by simp [look] at h)⟩⟩
    obtain ⟨S'', h4⟩ := st.freeze
    exact ⟨l, cap, S'', he, h4.ext, h4.sat, h4.own.1⟩
theorem eff_callT {f : FuncId} {xs : List Operand} {ats : Array TypeId} {ts : List Ty} {mm : Bool} {α : Type} {r : Rp α} {T : TypeId} {ys : List α} (hc : callableB E.P f = true) (hs : SpecO E.P f ts mm r T ys) (hx : HasTys E.N G xs ts) :
    EffOK E O G ⟨some d, .call ⟨.value (.func f), xs.toArray, ats⟩, ty, pos, after, g⟩ (fun i => Go.Proofs.Ytchjhcgkfglgiaa.tip r T i.1 i.2 ys :: O) (fun i => tO r i.1 i.2 ys) := eff_callG hc hs.tip hx (fun _ _ _ _ h => ⟨rfl, tip_data h⟩)
theorem Own.turn {base : Nat} {B : Nat → Prop} {w w' : World} {S S' : SH} {O1 Or O2 : List OE} (h : Own base B w S (O1 ++ Or)) (hbl : base ≤ w.heap.size) (hx : Ext (fpB O1) w S w' S') (ho : Own 0 noB w' S' O2) (hn : ∀ k, (∃ f ∈ O2, f.fp k) → (∃ f ∈ O1, f.fp k) ∨ w.heap.size ≤ k) : Own base B w' S' (O2 ++ Or) := by
  obtain ⟨h1, h2, h3⟩ := Own.split h
  refine Own.join (Own.based ho fun f hf k hk => ?_) (h2.ext hx fun f hf b hb ⟨g, hg, hgb⟩ => h3 g hg f hf b hgb hb) (fun e he f hf b heb hfb => ?_)
  · rcases hn k ⟨f, hf, hk⟩ with ⟨g, hg, hgk⟩ | h
    · exact (Own.mem h1 g hg).2 k hgk
    · exact .inl (Nat.le_trans hbl h)
  · rcases hn b ⟨e, he, heb⟩ with ⟨g, hg, hgb⟩ | h
    · exact h3 g hg f hf b hgb hfb
    · have := f.here (Own.mem h2 f hf).1 b hfb
      omega
theorem eff_callM {f : FuncId} {xs : List Operand} {ats : Array TypeId} {ts : List Ty} (O1 Or : List OE) {t : OI → Ty} {O2 post : OI → List OE} (hO : O = O1 ++ Or) (hc : callableB E.P f = true) (hs : SpecM E.P f ts O1 t O2) (hx : HasTys E.N G xs ts) (hpost : ∀ i, O2 i ++ Or = post i) :
    EffOK E O G ⟨some d, .call ⟨.value (.func f), xs.toArray, ats⟩, ty, pos, after, g⟩ post t := fun a w S hsat ho hf hb => by
  subst hO
  obtain rfl : (fun i => O2 i ++ Or) = post := funext hpost
  have hr : (execOp a.eval ⟨some d, .call ⟨.value (.func f), xs.toArray, ats⟩, ty, pos, after, g⟩).run E.P w = .ok (.enter f (xs.map a.eval).toArray) w := by
    simp [execOp, resolve, Act.eval, Deferred.ofValue, invoke, run_callFunc hc]
  refine ⟨fun c h => (by cases h), ?_⟩
  rw [hr]
  exact (hs w S _ hsat (hx.tys hf) (Own.split ho).1.weak).mono fun en w' ⟨i, v, S', he, hv, h1, h2, h3, h4⟩ => ⟨_, he, v, S', i, rfl, h1.more fun b ⟨f, hf, hb⟩ => ⟨f, List.mem_append_left _ hf, hb⟩, h2, Own.turn ho hb h1 h3 h4, hv⟩
/-- Such an operation in a row of operations. -/
theorem RG.eff {op : Op} {post : OI → List OE} {t : OI → Ty} (h : EffOK E O G ⟨some d, op, ty, pos, after, none⟩ post t) (hd : Nat.blt d E.N.n = true) (k : ∀ l c, RG E ops Q rest (post (l, c)) ((d, t (l, c)) :: G)) : RG E ops Q (⟨some d, op, ty, pos, after, none⟩ :: rest) O G := .of rfl fun a w S st =>
  opWp_mono (fun a' w' ⟨v, S', x, ha, hx, hs, ho, hv⟩ => by
    subst ha
    exact k x.1 x.2 _ _ S' ⟨st.ext.step hx fun b ⟨f, hf, hb⟩ => (Own.mem st.own f hf).2 b hb, hs, ho, (st.facts.mono hx.keep).put hd hv⟩) (h a w S st.sat st.own st.facts st.base_le)
end

/-! ### A region whose order is open, with such operations in one chain -/
def upd (σ : Nat → OI) (k : Nat) (x : OI) : Nat → OI := fun j => bif Nat.beq j k then x else σ j
theorem upd_same (σ : Nat → OI) (k : Nat) (x : OI) : upd σ k x k = x := by simp [upd]
theorem upd_ne (σ : Nat → OI) {k j : Nat} (x : OI) (h : j ≠ k) : upd σ k x j = σ j := by
  have : Nat.beq j k = false := by
    cases hb : Nat.beq j k with
    | false => rfl
    | true => exact absurd (Nat.eq_of_beq_eq_true hb) h
  simp [upd, this]
structure NE where
  slot : Nat
  ty : (Nat → OI) → Ty
  src : Option Nat
def NE.at (n : NE) (σ : Nat → OI) : Nd := ⟨n.slot, n.ty σ, n.src⟩
def NEOK (G : Ctx) (ts : List (OI → Ty)) (n : NE) : Prop :=
  match n.src with
  | some j => ∀ σ, (ts[j]?).map (fun f => f (σ j)) = some (n.ty σ)
  | none => ∀ σ, look G n.slot = some (n.ty σ)
def NEsOK (G : Ctx) (ts : List (OI → Ty)) : List NE → Prop
  | [] => True
  | n :: l => NEOK G ts n ∧ NEsOK G ts l
theorem NEsOK.mem {G : Ctx} {ts : List (OI → Ty)} : ∀ {l : List NE}, NEsOK G ts l → ∀ n ∈ l, NEOK G ts n
  | _ :: _, ⟨h, _⟩, _, .head _ => h
  | _ :: _, ⟨_, h⟩, _, .tail _ hm => NEsOK.mem h _ hm
def needE (l : List NE) (σ : Nat → OI) : Ctx := needCtx (l.map (·.at σ))
/-- One operation of the chain, guarded or not. -/
def EffG (E : En) (ops : Array Oper) (O : List OE) (need : Ctx) (o : Oper) (post : OI → List OE) (t : OI → Ty) : Prop :=
  ∀ a w S, Sat w S → Own E.base E.B w S O → Facts E.N S a need → E.base ≤ w.heap.size →
    if Region.wanted o (yielded ops a.tmps) then opWp E.P o a w (fun a' w' => ∃ v S' x, a' = a.put o.dst v ∧ Ext (fpB O) w S w' S' ∧ Sat w' S' ∧ Own E.base E.B w' S' (post x) ∧ (t x).p S' v)
    else ∃ x, Own E.base E.B w S (post x) ∧ (t x).p S undef
theorem EffG.plain {E : En} {ops : Array Oper} {O : List OE} {need : Ctx} {o : Oper} {post : OI → List OE} {t : OI → Ty} (hg : o.guard = none) (h : EffOK E O need o post t) : EffG E ops O need o post t := fun a w S hs ho hf hb => by
  have : Region.wanted o (yielded ops a.tmps) = true := by unfold Region.wanted; rw [hg]
  rw [this, if_pos rfl]
  exact h a w S hs ho hf hb
/-- Something that is there only if c. -/
def gE (c : Bool) (e : OE) : OE where
  fp := fun k => c = true ∧ e.fp k
  p := fun w S => c = true → e.p w S
  here := fun h k ⟨hc, hk⟩ => e.here (h hc) k hk
  kept := fun h k hC hc => e.kept (h hc) k fun b hb => hC b ⟨hc, hb⟩
theorem own_gE_true {base : Nat} {B : Nat → Prop} {w : World} {S : SH} {e : OE} {O : List OE} {c : Bool} (hc : c = true) : Own base B w S (gE c e :: O) ↔ Own base B w S (e :: O) := by
  subst hc
  constructor
  · rintro ⟨⟨h1, h1'⟩, h2, h3⟩; exact ⟨⟨h1 rfl, fun k hk => h1' k ⟨rfl, hk⟩⟩, fun f hf b hb => h2 f hf b ⟨rfl, hb⟩, h3⟩
  · rintro ⟨⟨h1, h1'⟩, h2, h3⟩; exact ⟨⟨fun _ => h1, fun k hk => h1' k hk.2⟩, fun f hf b hb => h2 f hf b hb.2, h3⟩
theorem own_gE_false {base : Nat} {B : Nat → Prop} {w : World} {S : SH} {e : OE} {O : List OE} {c : Bool} (hc : c = false) (h : Own base B w S O) : Own base B w S (gE c e :: O) := by
  subst hc
  exact ⟨⟨fun h => (by cases h), fun k hk => (by cases hk.1)⟩, fun f hf b hb => (by cases hb.1), h⟩
/-- A guarded one that makes something new: there only if the guard holds. -/
theorem EffG.gnew {E : En} {l : List Oper} {O : List OE} {need : Ctx} {o : Oper} {e : OI → OE} {t : OI → Ty} {j gs : Nat} {pol c b : Bool} (hg : o.guard = some (j, pol)) (hj : ((l.toArray)[j]?).bind (·.dst) = some gs) (hgs : Nat.blt gs E.N.n = true) (hb : HasTy E.N need (.tmp gs) (guardTy c b)) {cc : Bool} (hcc : (c && (b == pol)) = cc)
    (h : cc = true → EffOK E O need o (fun x => e x :: O) t) : EffG E l.toArray O need o (fun x => gE cc (e x) :: O) (fun x => tOpt cc (t x)) := fun a w S hs ho hf hbl => by
  subst hcc
  have hw := wanted_iff (ops := l.toArray) hg hj (by rw [hf.size]; simpa [Nat.blt_eq] using hgs) (hb S a hf)
  rw [hw]
  by_cases hc : (c && (b == pol)) = true
  · rw [if_pos hc]
    refine opWp_mono (fun a' w' ⟨v, S', x, h1, h2, h3, h4, h5⟩ => ⟨v, S', x, h1, h2, h3, (own_gE_true hc).2 h4, ?_⟩) (h hc a w S hs ho hf hbl)
    show if _ then _ else _
    rw [if_pos hc]; exact h5
  · rw [if_neg hc]
    refine ⟨(none, 0), own_gE_false (by simpa using hc) ho, ?_⟩
    show if _ then _ else _
    rw [if_neg hc]
/-- A guarded one that turns such a thing. -/
theorem EffG.gturn {E : En} {l : List Oper} {O : List OE} {need : Ctx} {o : Oper} {e0 : OE} {e : OI → OE} {t : OI → Ty} {j gs : Nat} {pol c b : Bool} (hg : o.guard = some (j, pol)) (hj : ((l.toArray)[j]?).bind (·.dst) = some gs) (hgs : Nat.blt gs E.N.n = true) (hb : HasTy E.N need (.tmp gs) (guardTy c b)) {cc : Bool} (hcc : (c && (b == pol)) = cc)
    (h : cc = true → EffOK E (e0 :: O) need o (fun x => e x :: O) t) : EffG E l.toArray (gE cc e0 :: O) need o (fun x => gE cc (e x) :: O) (fun x => tOpt cc (t x)) := fun a w S hs ho hf hbl => by
  subst hcc
  have hw := wanted_iff (ops := l.toArray) hg hj (by rw [hf.size]; simpa [Nat.blt_eq] using hgs) (hb S a hf)
  rw [hw]
  by_cases hc : (c && (b == pol)) = true
  · rw [if_pos hc]
    refine opWp_mono (fun a' w' ⟨v, S', x, h1, h2, h3, h4, h5⟩ => ⟨v, S', x, h1, h2.more ?_, h3, (own_gE_true hc).2 h4, ?_⟩) (h hc a w S hs ((own_gE_true hc).1 ho) hf hbl)
    · rintro k ⟨f, hf, hk⟩
      rcases List.mem_cons.1 hf with rfl | hf
      · exact ⟨_, List.mem_cons_self .., hc, hk⟩
      · exact ⟨f, List.mem_cons_of_mem _ hf, hk⟩
    · show if _ then _ else _
      rw [if_pos hc]; exact h5
  · rw [if_neg hc]
    refine ⟨(none, 0), own_gE_false (by simpa using hc) ho.2.2, ?_⟩
    show if _ then _ else _
    rw [if_neg hc]
def tsAt : Nat → List (OI → Ty) → (Nat → OI) → List Ty
  | _, [], _ => []
  | k, f :: ts, σ => f (σ k) :: tsAt (k + 1) ts σ
theorem tsAt_get : ∀ (ts : List (OI → Ty)) (k j : Nat) (σ : Nat → OI), (tsAt k ts σ)[j]? = (ts[j]?).map (fun f => f (σ (k + j)))
  | [], _, _, _ => by simp [tsAt]
  | f :: ts, k, 0, σ => by simp [tsAt]
  | f :: ts, k, j + 1, σ => by simp [tsAt, tsAt_get ts (k + 1) j σ]; congr 2; funext g; congr 2; omega
theorem tsAt_len : ∀ (ts : List (OI → Ty)) (k : Nat) (σ : Nat → OI), (tsAt k ts σ).length = ts.length
  | [], _, _ => rfl
  | _ :: ts, k, σ => by simp [tsAt, tsAt_len ts (k + 1) σ]
/-- All operations of a region, from the i-th on; c of the chain stand before. -/
def DE (E : En) (G : Ctx) (L : List Oper) (ts : List (OI → Ty)) (Om : Nat → (Nat → OI) → List OE) : Nat → Nat → List Oper → List Bool → Prop
  | _, _, [], _ => True
  | i, c, o :: rest, false :: es => (∃ (needs : List NE) (t : OI → Ty), ts[i]? = some t ∧ NEsOK G ts needs ∧ (needs.all fun n => srcB L o i (n.at fun _ => (none, 0))) = true ∧ edgesB i o = true ∧
      ∃ t', t = (fun _ => t') ∧ ∀ O σ, OpG E O L.toArray (needE needs σ) o t') ∧ DE E G L ts Om (i + 1) c rest es
  | i, c, o :: rest, true :: es => (∃ (needs : List NE) (t : OI → Ty), ts[i]? = some t ∧ NEsOK G ts needs ∧ (needs.all fun n => srcB L o i (n.at fun _ => (none, 0))) = true ∧ edgesB i o = true ∧
      ∀ σ, EffG E L.toArray (Om c σ) (needE needs σ) o (fun x => Om (c + 1) (upd σ i x)) t) ∧ DE E G L ts Om (i + 1) (c + 1) rest es
  | _, _, _ :: _, [] => False
/-- How many of the chain stand ahead of a place. -/
def ahead (es : List Bool) (i : Nat) : Nat := (es.take i).countP (· == true)
theorem DE.get {E : En} {G : Ctx} {L : List Oper} {ts : List (OI → Ty)} {Om : Nat → (Nat → OI) → List OE} : ∀ (r : List Oper) (es : List Bool) (k c : Nat), DE E G L ts Om k c r es → ∀ (j : Nat) (o : Oper), r[j]? = some o →
    ∃ e, es[j]? = some e ∧ ∃ (needs : List NE) (t : OI → Ty), ts[k + j]? = some t ∧ NEsOK G ts needs ∧ (needs.all fun n => srcB L o (k + j) (n.at fun _ => (none, 0))) = true ∧ edgesB (k + j) o = true ∧
      (match e with
       | false => ∃ t', t = (fun _ => t') ∧ ∀ O σ, OpG E O L.toArray (needE needs σ) o t'
       | true => ∀ σ, EffG E L.toArray (Om (c + ahead es j) σ) (needE needs σ) o (fun x => Om (c + ahead es j + 1) (upd σ (k + j) x)) t) := by
  intro r
  induction r with
  | nil => intro es k c _ j o h; simp at h
  | cons p r ih =>
    intro es k c h j o ho
    cases es with
    | nil => exact h.elim
    | cons e es =>
      cases e with
      | false =>
        obtain ⟨h1, h2⟩ := h
        cases j with
        | zero =>
          simp at ho; subst ho
          exact ⟨false, rfl, h1⟩
        | succ j =>
          obtain ⟨e', g1, g2⟩ := ih es (k + 1) _ h2 j o (by simpa using ho)
          refine ⟨e', by simpa using g1, ?_⟩
          rw [show k + 1 + j = k + (j + 1) from by omega] at g2
          have e1 : c + ahead (false :: es) (j + 1) = c + ahead es j := by simp [ahead]
          rw [e1]; exact g2
      | true =>
        obtain ⟨h1, h2⟩ := h
        cases j with
        | zero =>
          simp at ho; subst ho
          exact ⟨true, rfl, h1⟩
        | succ j =>
          obtain ⟨e', g1, g2⟩ := ih es (k + 1) _ h2 j o (by simpa using ho)
          refine ⟨e', by simpa using g1, ?_⟩
          rw [show k + 1 + j = k + (j + 1) from by omega] at g2
          have e1 : c + ahead (true :: es) (j + 1) = c + 1 + ahead es j := by simp [ahead]; omega
          rw [e1]; exact g2
/-- Each of the chain waits for those ahead of it. -/
def chainB (L : List Oper) (es : List Bool) : Bool := (List.range es.length).all fun i => (List.range i).all fun j => !((es[i]?).getD false && (es[j]?).getD false) || reaches L L.length i j
structure DJE (E : En) (G : Ctx) (l : List Oper) (ts : List (OI → Ty)) (Om : Nat → (Nat → OI) → List OE) (es : List Bool) (done : Array Bool) (a : Act) (w : World) (S : SH) (σ : Nat → OI) (c : Nat) : Prop where
  ext : Ext E.B E.w0 E.S0 w S
  sat : Sat w S
  own : Own E.base E.B w S (Om c σ)
  size : a.tmps.size = E.N.n
  defers : a.defers = E.N.ds
  dsz : done.size = l.length
  down : ∀ j o, l[j]? = some o → done.getD j false = true → ∀ e ∈ o.after, Region.binds .any e = true → done.getD e.on false = true
  old : ∀ k t, look G k = some t → (∀ j o, l[j]? = some o → done.getD j false = true → o.dst ≠ some k) → t.p S (a.tmps.getD k undef)
  new : ∀ j o d f, l[j]? = some o → done.getD j false = true → o.dst = some d → ts[j]? = some f → (f (σ j)).p S (a.tmps.getD d undef)
  chain : ∀ k, es[k]? = some true → (done.getD k false = true ↔ ahead es k < c)
theorem ahead_lt {es : List Bool} : ∀ {i j : Nat}, i < j → es[i]? = some true → ahead es i < ahead es j := by
  induction es with
  | nil => intro i j _ h; simp at h
  | cons e es ih =>
    intro i j hij h
    cases j with
    | zero => omega
    | succ j =>
      cases i with
      | zero => simp at h; subst h; simp [ahead]
      | succ i =>
        have := ih (i := i) (j := j) (by omega) (by simpa using h)
        cases e <;> simp [ahead] at this ⊢ <;> omega
theorem ahead_find {es : List Bool} : ∀ {c k : Nat}, c < ahead es k → ∃ i, i < k ∧ es[i]? = some true ∧ ahead es i = c := by
  induction es with
  | nil => intro c k h; simp [ahead] at h
  | cons e es ih =>
    intro c k h
    cases k with
    | zero => simp [ahead] at h
    | succ k =>
      cases e with
      | false =>
        obtain ⟨i, h1, h2, h3⟩ := ih (c := c) (k := k) (by simpa [ahead] using h)
        exact ⟨i + 1, by omega, by simpa using h2, by simpa [ahead] using h3⟩
      | true =>
        cases c with
        | zero => exact ⟨0, by omega, rfl, by simp [ahead]⟩
        | succ c =>
          obtain ⟨i, h1, h2, h3⟩ := ih (c := c) (k := k) (by simp [ahead] at h ⊢; omega)
          exact ⟨i + 1, by omega, by simpa using h2, by simp [ahead] at h3 ⊢; omega⟩
section
variable {E : En} {G : Ctx} {L : List Oper} {ts : List (OI → Ty)} {Om : Nat → (Nat → OI) → List OE} {es : List Bool}
theorem DJE.need {done : Array Bool} {a : Act} {w : World} {S : SH} {σ : Nat → OI} {c : Nat} (h : DJE E G L ts Om es done a w S σ c) {i : Nat} {o : Oper} (hi : L[i]? = some o) (hun : done.getD i true = false)
    (hwait : ∀ e ∈ o.after, Region.binds .any e = true → done.getD e.on false = true) {needs : List NE} (h1 : NEsOK G ts needs) (h2 : (needs.all fun n => srcB L o i (n.at fun _ => (none, 0))) = true) : Facts E.N S a (needE needs σ) := by
  have hlt : i < done.size := by rw [h.dsz]; exact (List.getElem?_eq_some_iff.1 hi).1
  have hun' : done.getD i false = false := by
    simp [hlt] at hun ⊢; exact hun
  refine ⟨h.size, h.defers, ?_⟩
  have key : ∀ n ∈ needs, (n.ty σ).p S (a.tmps.getD n.slot undef) := by
    intro n hn
    have hs := List.all_eq_true.1 h2 n hn
    have ho := h1.mem n hn
    unfold srcB NE.at at hs
    unfold NEOK at ho
    cases hsrc : n.src with
    | some j =>
      rw [hsrc] at hs ho
      simp only [Bool.and_eq_true] at hs
      obtain ⟨hs1, hs2⟩ := hs
      cases hj : L[j]? with
      | none => rw [hj] at hs1; cases hs1
      | some p =>
        rw [hj] at hs1
        cases hd : p.dst with
        | none => simp only [hd] at hs1; cases hs1
        | some d =>
          simp only [hd] at hs1
          have hd' := Nat.eq_of_beq_eq_true hs1
          subst hd'
          have hdone : done.getD j false = true := by
            unfold waits at hs2
            obtain ⟨e, he0, hb⟩ := List.any_eq_true.1 hs2
            have he : e ∈ o.after := by simpa using he0
            simp only [Bool.and_eq_true] at hb
            have := hwait e he hb.2
            rwa [Nat.eq_of_beq_eq_true hb.1] at this
          have hm := ho σ
          cases hf : ts[j]? with
          | none => rw [hf] at hm; simp at hm
          | some f =>
            rw [hf] at hm
            have e : f (σ j) = n.ty σ := by simpa using hm
            rw [← e]
            exact h.new j p n.slot f hj hdone hd hf
    | none =>
      rw [hsrc] at hs ho
      refine h.old _ _ (ho σ) fun j p hj hdone hd => ?_
      have := List.all_eq_true.1 hs p (List.mem_of_getElem? hj)
      simp only [hd, Nat.beq_refl, Bool.not_true, Bool.false_or] at this
      unfold waits at this
      obtain ⟨e, he0, hb⟩ := List.any_eq_true.1 this
      have he : e ∈ p.after := by simpa using he0
      simp only [Bool.and_eq_true] at hb
      have h3 := h.down j p hj hdone e he hb.2
      rw [Nat.eq_of_beq_eq_true hb.1] at h3
      rw [h3] at hun'
      cases hun'
  clear h1 h2
  intro k t hk
  unfold needE at hk
  induction needs with
  | nil => simp [needCtx, look] at hk
  | cons n needs ih =>
    simp only [List.map_cons] at hk
    unfold needCtx look at hk
    by_cases hb : Nat.beq n.slot k = true
    · have hb' : Nat.beq (n.at σ).slot k = true := hb
      rw [hb'] at hk
      have := Nat.eq_of_beq_eq_true hb
      subst this
      have h9 : some (n.at σ).ty = some t := by simpa using hk
      have e : n.ty σ = t := Option.some.inj h9
      rw [← e]
      exact key n (List.mem_cons_self ..)
    · rw [Bool.not_eq_true] at hb
      have hb' : Nat.beq (n.at σ).slot k = false := hb
      rw [hb'] at hk
      exact ih (fun m hm => key m (List.mem_cons_of_mem _ hm)) hk
/-- One step: what is there behind it. -/
theorem DJE.step {done : Array Bool} {a : Act} {w w' : World} {S S' : SH} {σ : Nat → OI} {c c' : Nat} (h : DJE E G L ts Om es done a w S σ c) {i d : Nat} {o : Oper} {f : OI → Ty} {v : Value} {x : OI} {C : Nat → Prop} (hi : L[i]? = some o)
    (hd : o.dst = some d) (hdN : d < E.N.n) (hs2 : ∀ j p, L[j]? = some p → done.getD j false = true → p.dst = some d → i = j)
    (hwait : ∀ e ∈ o.after, Region.binds .any e = true → done.getD e.on false = true) (ht : ts[i]? = some f) (hun : done.getD i true = false)
    (hext : Ext C w S w' S') (hC : ∀ b, C b → E.base ≤ b ∨ E.B b) (hsat : Sat w' S') (hown : Own E.base E.B w' S' (Om c' (upd σ i x))) (hv : (f x).p S' v) (hch : ∀ k, es[k]? = some true → ((done.setIfInBounds i true).getD k false = true ↔ ahead es k < c')) :
    DJE E G L ts Om es (done.setIfInBounds i true) (a.put o.dst v) w' S' (upd σ i x) c' := by
  have hda : d < a.tmps.size := by rw [h.size]; exact hdN
  have hlt : i < done.size := by rw [h.dsz]; exact (List.getElem?_eq_some_iff.1 hi).1
  have hset : ∀ j, (done.setIfInBounds i true).getD j false = true → j = i ∨ done.getD j false = true := fun j hj => by
    by_cases hij : i = j
    · exact .inl hij.symm
    · rw [getD_set_ne false hij] at hj; exact .inr hj
  have hseti : (done.setIfInBounds i true).getD i false = true := by simp [hlt]
  have hun' : done.getD i false = false := by simp [hlt] at hun ⊢; exact hun
  refine ⟨h.ext.step hext hC, hsat, hown, ?_, ?_, by simp [h.dsz], fun j p hj hdone e he hb => ?_, fun k u hk hno => ?_, fun j p d' u hj hdone hd' hu => ?_, hch⟩
  · rw [hd]; simp [Act.put, h.size]
  · rw [hd]; exact h.defers
  · rcases hset j hdone with rfl | hj'
    · rw [hi] at hj
      have : o = p := by simpa using hj
      subst this
      exact getD_set_true (hwait e he hb)
    · exact getD_set_true (h.down j p hj hj' e he hb)
  · have hne : d ≠ k := fun e => hno i o hi hseti (by rw [hd, e])
    rw [hd, put_get hda, if_neg hne]
    exact u.mono hext.keep (h.old k u hk fun j p hj hdone => hno j p hj (getD_set_true hdone))
  · rw [hd, put_get hda]
    by_cases hij : j = i
    · subst hij
      rw [hi] at hj
      have : o = p := by simpa using hj
      subst this
      rw [hd] at hd'
      have : d = d' := by simpa using hd'
      subst this
      rw [if_pos rfl]
      rw [ht] at hu
      have : f = u := by simpa using hu
      subst this
      rw [upd_same]
      exact hv
    · have hj' := (hset j hdone).resolve_left hij
      have hne : d ≠ d' := fun e => by
        subst e
        have := hs2 j p hj hj' hd'
        exact hij this.symm
      rw [if_neg hne, upd_ne σ x hij]
      exact Ty.mono _ hext.keep (h.new j p d' u hj hj' hd' hu)
end
theorem wpAny_drawE {E : En} {G : Ctx} {l t : List Oper} {ts : List (OI → Ty)} {Om : Nat → (Nat → OI) → List OE} {es : List Bool} {Q : Exit → Act → World → Prop} (hsl : slotsB E.N.n [] l = true) (hlen : ts.length = l.length) (hesl : es.length = l.length)
    (hd : DE E G (l ++ t) ts Om 0 0 l es) (hch : chainB (l ++ t) es = true) (ht : tailB (l ++ t) l.length t.length = true) (hdep : ∀ c σ k x, c ≤ ahead es k → Om c (upd σ k x) = Om c σ)
    (hq : ∀ c σ k x, es[k]? = some false → Om c (upd σ k x) = Om c σ)
    (hQ : ∀ a w S σ, St E (Om (ahead es es.length) σ) (outG l (tsAt 0 ts σ) G) a w S → wpListIn (fw E.r) 0 E.P (l ++ t).toArray Q t a w) :
    ∀ (fuel : Nat) (done : Array Bool) (a : Act) (w : World) (S : SH) (σ : Nat → OI) (c : Nat), undone done = fuel → (∀ j, l.length ≤ j → done.getD j false = false) → c ≤ ahead es es.length → DJE E G (l ++ t) ts Om es done a w S σ c → wpAnyIn (fw E.r) 0 E.P .any (l ++ t).toArray Q fuel done a w := by
  have hL1 : ∀ i o, i < l.length → (l ++ t)[i]? = some o → l[i]? = some o := fun i o hi h => by rwa [List.getElem?_append_left hi] at h
  have hL2 : ∀ i o, l[i]? = some o → (l ++ t)[i]? = some o := fun i o h => by rw [List.getElem?_append_left (List.getElem?_eq_some_iff.1 h).1]; exact h
  have htail : ∀ m o, l.length ≤ m → (l ++ t)[m]? = some o → coverB (l ++ t) m = true ∧ edgesB m o = true := fun m o hm ho => by
    have hml : m < (l ++ t).length := (List.getElem?_eq_some_iff.1 ho).1
    rw [List.length_append] at hml
    unfold tailB at ht
    have := List.all_eq_true.1 ht (m - l.length) (by simp; omega)
    rw [show l.length + (m - l.length) = m from by omega, ho] at this
    simp only [Bool.and_eq_true] at this
    exact ⟨this.1, this.2.1⟩
  have hget := fun i o (hi : l[i]? = some o) => DE.get l es 0 0 hd i o hi
  have hedge : ∀ i o, (l ++ t)[i]? = some o → edgesB i o = true := fun i o hi => by
    rcases Nat.lt_or_ge i l.length with h | h
    · obtain ⟨_, _, _, _, _, _, _, h, _⟩ := hget i o (hL1 i o h hi)
      simpa using h
    · exact (htail i o h hi).2
  obtain ⟨hs1, hs2⟩ := slotsB_spec l [] hsl
  have fin : ∀ fuel done a w S σ c, undone done = fuel → (∀ j, l.length ≤ j → done.getD j false = false) → c ≤ ahead es es.length → DJE E G (l ++ t) ts Om es done a w S σ c → (∀ i, i < l.length → done.getD i false = true) → wpAnyIn (fw E.r) 0 E.P .any (l ++ t).toArray Q fuel done a w := by
    intro fuel done a w S σ c hu hfree hcle h hall
    have hcc : c = ahead es es.length := by
      rcases Nat.lt_or_ge c (ahead es es.length) with hlt | hge
      · obtain ⟨i, h1, h2, h3⟩ := ahead_find hlt
        have := (h.chain i h2).1 (hall i (by omega))
        omega
      · omega
    subst hcc
    refine wpAny_tail (n := l.length) (fun m o hm ho => (htail m o hm ho).1) hedge t l.length done fuel a w (Nat.le_refl _) (by simp) h.dsz (fun j hj => ⟨fun hjd => ?_, fun hlt => hall j hlt⟩) hu
      (hQ a w S σ ⟨h.ext, h.sat, h.own, h.size, h.defers, fun j u hj => ?_⟩)
    · rcases Nat.lt_or_ge j l.length with h' | h'
      · exact h'
      · rw [hfree j h'] at hjd; cases hjd
    · rcases look_outG l (tsAt 0 ts σ) j u (fun o ho e => by obtain ⟨d, hd, _⟩ := hs1 o ho; rw [hd] at e; cases e) (by rw [tsAt_len]; exact hlen) hj with ⟨i, o, h1, h2, h3⟩ | ⟨h1, h2⟩
      · rw [tsAt_get] at h3
        cases hf : ts[i]? with
        | none => rw [hf] at h3; simp at h3
        | some f =>
          rw [hf] at h3
          have e : f (σ i) = u := by simpa using h3
          rw [← e]
          exact h.new i o j f (hL2 i o h1) (hall i (List.getElem?_eq_some_iff.1 h1).1) h2 hf
      · refine h.old j u h1 fun i o ho hdn => ?_
        rcases Nat.lt_or_ge i l.length with h' | h'
        · exact h2 o (List.mem_of_getElem? (hL1 i o h' ho))
        · rw [hfree i h'] at hdn; cases hdn
  have lower : ∀ done a w S σ c i, (∀ j, l.length ≤ j → done.getD j false = false) → DJE E G (l ++ t) ts Om es done a w S σ c → i ∈ Region.ready .any (l ++ t).toArray done → l.length ≤ i → ∀ j, j < l.length → done.getD j false = true := by
    intro done a w S σ c i hfree h hi hge j hj
    obtain ⟨hun, p, hp, hwait⟩ := mem_ready.1 hi
    have hp' : (l ++ t)[i]? = some p := by simpa using hp
    have hcov := (htail i p hge hp').1
    unfold coverB at hcov
    have hre := List.all_eq_true.1 hcov j (by simp; omega)
    exact reaches_done h.down _ i j (fun q hq e he hb => by
      have : q = p := by rw [hp'] at hq; simpa using hq.symm
      subst this
      exact hwait e he hb) hre
  have hchain : ∀ i j, j < i → es[i]? = some true → es[j]? = some true → reaches (l ++ t) (l ++ t).length i j = true := fun i j hij h1 h2 => by
    unfold chainB at hch
    have hil : i < es.length := (List.getElem?_eq_some_iff.1 h1).1
    have := List.all_eq_true.1 (List.all_eq_true.1 hch i (by simpa using hil)) j (by simpa using hij)
    rw [h1, h2] at this
    simpa using this
  intro fuel
  induction fuel with
  | zero =>
    intro done a w S σ c hu hfree hcle h
    exact fin 0 done a w S σ c hu hfree hcle h fun i hi => undone_zero hu (by rw [h.dsz, List.length_append]; omega)
  | succ fuel ih =>
    intro done a w S σ c hu hfree hcle h
    by_cases hall : ∀ i, i < l.length → done.getD i false = true
    · exact fin _ done a w S σ c hu hfree hcle h hall
    have hready0 : ∀ m i, i < m → i < l.length → Region.ready .any (l ++ t).toArray done = [] → done.getD i false = true := by
      intro m
      induction m with
      | zero => intro i h; omega
      | succ m ihm =>
        intro i him hil hr
        have his : i < done.size := by rw [h.dsz, List.length_append]; omega
        by_cases hdn : done.getD i true = true
        · rw [← getD_flip his]; exact hdn
        · exfalso
          obtain ⟨o, ho⟩ : ∃ o, (l ++ t)[i]? = some o := ⟨l[i], hL2 i _ (List.getElem?_eq_getElem hil)⟩
          have hmem : i ∈ Region.ready .any (l ++ t).toArray done := by
            rw [mem_ready]
            refine ⟨by simpa using hdn, o, by simpa using ho, fun e he hb => ?_⟩
            have := hedge i o ho
            unfold edgesB at this
            have := List.all_eq_true.1 this e (by simpa using he)
            simp only [hb, Bool.not_true, Bool.false_or, Nat.blt_eq] at this
            exact ihm e.on (by omega) (by omega) hr
          rw [hr] at hmem; cases hmem
    refine ⟨fun hr => absurd (fun i hi => hready0 (i + 1) i (by omega) hi hr) hall, fun i hi => ?_⟩
    have hil : i < l.length := by
      rcases Nat.lt_or_ge i l.length with h' | h'
      · exact h'
      · exact absurd (lower done a w S σ c i hfree h hi h') hall
    obtain ⟨hun, o, ho, hwait⟩ := mem_ready.1 hi
    have ho' : (l ++ t)[i]? = some o := by simpa using ho
    have hol := hL1 i o hil ho'
    obtain ⟨e, he, needs, u, h1, h2, h3, _, h5⟩ := hget i o hol
    rw [Nat.zero_add] at h1 h3
    have hF := h.need ho' hun hwait h2 h3
    have his : i < done.size := by rw [h.dsz, List.length_append]; omega
    have hun' : done.getD i false = false := by rw [← getD_flip his]; exact hun
    have hu' : undone (done.setIfInBounds i true) = fuel := by have := undone_set hun; omega
    obtain ⟨d, hdd, hdN, _⟩ := hs1 o (List.mem_of_getElem? hol)
    have huq : ∀ j p, (l ++ t)[j]? = some p → done.getD j false = true → p.dst = some d → i = j := fun j p hj hjd hpd => by
      rcases Nat.lt_or_ge j l.length with h' | h'
      · exact hs2 i j o p hol (hL1 j p h' hj) (by rw [hdd, hpd])
      · rw [hfree j h'] at hjd; cases hjd
    have hfree' : ∀ j, l.length ≤ j → (done.setIfInBounds i true).getD j false = false := fun j hj => by
      rw [getD_set_ne false (by omega)]; exact hfree j hj
    have hbl : E.base ≤ w.heap.size := h.ext.size
    unfold wpOpIn
    rw [ho]
    show if _ then _ else _
    cases e with
    | false =>
      simp only at h5
      obtain ⟨t', ht', h5⟩ := h5
      have h6 := h5 (Om c σ) σ a w S h.sat h.own hF
      have hch' : ∀ k, es[k]? = some true → ((done.setIfInBounds i true).getD k false = true ↔ ahead es k < c) := fun k hk => by
        have hne : i ≠ k := fun e => by subst e; rw [he] at hk; cases hk
        rw [getD_set_ne false hne]; exact h.chain k hk
      have hown : ∀ w' S', Ext noB w S w' S' → Own E.base E.B w' S' (Om c (upd σ i (none, 0))) := fun w' S' hx => by rw [hq c σ i _ he]; exact h.own.ext0 hx
      by_cases hw : Region.wanted o (yielded (l ++ t).toArray a.tmps) = true
      · rw [if_pos hw] at h6 ⊢
        refine wpIn_of_opWp (fun a' w' ⟨v, S', ha, hx, hs, hv⟩ => ?_) h6
        subst ha
        exact ih _ _ _ S' _ c hu' hfree' hcle (h.step ho' hdd hdN huq hwait h1 hun hx (fun _ hb => hb.elim) hs (hown w' S' hx) (x := (none, 0)) (by rw [ht']; exact hv) hch')
      · rw [if_neg hw] at h6 ⊢
        exact ⟨fun _ _ => trivial, ih _ _ _ S _ c hu' hfree' hcle (h.step ho' hdd hdN huq hwait h1 hun (Ext.refl noB _ _) (fun _ hb => hb.elim) h.sat (hown w S (Ext.refl _ _ _)) (x := (none, 0)) (by rw [ht']; exact h6) hch')⟩
    | true =>
      simp only [Nat.zero_add] at h5
      -- it is the next one of the chain
      have hca : ahead es i = c := by
        have hn : ¬ ahead es i < c := fun hlt => by rw [(h.chain i he).2 hlt] at hun'; cases hun'
        rcases Nat.lt_or_ge c (ahead es i) with hlt | hge
        · exfalso
          obtain ⟨k, hk1, hk2, hk3⟩ := ahead_find hlt
          have hkd : done.getD k false = true := reaches_done h.down _ i k (fun q hq e he hb => by
            have : q = o := by rw [ho'] at hq; simpa using hq.symm
            subst this
            exact hwait e he hb) (hchain i k hk1 he hk2)
          have := (h.chain k hk2).1 hkd
          omega
        · omega
      subst hca
      have h6 := h5 σ a w S h.sat h.own hF hbl
      have hch' : ∀ k, es[k]? = some true → ((done.setIfInBounds i true).getD k false = true ↔ ahead es k < ahead es i + 1) := fun k hk => by
        by_cases hik : i = k
        · subst hik
          constructor
          · intro _; omega
          · intro _; simp [his]
        · rw [getD_set_ne false hik, h.chain k hk]
          constructor
          · intro h; omega
          · intro hlt
            rcases Nat.lt_or_ge i k with hlk | hlk
            · have := ahead_lt hlk he; omega
            · exact ahead_lt (by omega) hk
      have hcle' : ahead es i + 1 ≤ ahead es es.length := ahead_lt (by omega) he
      by_cases hw : Region.wanted o (yielded (l ++ t).toArray a.tmps) = true
      · rw [if_pos hw] at h6 ⊢
        refine wpIn_of_opWp (fun a' w' ⟨v, S', x, ha, hx, hs, hown, hv⟩ => ?_) h6
        subst ha
        exact ih _ _ _ S' _ _ hu' hfree' hcle' (h.step ho' hdd hdN huq hwait h1 hun hx (fun b ⟨f, hf, hb⟩ => (Own.mem h.own f hf).2 b hb) hs hown (x := x) hv hch')
      · rw [if_neg hw] at h6 ⊢
        obtain ⟨x, hown, hv⟩ := h6
        exact ⟨fun _ _ => trivial, ih _ _ _ S _ _ hu' hfree' hcle' (h.step ho' hdd hdN huq hwait h1 hun (Ext.refl noB _ _) (fun _ hb => hb.elim) h.sat hown (x := x) hv hch')⟩
/-- A region whose order is open, with a chain of operations that turn what is the call's own. -/
theorem CG.drawE {E : En} {O : List OE} {G : Ctx} {Q : Exit → Act → World → Prop} {id : Nat} {L : List Oper} (m : Nat) (ts : List (OI → Ty)) (es : List Bool) (Om : Nat → (Nat → OI) → List OE) (hO : ∀ σ, O = Om 0 σ) (hm : E.P.follows .mixedOrders = true) (hsl : slotsB E.N.n [] (L.take m) = true) (hlen : ts.length = (L.take m).length) (hesl : es.length = (L.take m).length)
    (hch : chainB L es = true) (ht : tailB L (L.take m).length (L.drop m).length = true) (hdep : ∀ c σ k x, c ≤ ahead es k → Om c (upd σ k x) = Om c σ) (hq : ∀ c σ k x, es[k]? = some false → Om c (upd σ k x) = Om c σ)
    (hd : DE E G L ts Om 0 0 (L.take m) es) (k : ∀ σ : Nat → OI, RG E L.toArray Q (L.drop m) (Om (ahead es es.length) σ) (outG (L.take m) (tsAt 0 ts σ) G)) : CG E Q (.region id L.toArray true) O G := fun a w S st => by
  have hL : L = L.take m ++ L.drop m := (List.take_append_drop m L).symm
  generalize L.take m = l at hL hsl hlen hesl ht hd k
  generalize L.drop m = t at hL ht k
  subst hL
  refine wpIn_region_any hm ?_
  obtain ⟨he, hs⟩ := Ext.draw (w := w) st.sat
  refine wpAny_drawE hsl hlen hesl hd hch ht hdep hq (fun a w S σ st => k σ a w S st) _ _ _ _ S (fun _ => (none, 0)) 0 ?_ (fun j _ => ?_) (Nat.zero_le _)
    ⟨st.ext.step0 he, hs, by rw [← hO]; exact st.own.ext0 he, st.facts.size, st.facts.defers, by simp, fun j o hj hdone => ?_, fun k t hk _ => st.facts.at_ k t hk, fun j o d t hj hdone => ?_, fun k _ => ⟨fun hdone => ?_, fun h => (by omega)⟩⟩
  · unfold undone; rw [Array.toList_replicate, List.countP_replicate]; simp
  · simp [Array.getElem?_replicate]; split <;> rfl
  · simp [Array.getElem?_replicate] at hdone
    split at hdone <;> simp at hdone
  · simp [Array.getElem?_replicate] at hdone
    split at hdone <;> simp at hdone
  · simp [Array.getElem?_replicate] at hdone
    split at hdone <;> simp at hdone
/-- What is the call's own, by how many of the chain stand: each state hangs on the last one alone. -/
def OmL (O0 : List OE) (Fs : List (Nat × (OI → List OE))) : Nat → (Nat → OI) → List OE
  | 0, _ => O0
  | c + 1, σ => match Fs[c]? with
    | some p => p.2 (σ p.1)
    | none => O0
def fsB (es : List Bool) : Nat → List (Nat × (OI → List OE)) → Bool
  | _, [] => true
  | c, p :: Fs => Nat.beq (ahead es p.1) c && (match es[p.1]? with | some true => true | _ => false) && fsB es (c + 1) Fs
theorem fsB_get {es : List Bool} : ∀ {Fs : List (Nat × (OI → List OE))} {c j : Nat} {p : Nat × (OI → List OE)}, fsB es c Fs = true → Fs[j]? = some p → ahead es p.1 = c + j ∧ es[p.1]? = some true
  | [], _, _, _, _, h => by simp at h
  | q :: Fs, c, 0, p, hb, h => by
    simp at h; subst h
    unfold fsB at hb
    simp only [Bool.and_eq_true] at hb
    refine ⟨Nat.eq_of_beq_eq_true hb.1.1, ?_⟩
    have := hb.1.2
    split at this
    · assumption
    · cases this
  | q :: Fs, c, j + 1, p, hb, h => by
    unfold fsB at hb
    simp only [Bool.and_eq_true] at hb
    have := fsB_get (c := c + 1) (j := j) hb.2 (by simpa using h)
    exact ⟨by omega, this.2⟩
theorem CG.drawL {E : En} {O : List OE} {G : Ctx} {Q : Exit → Act → World → Prop} {id : Nat} {L : List Oper} (m : Nat) (ts : List (OI → Ty)) (es : List Bool) (Fs : List (Nat × (OI → List OE))) (hm : E.P.follows .mixedOrders = true) (hsl : slotsB E.N.n [] (L.take m) = true) (hlen : ts.length = (L.take m).length) (hesl : es.length = (L.take m).length)
    (hch : chainB L es = true) (ht : tailB L (L.take m).length (L.drop m).length = true) (hfs : fsB es 0 Fs = true)
    (hd : DE E G L ts (OmL O Fs) 0 0 (L.take m) es) (k : ∀ σ : Nat → OI, RG E L.toArray Q (L.drop m) (OmL O Fs (ahead es es.length) σ) (outG (L.take m) (tsAt 0 ts σ) G)) : CG E Q (.region id L.toArray true) O G := by
  refine CG.drawE m ts es (OmL O Fs) (fun _ => rfl) hm hsl hlen hesl hch ht (fun c σ k x hc => ?_) (fun c σ k x hk => ?_) hd k
  · cases c with
    | zero => rfl
    | succ c =>
      cases hp : Fs[c]? with
      | none => simp only [OmL, hp]
      | some p =>
        have := (fsB_get hfs hp).1
        simp only [OmL, hp]
        rw [upd_ne σ x (fun e => by subst e; omega)]
  · cases c with
    | zero => rfl
    | succ c =>
      cases hp : Fs[c]? with
      | none => simp only [OmL, hp]
      | some p =>
        have := (fsB_get hfs hp).2
        simp only [OmL, hp]
        rw [upd_ne σ x (fun e => by subst e; rw [hk] at this; cases this)]
theorem gt_eq {b : Bool} : (true && (b == true)) = b := by cases b <;> rfl
theorem gf_eq {b : Bool} : (true && (b == false)) = !b := by cases b <;> rfl
theorem got_eq {c b : Bool} : (c && (b == true)) = (c && b) := by cases b <;> rfl
theorem gof_eq {c b : Bool} : (c && (b == false)) = (c && !b) := by cases b <;> rfl
end Go.Proofs.Ytchjhcgkfglgiaa
