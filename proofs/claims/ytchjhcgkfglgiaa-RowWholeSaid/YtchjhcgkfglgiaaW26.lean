/- A small logic over the walk's rules: closures over variables that are written. It states nothing of any program. -/
import Derived.Test.YtchjhcgkfglgiaaW25
namespace Go.Proofs.Ytchjhcgkfglgiaa
open Go

/-- A closure: which function, over which values. -/
def tC (n : FuncId) (cts : List Ty) : Ty where
  p := fun S v => ∃ cap : List Value, v = .func (.func n) #[] cap.toArray ∧ Tys S cts cap
  mono := fun h ⟨cap, e, k⟩ => ⟨cap, e, Tys.mono h k⟩
section
variable {E : En} {O : List OE} {G : Ctx} {Q : Exit → Act → World → Prop} {ops : Array Oper} {rest : List Oper}
section
variable {dst : Option Tmp} {ty : TypeId} {pos : String} {after : Array Edge} {g : Option (Nat × Bool)}
theorem ok_makeC {fid : FuncId} {caps : List Operand} {cts : List Ty} (hcap : HasTys E.N G caps cts) : OpOK E O G ⟨dst, .makeFunc (.func fid) #[] caps.toArray, ty, pos, after, g⟩ (tC fid cts) :=
  .of_pure fun a w S _ _ hf => ⟨.func (.func fid) #[] (caps.map a.eval).toArray, by simp [execOp, Instr.makeFunc], _, rfl, hcap.tys hf⟩
/-- A list variable whose list is settled is read. -/
theorem ok_loadAT {α : Type} {r : Rp α} {U T V : TypeId} {b bytes : Nat} {z : List Value} {p : Operand} {l : Option Nat} {cap : Nat} {xs : List α} (ti : TI E.P U 1 bytes false z) (hm : bx rV T b (oslV l cap xs.length) ∈ O) (hm2 : tip r V l cap xs ∈ O) (hp : HasTy E.N G p (tV (bptr b 0))) :
    OpOK E O G ⟨dst, .load U p, ty, pos, after, g⟩ (tO r l cap xs) := fun a w S hs ho hf =>
  opWp_mono (fun _ _ ⟨v, S', h1, h2, h3, h4⟩ => ⟨v, S', h1, h2, h3, h4, by
    have h5 : v = oslV l cap xs.length := h4
    rw [h5]
    exact tip_data (((ho.ext0 h2).mem _ hm2).1)⟩) (ok_loadA (g := g) (ty := ty) (pos := pos) (after := after) (dst := dst) ti hm hp a w S hs ho hf)
end
theorem eff_callC {n : FuncId} {cts ts : List Ty} {d : Nat} {ty : TypeId} {pos : String} {after : Array Edge} {g : Option (Nat × Bool)} {fo : Operand} {xs : List Operand} {ats : Array TypeId} (O1 Or : List OE) {t : OI → Ty} {O2 post : OI → List OE} (hO : O = O1 ++ Or) (hc : callableB E.P n = true) (hs : SpecM E.P n (ts ++ cts) O1 t O2) (hf : HasTy E.N G fo (tC n cts)) (hx : HasTys E.N G xs ts) (hpost : ∀ i, O2 i ++ Or = post i) :
    EffOK E O G ⟨some d, .call ⟨.value fo, xs.toArray, ats⟩, ty, pos, after, g⟩ post t := fun a w S hsat ho hF hb => by
  subst hO
  obtain rfl : (fun i => O2 i ++ Or) = post := funext hpost
  obtain ⟨cap, e, hcap⟩ := hf S a hF
  have hr : (execOp a.eval ⟨some d, .call ⟨.value fo, xs.toArray, ats⟩, ty, pos, after, g⟩).run E.P w = .ok (.enter n ((xs.map a.eval).toArray ++ cap.toArray)) w := by
    simp [execOp, resolve, e, Deferred.ofValue, invoke, run_callFunc hc]
  refine ⟨fun c h => (by cases h), ?_⟩
  rw [hr]
  have e2 : (xs.map a.eval).toArray ++ cap.toArray = ((xs.map a.eval) ++ cap).toArray := by simp
  rw [e2]
  exact (hs w S _ hsat ((hx.tys hF).append hcap) (Own.split ho).1.weak).mono fun en w' ⟨i, v, S', he, hv, h1, h2, h3, h4⟩ => ⟨_, he, v, S', i, rfl, h1.more fun b ⟨f, hf, hb⟩ => ⟨f, List.mem_append_left _ hf, hb⟩, h2, Own.turn ho hb h1 h3 h4, hv⟩
end

/-! ### A part of a list of one's own, that is written while it is read -/
def idxV {α : Type} (xs : List α) (lo : Int) (n : Nat) (i : Int) : Option α := if 0 ≤ i ∧ i < (n : Int) then idx xs (lo + i) else none
theorem idxV_some {α : Type} {xs : List α} {lo i : Int} {n : Nat} {y : α} (h : idxV xs lo n i = some y) : 0 ≤ i ∧ i < (n : Int) ∧ idx xs (lo + i) = some y := by
  unfold idxV at h
  split at h
  · rename_i hc; exact ⟨hc.1, hc.2, h⟩
  · cases h
theorem sliceF_lo {α : Type} {xs ys : List α} {lo hi : Int} (h : sliceF xs lo hi = some ys) : 0 ≤ lo := by
  obtain ⟨l, m, rfl, _, _, _, _⟩ := sliceF_some h
  omega
section
variable {E : En} {O : List OE} {G : Ctx} {Q : Exit → Act → World → Prop} {ops : Array Oper} {rest : List Oper}
theorem RG.have_view {α : Type} {mm : Bool} {r : Rp α} {T : TypeId} {l : Option Nat} {cap : Nat} {xs ys : List α} {lo hi : Int} (hm : arrM mm r T l cap xs ∈ O) (hs : sliceF xs lo hi = some ys) (h : (l = none → ys.length = 0) ∧ ys.length ≤ maxLen → RG E ops Q rest O G) : RG E ops Q rest O G := fun a w S st => by
  refine h ?_ a w S st
  obtain ⟨cells, h1, _⟩ := (st.own.mem _ hm).1
  obtain ⟨l', m, _, _, _, h8, rfl⟩ := sliceF_some hs
  have hlen : ((xs.take m).drop l').length ≤ xs.length := by simp; omega
  cases l with
  | none => have := h1.1; exact ⟨fun _ => by omega, by omega⟩
  | some b => obtain ⟨cur, _, g2, g3, _⟩ := h1; exact ⟨fun h => (by cases h), by omega⟩
section
variable {dst : Option Tmp} {ty : TypeId} {pos : String} {after : Array Edge} {g : Option (Nat × Bool)}
theorem ok_lenW {l : Option Nat} {cap sz lo n : Nat} {x : Operand} {t e : TypeId} (ht : E.P.underlying t = some (.slice e)) (hv : l = none → n = 0) (hx : HasTy E.N G x (tV (vslV sz l cap lo n))) :
    OpOK E O G ⟨dst, .call ⟨.builtin .len, #[x], #[t]⟩, ty, pos, after, g⟩ (tD (rI .i64) (n : Int)) :=
  .of_pure fun a w S _ ho hf => by
    have h1 : a.eval x = vslV sz l cap lo n := hx S a hf
    obtain ⟨ad, c, h3⟩ : ∃ ad c, vslV sz l cap lo n = .slice ad n c := by
      cases l with
      | none => rw [hv rfl]; exact ⟨none, 0, rfl⟩
      | some b => exact ⟨_, _, rfl⟩
    refine ⟨.int .i64 n, ?_, tI_iff.2 rfl⟩
    simp [execOp, resolve, invoke, builtin, Builtin.len_, run_underlying ht, h1, h3, goInt]
theorem ok_indexAddrW {α : Type} {mm : Bool} {r : Rp α} {U : TypeId} {l : Option Nat} {cap n : Nat} {xs : List α} {x ix : Operand} {y : α} {t e : TypeId} {k : IntKind} {lo i : Int} {sz bytes : Nat} {agg : Bool} {z : List Value} (ht : E.P.underlying t = some (.slice e)) (ti : TI E.P e sz bytes agg z) (hsz : r.sz = sz)
    (hm : arrM mm r U l cap xs ∈ O) (hl0 : 0 ≤ lo) (hx : HasTy E.N G x (tV (vslV sz l cap lo.toNat n))) (hi' : HasTy E.N G ix (tD (rI k) i)) (hy : idxV xs lo n i = some y) :
    OpOK E O G ⟨dst, .indexAddr t x ix, ty, pos, after, g⟩ (tV (eptr l ((lo + i).toNat * sz + 0))) :=
  .of_pure fun a w S _ ho hf => by
    subst hsz
    have h1 : a.eval x = vslV r.sz l cap lo.toNat n := hx S a hf
    have h3 : a.eval ix = .int k i := tI_iff.1 (hi' S a hf)
    obtain ⟨hi0, hin, hxi⟩ := idxV_some hy
    obtain ⟨_, hx'⟩ := idx_some hxi
    obtain ⟨b, cur, rfl, _, hle, _⟩ := raw_part (ho.mem _ hm).1 hx'
    have hlt2 : (lo + i).toNat < xs.length := (List.getElem?_eq_some_iff.1 hx').1
    have hne : ¬ (cap = lo.toNat) := by omega
    refine ⟨_, ?_, rfl⟩
    have hc : 0 ≤ i ∧ i < (n : Int) := ⟨hi0, hin⟩
    have e1 : (lo + i).toNat = lo.toNat + i.toNat := by omega
    simp [execOp, h1, h3, vslV, hne, Instr.indexAt, asIntOf, run_underlying ht, hc, ti.sizeOf, addr_add, eptr, bptr, e1, Nat.add_mul]
end
end

/-! ### Guarded operations that turn what is the call's own, in a row -/
section
variable {E : En} {O : List OE} {G : Ctx} {Q : Exit → Act → World → Prop} {rest : List Oper} {d : Nat} {ty : TypeId} {pos : String} {after : Array Edge} {l : List Oper}
theorem RG.effG {op : Op} {g : Option (Nat × Bool)} {post : OI → List OE} {t : OI → Ty} (h : EffG E l.toArray O G ⟨some d, op, ty, pos, after, g⟩ post t) (hd : Nat.blt d E.N.n = true) (k : ∀ l' c', RG E l.toArray Q rest (post (l', c')) ((d, t (l', c')) :: G)) :
    RG E l.toArray Q (⟨some d, op, ty, pos, after, g⟩ :: rest) O G := fun a w S st => by
  have h6 := h a w S st.sat st.own st.facts st.base_le
  refine wpListIn_step fun K hK => ?_
  by_cases hc : Region.wanted ⟨some d, op, ty, pos, after, g⟩ (yielded l.toArray a.tmps) = true
  · rw [if_pos hc] at h6 ⊢
    refine wpIn_of_opWp (fun a' w' ⟨v, S', x, ha, hx, hs, ho, hv⟩ => ?_) h6
    subst ha
    exact hK _ _ (k x.1 x.2 _ _ S' ⟨st.ext.step hx fun b ⟨f, hf, hb⟩ => (Own.mem st.own f hf).2 b hb, hs, ho, (st.facts.mono hx.keep).put hd hv⟩)
  · rw [if_neg hc] at h6 ⊢
    obtain ⟨x, ho, hv⟩ := h6
    exact ⟨fun _ _ => trivial, hK _ _ (k x.1 x.2 _ _ S ⟨st.ext, st.sat, ho, st.facts.put hd hv⟩)⟩
end
end Go.Proofs.Ytchjhcgkfglgiaa
