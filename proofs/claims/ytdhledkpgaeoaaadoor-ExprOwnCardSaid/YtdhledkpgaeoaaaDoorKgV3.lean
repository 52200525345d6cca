/- Facts of this claim: W34, W35, W36, W37, W38, W39, W40, W41, W42, W43, W44, W15, W29, W21, W27, W45, W48. -/
import Derived.Test.YtdhledkpgaeoaaaDoorKgV2
import Derived.Lib.Bytealg
import Derived.Test.YtdhledkpgaeoaaaDoorKgV1
import Derived.Shelf.SlSortCmp.NoneTotal
import Derived.Shelf.Slices.In.SortNone
import Derived.ProofKit
import Derived.OpenShut
import Derived.LaidMore
import Derived.Maps.Range
import Derived.Laws.IdiomRangeMap
namespace Go.Proofs.YtdhledkpgaeoaaaDoor
open Go

abbrev HL := List (Nat × Value)
def hlook : HL → Nat → Option Value
  | [], _ => none
  | p :: hs, o => bif Nat.beq p.1 o then some p.2 else hlook hs o
theorem hlook_mem : ∀ {hs : HL} {o : Nat} {v : Value}, hlook hs o = some v → (o, v) ∈ hs
  | [], _, _, h => by cases h
  | p :: hs, o, v, h => by
    unfold hlook at h
    by_cases hb : Nat.beq p.1 o = true
    · rw [hb] at h
      have e1 := Nat.eq_of_beq_eq_true hb
      have e2 : p.2 = v := Option.some.inj h
      subst e1 e2
      exact List.mem_cons_self ..
    · rw [Bool.not_eq_true] at hb
      rw [hb] at h
      exact List.mem_cons_of_mem _ (hlook_mem h)
def HZ (z : List Value) : HL → Prop
  | [] => True
  | p :: hs => z[p.1]? = some p.2 ∧ HZ z hs
theorem HZ.all {z : List Value} : ∀ {hs : HL}, HZ z hs → ∀ p ∈ hs, z[p.1]? = some p.2
  | _ :: _, ⟨h, _⟩, _, .head _ => h
  | _ :: _, ⟨_, h⟩, _, .tail _ hm => HZ.all h _ hm
def HOK (hs : HL) (off sz : Nat) (v : Option Value) : HL → Prop
  | [] => True
  | p :: l => ((v = some p.2 ∧ p.1 = off ∧ sz = 1) ∨ (hlook hs p.1 = some p.2 ∧ (Nat.blt p.1 off || Nat.ble (off + sz) p.1) = true)) ∧ HOK hs off sz v l
theorem HOK.all {hs : HL} {off sz : Nat} {v : Option Value} : ∀ {l : HL}, HOK hs off sz v l → ∀ p ∈ l, (v = some p.2 ∧ p.1 = off ∧ sz = 1) ∨ (hlook hs p.1 = some p.2 ∧ (Nat.blt p.1 off || Nat.ble (off + sz) p.1) = true)
  | _ :: _, ⟨h, _⟩, _, .head _ => h
  | _ :: _, ⟨_, h⟩, _, .tail _ hm => HOK.all h _ hm
section
variable {E : En} {O : List OE} {G : Ctx} {Q : Exit → Act → World → Prop} {ops : Array Oper} {rest : List Oper} {c : Code} {e : Exit}
section
variable {ty : TypeId} {pos : String} {after : Array Edge} {g : Option (Nat × Bool)}
theorem RG.eff0 {op : Op} {post : OI → List OE} {t : OI → Ty} (h : EffOK E O G ⟨none, op, ty, pos, after, none⟩ post t) (k : ∀ x, RG E ops Q rest (post x) G) : RG E ops Q (⟨none, op, ty, pos, after, none⟩ :: rest) O G := .of rfl fun a w S st =>
  opWp_mono (fun a' w' ⟨v, S', x, ha, hx, hs, ho, hv⟩ => by
    subst ha
    exact k x _ _ S' ⟨st.ext.step hx fun b ⟨f, hf, hb⟩ => (Own.mem st.own f hf).2 b hb, hs, ho, st.facts.mono hx.keep⟩) (h a w S st.sat st.own st.facts st.base_le)
theorem eff_storeX {α β γ : Type} {r : Rp α} {r' : Rp γ} {q : Rp β} {x : α} {x' : γ} {y : β} {T U : TypeId} {b off sz bytes : Nat} {agg : Bool} {z : List Value} {p v : Operand} (ti : TI E.P U sz bytes agg z) (hsz : q.sz = sz) (hset : SFldX r r' off q x y x') (hoff : Nat.ble (off + q.sz) r.sz = true)
    (hp : HasTy E.N G p (tV (bptr b off))) (hv : HasTy E.N G v (tD q y)) : EffOK E (bx r T b x :: O) G ⟨none, .store U p v, ty, pos, after, g⟩ (fun _ => bx r' T b x' :: O) (fun _ => tAny) := eff_none (fun _ h => (by cases h)) fun a w S hs ho hf hb => by
  have h1 : a.eval p = bptr b off := hp S a hf
  obtain ⟨ds, h2, h3⟩ := hv S a hf
  obtain ⟨⟨hno, cur, h5, h6⟩, _⟩ := ho.1
  have hl := r.len h6
  have hoff' := Nat.le_of_ble_eq_true hoff
  obtain ⟨w', hr, e1, e2, e3, e4, e5, e6⟩ := run_storeVar_at ti hsz h3 h5 (off := off) (by simp at hl; omega)
  have hrun : (execOp a.eval ⟨none, .store U p v, ty, pos, after, g⟩).run E.P w = .ok .skip w' := by
    simp [execOp, h1, h2, Instr.storeAt, bptr, Instr.sureAddr, hr]
  obtain ⟨g1, g2, g3⟩ := own_write (O := O) hs (bx r T b x) (bx r' T b x') ho (fun _ => Iff.rfl) (fun _ => Iff.rfl) ⟨e1, e2, e3, e4.1, e4.2⟩ e6 ⟨hno, _, e5, by simpa using hset S _ _ h6 h3⟩ hno
  exact ⟨w', S, zoi, hrun, g1.more fun k hk => ⟨_, List.mem_cons_self .., hk⟩, g2, g3⟩
end
section
variable {dst : Option Tmp} {ty : TypeId} {pos : String} {after : Array Edge} {g : Option (Nat × Bool)}
end
def subH : HL → HL → Prop
  | [], _ => True
  | p :: l, hs => hlook hs p.1 = some p.2 ∧ subH l hs
theorem subH.all {hs : HL} : ∀ {l : HL}, subH l hs → ∀ p ∈ l, p ∈ hs
  | _ :: _, ⟨h, _⟩, _, .head _ => hlook_mem h
  | _ :: _, ⟨_, h⟩, _, .tail _ hm => subH.all h _ hm
end
end Go.Proofs.YtdhledkpgaeoaaaDoor

namespace Go.Proofs.YtdhledkpgaeoaaaDoor
open Go

theorem EffOK.perm {E : En} {O O' : List OE} {G : Ctx} {o : Oper} {post : OI → List OE} {t : OI → Ty} (h : EffOK E O' G o post t) (k : ∀ {w S}, Own E.base E.B w S O → Own E.base E.B w S O') (m : ∀ f ∈ O', f ∈ O) : EffOK E O G o post t := fun a w S hs ho hf hb =>
  opWp_mono (fun _ _ ⟨v, S', x, h1, h2, h3, h4, h5⟩ => ⟨v, S', x, h1, h2.more fun _ ⟨f, hf, hk⟩ => ⟨f, m f hf, hk⟩, h3, h4, h5⟩) (h a w S hs (k ho) hf hb)
namespace EffOK
section
variable {E : En} {O : List OE} {G : Ctx} {o : Oper} {post : OI → List OE} {t : OI → Ty}
theorem fr1 {x0 x1 : OE} (h : EffOK E (x1 :: x0 :: O) G o post t) : EffOK E (x0 :: x1 :: O) G o post t := h.perm (fun hw => Own.swap hw) (fun f hf => by simp only [List.mem_cons] at hf ⊢; rcases hf with h | h | h <;> simp [h])
theorem fr2 {x0 x1 x2 : OE} (h : EffOK E (x2 :: x0 :: x1 :: O) G o post t) : EffOK E (x0 :: x1 :: x2 :: O) G o post t := h.perm (fun hw => Own.front2 hw) (fun f hf => by simp only [List.mem_cons] at hf ⊢; rcases hf with h | h | h | h <;> simp [h])
theorem fr3 {x0 x1 x2 x3 : OE} (h : EffOK E (x3 :: x0 :: x1 :: x2 :: O) G o post t) : EffOK E (x0 :: x1 :: x2 :: x3 :: O) G o post t := h.perm (fun hw => Own.front3 hw) (fun f hf => by simp only [List.mem_cons] at hf ⊢; rcases hf with h | h | h | h | h <;> simp [h])
theorem post_imp {post' : OI → List OE} (h : EffOK E O G o post t) (k : ∀ {w S x}, Own E.base E.B w S (post x) → Own E.base E.B w S (post' x)) : EffOK E O G o post' t := fun a w S hs ho hf hb =>
  opWp_mono (fun _ _ ⟨v, S', x, h1, h2, h3, h4, h5⟩ => ⟨v, S', x, h1, h2, h3, k h4, h5⟩) (h a w S hs ho hf hb)
end
end EffOK
section
variable {E : En} {O : List OE} {G : Ctx} {Q : Exit → Act → World → Prop} {ops : Array Oper} {rest : List Oper} {ty : TypeId} {pos : String} {after : Array Edge} {g : Option (Nat × Bool)}
theorem eff_storeA {α : Type} {r : Rp α} {n : Nat} {T U : TypeId} {b : Nat} {xs zs : List α} {y v : α} {i : Int} {sz bytes : Nat} {agg : Bool} {z : List Value} {p x : Operand} (ti : TI E.P U sz bytes agg z) (hsz : r.sz = sz)
    (hy : idx xs i = some y) (hz : xs.set i.toNat v = zs) (hp : HasTy E.N G p (tV (bptr b (i.toNat * r.sz)))) (hv : HasTy E.N G x (tD r v)) : EffOK E (bx (rArr r n) T b xs :: O) G ⟨none, .store U p x, ty, pos, after, g⟩ (fun _ => bx (rArr r n) T b zs :: O) (fun _ => tAny) := eff_none (fun _ h => (by cases h)) fun a w S hsat hown hf hbase => by
  subst hz
  have h1 : a.eval p = bptr b (i.toNat * r.sz) := hp S a hf
  obtain ⟨ds, h2, h3⟩ := hv S a hf
  obtain ⟨⟨hno, cur, h5, h6⟩, _⟩ := hown.1
  obtain ⟨h0, hy'⟩ := idx_some hy
  have hlt : i.toNat < xs.length := (List.getElem?_eq_some_iff.1 hy').1
  have hl := rcs_len h6.2
  simp only [Array.length_toList] at hl
  have hmul : i.toNat * r.sz + r.sz ≤ xs.length * r.sz := by rw [← Nat.succ_mul]; exact Nat.mul_le_mul_right _ hlt
  obtain ⟨w', hr, e1, e2, e3, e4, e5, e6⟩ := run_storeVar_at ti hsz h3 h5 (off := i.toNat * r.sz) (by omega)
  have hrun : (execOp a.eval ⟨none, .store U p x, ty, pos, after, g⟩).run E.P w = .ok .skip w' := by
    simp [execOp, h1, h2, Instr.storeAt, bptr, Instr.sureAddr, hr]
  obtain ⟨g1, g2, g3⟩ := own_write (O := O) hsat (bx (rArr r n) T b xs) (bx (rArr r n) T b (xs.set i.toNat v)) hown (fun _ => Iff.rfl) (fun _ => Iff.rfl) ⟨e1, e2, e3, e4.1, e4.2⟩ e6 ⟨hno, _, e5, by rw [List.length_set]; exact h6.1, rcs_set h3 h6.2 hlt⟩ hno
  exact ⟨w', S, zoi, hrun, g1.more fun c hc => ⟨_, List.mem_cons_self .., hc⟩, g2, g3⟩

section
variable {d : Nat}
theorem eff_alloc {α : Type} {r : Rp α} {x : α} {T : TypeId} {sz bytes : Nat} {agg : Bool} {z : List Value} (ti : TI E.P T sz bytes agg z) (hx : ∀ S, r.rc S z x) :
    EffOK E O G ⟨some d, .alloc T, ty, pos, after, g⟩ (fun i => bx r T (i.h 0).2 x :: O) (fun i => tV (bptr (i.h 0).2 0)) := fun a w S hs ho hf hb => by
  obtain ⟨zv, hzr, hzc⟩ := ti.zero w
  obtain ⟨he, hs', hno⟩ := Ext.alloc_own (w := w) (.cells z.toArray T (0, 0)) hs
  have hrun : (execOp a.eval ⟨some d, .alloc T, ty, pos, after, g⟩).run E.P w = .ok (.value (bptr w.heap.size 0)) (w.alloc (.cells z.toArray T (0, 0))) := by
    simp [execOp, Instr.alloc, hzr, newVar, newRow, hzc, bptr]
  refine ⟨fun c h => (by cases h), ?_⟩
  rw [hrun]
  exact ⟨_, S, oi none w.heap.size, rfl, he.more fun _ hb => hb.elim, hs', own_new ho he (e := bx r T w.heap.size x) ⟨hno, z.toArray, heap_alloc_new w _, by simpa using hx S⟩ (fun b hb => Nat.le_of_eq hb.symm) hb, rfl⟩
end
section
variable {dst : Option Tmp}
theorem ok_fieldAddrF {α : Type} {mm : Bool} {r : Rp α} {U T : TypeId} {l : Option Nat} {cap o i off sz n : Nat} {xs : List α} {y : α} {j : Int} {p : Operand} (hf : fieldIn E.P T i = some (off, sz)) (h0 : Nat.beq sz 0 = false) (hm : arrM mm r U l cap xs ∈ O) (hy : idx xs j = some y) (hp : HasTy E.N G p (tV (eptr l o))) (he : o + off = n) :
    OpOK E O G ⟨dst, .fieldAddr T p i, ty, pos, after, g⟩ (tV (eptr l n)) := by
  subst he
  exact ok_fieldAddrE hf h0 hm hy hp
end
theorem RG.castO {O' : List OE} (h : O = O') (k : RG E ops Q rest O' G) : RG E ops Q rest O G := by subst h; exact k
theorem CG.castO {O' : List OE} {c : Code} (h : O = O') (k : CG E Q c O' G) : CG E Q c O G := by subst h; exact k
theorem AT.castO {O' : List OE} {e : Exit} (h : O = O') (k : AT E Q e O' G) : AT E Q e O G := by subst h; exact k
theorem hW {N : Fr} {x : Operand} {u : Value} (h : HasTy N G x (tV u)) (ho : u.oneCell' = true) : HasTy N G x (tD rV u) := fun S a hf => tRV_iff.2 ⟨h S a hf, ho⟩
theorem hTT {N : Fr} {x : Operand} {t : Ty} (h1 : ∀ S v, t.p S v → v.oneCell' = true) (h : HasTy N G x t) : HasTy N G x (tD (rT t) ()) := fun S a hf => tRT.2 ⟨h1 _ _ (h S a hf), h S a hf⟩
end
end Go.Proofs.YtdhledkpgaeoaaaDoor

namespace Go.Proofs.YtdhledkpgaeoaaaDoor
open Go

theorem src_of_view {P : Program} {α : Type} {mm : Bool} {r : Rp α} {U : TypeId} {l : Option Nat} {cap : Nat} {xs ys : List α} {lo : Int} {w : World} {S : SH} {t' e' : TypeId} (ht : P.underlying t' = some (.slice e')) (h : arrP mm r U l cap xs w S) (hs : sliceF xs lo (xs.length : Int) = some ys) :
    ∃ news, Src P r.sz t' (vslV r.sz l cap lo.toNat ys.length) ys.length news w ∧ rcs r S news ys := by
  obtain ⟨cells, h1, h2, _⟩ := h
  obtain ⟨lo', m, rfl, hm, h3, h4, rfl⟩ := sliceF_some hs
  have hm' : m = xs.length := by omega
  subst hm'
  rw [List.take_length, Int.toNat_natCast]
  cases l with
  | none =>
    have hx : xs = [] := List.eq_nil_of_length_eq_zero h1.1
    subst hx
    exact ⟨[], by simpa [vslV] using Src.ofNil w ht 0, by simp [rcs]⟩
  | some b =>
    obtain ⟨cur, g1, g2, g3, g4, g5⟩ := h1
    have hlen : (xs.drop lo').length = xs.length - lo' := by simp
    have hcl := rcs_len h2
    have hsp : xs = xs.take lo' ++ xs.drop lo' := (List.take_append_drop lo' xs).symm
    have htl : (xs.take lo').length = lo' := by simp; omega
    have hr : rcs r S (cells.drop (lo' * r.sz)) (xs.drop lo') := by
      rw [hsp] at h2
      have := (rcs_split h2).2
      rwa [htl] at this
    have hmul : lo' * r.sz ≤ xs.length * r.sz := Nat.mul_le_mul_right _ h3
    refine ⟨cells.drop (lo' * r.sz), ?_, hr⟩
    unfold vslV
    refine Src.ofSlice w ht _ _ _ _ (rcs_len hr) (fun j u hu => ?_) (rcs_one hr)
    by_cases hc : cap = lo'
    · have : xs.drop lo' = [] := List.drop_of_length_le (by omega)
      rw [this] at hr
      have hr' : cells.drop (lo' * r.sz) = [] := hr
      rw [hr'] at hu; simp at hu
    · simp only [hc, if_false]
      rw [addr_add, cell_in g1]
      rw [List.getElem?_drop, ← g5] at hu
      have hj : lo' * r.sz + j < xs.length * r.sz := by
        have := (List.getElem?_eq_some_iff.1 hu).1
        simp at this; omega
      rw [List.getElem?_take_of_lt hj] at hu
      simpa using hu
section
variable {E : En} {O : List OE} {G : Ctx} {Q : Exit → Act → World → Prop} {ops : Array Oper} {rest : List Oper} {d : Nat} {ty : TypeId} {pos : String} {after : Array Edge}
theorem RG.isNilV {α : Type} {mm : Bool} {r : Rp α} {U : TypeId} {l : Option Nat} {cap : Nat} {xs ys : List α} {lo : Int} {x : Operand} {t yt e : TypeId} (ht : E.P.underlying t = some (.slice e)) (hm : arrM mm r U l cap xs ∈ O) (hs : sliceF xs lo (xs.length : Int) = some ys) (hx : HasTy E.N G x (tV (vslV r.sz l cap lo.toNat ys.length))) (hd : Nat.blt d E.N.n = true)
    (k : ∀ b, (b = true → ys = []) → RG E ops Q rest O ((d, tD rB b) :: G)) : RG E ops Q (⟨some d, .binOp .eql t x (.const (.slice none 0 0)) yt, ty, pos, after, none⟩ :: rest) O G := .of rfl fun a w S st => by
  have h1 : a.eval x = vslV r.sz l cap lo.toNat ys.length := hx S a st.facts
  obtain ⟨⟨cells, hraw, _⟩, _⟩ := st.own.mem _ hm
  have hcn : a.eval (.const (.slice none 0 0)) = .slice none 0 0 := rfl
  cases l with
  | none =>
    have hx0 : xs = [] := List.eq_nil_of_length_eq_zero hraw.1
    have hy0 : ys = [] := by
      obtain ⟨lo', m, _, _, _, _, rfl⟩ := sliceF_some hs
      subst hx0; simp
    have h3 : (Op.equal t (.slice none 0 0) (.slice none 0 0)).run E.P w = .ok true w := run_eql fun d => by
      simp [Op.equalIn, run_underlying ht]
    have hrun : (execOp a.eval ⟨some d, .binOp .eql t x (.const (.slice none 0 0)) yt, ty, pos, after, none⟩).run E.P w = .ok (.value (.bool true)) w := by
      simp [execOp, h1, vslV, hcn, eqGuard, binOp, h3]
    refine ⟨fun c h => (by cases h), ?_⟩
    rw [hrun]
    exact k true (fun _ => hy0) _ _ S (st.step (Ext.refl _ _ _) st.sat hd (tB_iff.2 rfl))
  | some b =>
    obtain ⟨ad, hv⟩ : ∃ ad, vslV r.sz (some b) cap lo.toNat ys.length = .slice (some ad) ys.length (cap - lo.toNat) := ⟨_, rfl⟩
    have h3 : (Op.equal t (.slice (some ad) ys.length (cap - lo.toNat)) (.slice none 0 0)).run E.P w = .ok false w := run_eql fun d => by
      simp [Op.equalIn, run_underlying ht]
    have hrun : (execOp a.eval ⟨some d, .binOp .eql t x (.const (.slice none 0 0)) yt, ty, pos, after, none⟩).run E.P w = .ok (.value (.bool false)) w := by
      simp [execOp, h1, hv, hcn, eqGuard, binOp, h3]
    refine ⟨fun c h => (by cases h), ?_⟩
    rw [hrun]
    exact k false (fun e => (by cases e)) _ _ S (st.step (Ext.refl _ _ _) st.sat hd (tB_iff.2 rfl))
theorem RG.appendV {α : Type} {r : Rp α} {U T t t' : TypeId} {sz bytes : Nat} {agg : Bool} {z : List Value} {mm : Bool} {l l2 : Option Nat} {cap cap2 n : Nat} {xs ys zs us : List α} {lo : Int} {x y : Operand} (ti : TI E.P T sz bytes agg z) (hsz : r.sz = sz) (hz : Nat.beq z.length sz = true) (h0 : Nat.blt 0 sz = true) (h128 : Nat.ble bytes 2048 = true)
    (ht : E.P.underlying t = some (.slice T)) (ht' : t' = t) (hd : Nat.blt d E.N.n = true) (hx : HasTy E.N G x (tV (oslV l cap n))) (hm : arrM mm r U l2 cap2 us ∈ arr r T l cap xs :: O) (hs : sliceF us lo (us.length : Int) = some ys) (hy : HasTy E.N G y (tV (vslV r.sz l2 cap2 lo.toNat ys.length))) (happ : app xs ys = some zs)
    (k : ∀ l' cap', RG E ops Q rest (arr r T l' cap' zs :: O) ((d, tV (oslV l' cap' zs.length)) :: G)) (hn : n = xs.length := by rfl) :
    RG E ops Q (⟨some d, .call ⟨.builtin .append, #[x, y], #[t, t']⟩, ty, pos, after, none⟩ :: rest) (arr r T l cap xs :: O) G := by
  subst ht'
  exact RG.appendG (u := fun cap' l' => tV (oslV l' cap' zs.length)) ti hsz hz h0 h128 ht hd hx (fun a w S st => by
    have h1 : a.eval y = vslV r.sz l2 cap2 lo.toNat ys.length := hy S a st.facts
    rw [h1]
    exact src_of_view ht (st.own.mem _ hm).1 hs) happ (fun _ _ _ _ _ => rfl) k hn
end
end Go.Proofs.YtdhledkpgaeoaaaDoor

namespace Go.Proofs.YtdhledkpgaeoaaaDoor
open Go

abbrev ItX (α X : Type) := (σ : Type) → (α → σ → Option (Bool × σ)) → σ → Option (σ × X)
def ItCallX (P : Program) {α X : Type} (args : α → List Ty) (it : ItX α X) (Ob : X → OI → List OE) (fid : FuncId) (cap : Array Value) (fp : Nat → Prop) (w : World) (S : SH) : Prop :=
  ∀ (σ : Type) (y : α → σ → Option (Bool × σ)) (s : σ) (R : σ × X), it σ y s = some R → ∀ I yv, Yld P args y I yv → ∀ e, I s e → e.p w S → (∀ k, e.fp k → ¬ fp k) →
    Calls P fid (#[yv] ++ cap) w fun en w' => ∃ e' S' j, (∃ v, en = .returned v) ∧ I R.1 e' ∧ Ext (fun k => e.fp k ∨ fp k) w S w' S' ∧ Sat w' S' ∧ e'.p w' S' ∧ Own 0 noB w' S' (Ob R.2 j) ∧ (∀ k, e'.fp k ∨ fpB (Ob R.2 j) k → (e.fp k ∨ fp k) ∨ w.heap.size ≤ k) ∧ ∀ k, e'.fp k → ¬ fpB (Ob R.2 j) k
def itrX (P : Program) {α X : Type} (args : α → List Ty) (it : ItX α X) (Ob : X → OI → List OE) (v : Value) (fp : Nat → Prop) : OE where
  fp := fp
  p := fun w S => (∀ k, fp k → k < w.heap.size) ∧ ∃ fid cap, v = .func (.func fid) #[] cap ∧ callableB P fid = true ∧
    ∀ C w' S', Ext C w S w' S' → (∀ k, fp k → ¬ C k) → Sat w' S' → ItCallX P args it Ob fid cap fp w' S'
  here := fun h k hk => h.1 k hk
  kept := by
    rintro C w w' S S' ⟨h1, fid, cap, h2, h3, h4⟩ k hC
    refine ⟨fun b hb => Nat.lt_of_lt_of_le (h1 b hb) k.size, fid, cap, h2, h3, fun C' w'' S'' k' hC' hs => ?_⟩
    exact h4 (fun b => C b ∨ C' b) w'' S'' ((k.more fun b hb => .inl hb).trans (k'.more fun b hb => .inr hb)) (fun b hb h => h.elim (hC b hb) (hC' b hb)) hs
section
variable {E : En} {O : List OE} {G : Ctx} {Q : Exit → Act → World → Prop} {ops : Array Oper} {rest : List Oper} {c : Code} {P : Program} {α : Type} {args : α → List Ty} {it : It α} {v : Value} {fp : Nat → Prop}
end

def ItSpecX (P : Program) (fid : FuncId) {α X : Type} (args : α → List Ty) (it : ItX α X) (Ob : X → OI → List OE) (O : List OE) (cts : List Ty) : Prop :=
  ∀ w S cap, Sat w S → Own 0 noB w S O → Tys S cts cap → ItCallX P args it Ob fid cap.toArray (fpB O) w S
def endIX (E : En) {σ X : Type} (I : σ → OE → Prop) (R : σ × X) (Ob : X → OI → List OE) : Ending → World → Prop := fun en w' => ∃ e' S' j, (∃ v, en = .returned v) ∧ I R.1 e' ∧ Ext E.B E.w0 E.S0 w' S' ∧ Sat w' S' ∧ e'.p w' S' ∧ Own 0 noB w' S' (Ob R.2 j) ∧ (∀ k, e'.fp k ∨ fpB (Ob R.2 j) k → E.B k ∨ E.w0.heap.size ≤ k) ∧ ∀ k, e'.fp k → ¬ fpB (Ob R.2 j) k
theorem ItSpecX.of {P : Program} {f : FuncId} {fn : Func} {c : Code} {N : Nat} {α X : Type} {args : α → List Ty} {it : ItX α X} {Ob : X → OI → List OE} {O : List OE} {cts : List Ty} (hf : P.funcs[f]? = some fn) (hb : fn.body = some c) (hN : fn.ntmps = N) (hn : Nat.ble (cts.length + 1) N = true)
    (h : ∀ (σ : Type) (y : α → σ → Option (Bool × σ)) (s : σ) (R : σ × X), it σ y s = some R → ∀ I yv, Yld P args y I yv → ∀ e, I s e → ∀ w0 S0 B, (∀ k, B k → e.fp k ∨ ∃ f ∈ O, f.fp k) →
      CG ⟨P, ⟨N, []⟩, B, w0, S0, none⟩ (bodyPost P fn (endIX ⟨P, ⟨N, []⟩, B, w0, S0, none⟩ I R Ob)) c (e :: O) (initG 0 (tV yv :: cts))) : ItSpecX P f args it Ob O cts := by
  subst hN
  intro w S cap hs ho hc σ y s R hit I yv hy e he hep hap
  have hown : Own w.heap.size (fun k => e.fp k ∨ ∃ f ∈ O, f.fp k) w S (e :: O) :=
    ⟨⟨hep, fun k hk => .inr (.inl hk)⟩, fun f hf b hb hfb => hap b hb ⟨f, hf, hfb⟩, Own.based ho fun f hf k hk => .inr (.inr ⟨f, hf, hk⟩)⟩
  have hfacts := facts_init (S := S) (ts := tV yv :: cts) (vs := yv :: cap) ⟨rfl, hc⟩ fn.ntmps (by simpa using Nat.le_of_ble_eq_true hn)
  have := callsIn_fw.1 (callsIn_of_wp (F := fw none) (n := 0) hf hb trivial (h σ y s R hit I yv hy e he w S (fun k => e.fp k ∨ ∃ f ∈ O, f.fp k) (fun _ h => h) _ w S ⟨Ext.refl _ _ _, hs, hown, hfacts⟩))
  rw [show (#[yv] ++ cap.toArray : Array Value) = (yv :: cap).toArray from by simp]
  exact this.mono fun en w' ⟨e', S', j, h1, h2, h3, h4, h5, h6, h7, h8⟩ => ⟨e', S', j, h1, h2, h3, h4, h5, h6, h7, h8⟩
def SpecItX (P : Program) (f : FuncId) (ts : List Ty) (O1 : List OE) {α X : Type} (args : α → List Ty) (it : ItX α X) (Ob : X → OI → List OE) : Prop :=
  ∀ w S vs, Sat w S → Tys S ts vs → Own 0 noB w S O1 → Calls P f vs.toArray w fun e w' => ∃ v fp S', e = .returned v ∧ Ext (fpB O1) w S w' S' ∧ Sat w' S' ∧ (itrX P args it Ob v fp).p w' S' ∧ ∀ k, fp k → fpB O1 k ∨ w.heap.size ≤ k
def endItX (E : En) (O1 : List OE) {α X : Type} (args : α → List Ty) (it : ItX α X) (Ob : X → OI → List OE) : Ending → World → Prop := fun e w' => ∃ v fp S', e = .returned v ∧ Ext E.B E.w0 E.S0 w' S' ∧ Sat w' S' ∧ (itrX E.P args it Ob v fp).p w' S' ∧ ∀ k, fp k → fpB O1 k ∨ E.w0.heap.size ≤ k
theorem SpecItX.of {P : Program} {f : FuncId} {fn : Func} {c : Code} {ts : List Ty} {N : Nat} {O1 : List OE} {α X : Type} {args : α → List Ty} {it : ItX α X} {Ob : X → OI → List OE} (hf : P.funcs[f]? = some fn) (hb : fn.body = some c) (hN : fn.ntmps = N) (hn : Nat.ble ts.length N = true)
    (h : ∀ w0 S0, CG ⟨P, ⟨N, []⟩, fpB O1, w0, S0, none⟩ (bodyPost P fn (endItX ⟨P, ⟨N, []⟩, fpB O1, w0, S0, none⟩ O1 args it Ob)) c O1 (initG 0 ts)) : SpecItX P f ts O1 args it Ob := by
  subst hN
  intro w S vs hs hv ho
  exact callsIn_fw.1 (callsIn_of_wp (F := fw none) (n := 0) hf hb trivial (h w S _ w S ⟨Ext.refl _ _ _, hs, Own.based ho fun f hf k hk => .inr ⟨f, hf, hk⟩, facts_init hv _ (Nat.le_of_ble_eq_true hn)⟩))
section
variable {E : En} {O : List OE} {G : Ctx} {Q : Exit → Act → World → Prop} {ops : Array Oper} {rest : List Oper} {d : Nat} {ty : TypeId} {pos : String} {after : Array Edge}
end

section
variable {E : En} {O : List OE} {G : Ctx}
end
end Go.Proofs.YtdhledkpgaeoaaaDoor

namespace Go.Proofs.YtdhledkpgaeoaaaDoor
open Go

section
variable {E : En} {O : List OE} {G : Ctx} {Q : Exit → Act → World → Prop} {ops : Array Oper} {rest : List Oper}
section
variable {dst : Option Tmp} {ty : TypeId} {pos : String} {after : Array Edge} {g : Option (Nat × Bool)}
end
section
variable {P : Program} {N : Nat} {w0 : World} {S0 : SH} {fn : Func} {O1 : List OE} {ι : Type} {t : ι → Ty} {O2 : ι → List OE}
end
end
section
variable {E : En} {O : List OE} {G : Ctx} {Q : Exit → Act → World → Prop} {ops : Array Oper} {rest : List Oper} {κ β : Type} [DecidableEq κ] {V : MV β} {kv : κ → Value} {b : Nat} {os : List (Option Nat × Nat)} {m : List (κ × β)} {k : κ} {t kt et : TypeId} {x i v : Operand}
  {d : Nat} {dst : Option Nat} {ty : TypeId} {pos : String} {after : Array Edge} {g : Option (Nat × Bool)}
theorem RG.insY {γ : β → Ty} {y : β} (hm : E.P.underlying t = some (.map kt et)) (hk : KeyOK E.P kt kv) (hx : HasTy E.N G x (tV (mapV b))) (hi : KeyAt E.N G i (kv k)) (hv : HasTy E.N G v (γ y))
    (h : ∀ os', RG E ops Q rest (mapO (mvY γ) kv b none os' (mset m k y) :: O) G) :
    RG E ops Q (⟨none, .insert t x i v, ty, pos, after, none⟩ :: rest) (mapO (mvY γ) kv b none os m :: O) G := .of rfl fun a w S st => by
  have h1 : a.eval x = mapV b := hx S a st.facts
  have h2 : a.eval i = kv k := hi S a st.facts
  have h3 : (γ y).p S (a.eval v) := hv S a st.facts
  obtain ⟨⟨hp, hfp⟩, hap, hO⟩ := st.own
  obtain ⟨hno, hnb, es, clock, e3, e4, hst⟩ := hp
  obtain ⟨q, hq, hdk, hinj⟩ := hk
  obtain ⟨os1, p1, p2, _⟩ := ents_punch hdk hinj (k := k) 0 e4
  have hnb1 : ∀ o ∈ os1, o.1 ≠ some b := fun o ho => by
    rcases p1 o ho with h | h
    · exact hnb o h
    · rw [h]; exact fun e => by cases e
  obtain ⟨w', os', r, x1, x2, x3, x4⟩ := map_write (V := mvY γ) (E := E) (y := y) (o := (none, 0)) (val := a.eval v) st.sat hm ⟨q, hq, hdk, hinj⟩ ⟨hno, hnb1, es, clock, e3, p2, hst⟩ ⟨rfl, h3⟩ (fun e => by cases e) (fun _ _ _ e => by cases e)
  have hrun : (execOp a.eval ⟨none, .insert t x i v, ty, pos, after, none⟩).run E.P w = .ok .skip w' := by simp [execOp, h1, h2, r]
  refine ⟨fun c h => (by cases h), ?_⟩
  rw [hrun]
  have hfp' : ∀ j, (mapO (mvY γ) kv b none os' (mset m k y)).fp j → (mapO (mvY γ) kv b none os m).fp j := fun j hj => by
    rcases x4 j hj with (h | ⟨o, ho, e⟩) | e
    · exact .inl h
    · rcases p1 o ho with h | h
      · exact .inr ⟨o, h, e⟩
      · rw [h] at e; cases e
    · cases e
  exact h os' _ _ S ⟨st.ext.step x1 (fun c hc => hfp c (.inl hc)), x2, ⟨⟨x3, fun j hj => hfp j (hfp' j hj)⟩, fun f hf j hj => hap f hf j (hfp' j hj), hO.ext x1 fun f hf j hj hjb => hap f hf j (.inl hjb) hj⟩, st.facts⟩
end
end Go.Proofs.YtdhledkpgaeoaaaDoor

namespace Go.Proofs.YtdhledkpgaeoaaaDoor
open Go

def entsD {κ β : Type} (γ : β → Ty) (kv : κ → Value) (S : SH) : List MapEntry → List (κ × β) → Prop
  | [], [] => True
  | e :: es, q :: m => e.key = kv q.1 ∧ (γ q.2).p S e.val ∧ (∀ p ∈ m, p.1 ≠ q.1) ∧ entsD γ kv S es m
  | _, _ => False
theorem entsD_mono {κ β : Type} {γ : β → Ty} {kv : κ → Value} {S S' : SH} (h : SH.le S S') : ∀ {es : List MapEntry} {m : List (κ × β)}, entsD γ kv S es m → entsD γ kv S' es m
  | [], [], _ => trivial
  | _ :: _, q :: _, ⟨h1, h2, h3, h4⟩ => ⟨h1, (γ q.2).mono h h2, h3, entsD_mono h h4⟩
theorem ents_D {κ β : Type} [DecidableEq κ] {γ : β → Ty} {kv : κ → Value} {w : World} {S : SH} : ∀ {es : List MapEntry} {os : List (Option Nat × Nat)} {m : List (κ × β)}, ents (mvY γ) kv w S none es os m → entsD γ kv S es m
  | [], [], [], _ => trivial
  | _ :: _, _ :: _, _ :: _, ⟨h1, h2, _, h4, h5⟩ => ⟨h1, by rw [if_neg (by simp)] at h2; exact h2.2, h4, ents_D h5⟩
theorem D_ents {κ β : Type} [DecidableEq κ] {γ : β → Ty} {kv : κ → Value} {w : World} {S : SH} : ∀ {es : List MapEntry} {m : List (κ × β)}, entsD γ kv S es m → ents (mvY γ) kv w S none es (m.map fun _ => (none, 0)) m
  | [], [], _ => trivial
  | _ :: _, _ :: _, ⟨h1, h2, h3, h4⟩ => ⟨h1, by rw [if_neg (by simp)]; exact ⟨rfl, h2⟩, fun _ _ _ h => (by cases h), h3, D_ents h4⟩
def tMp {κ β : Type} (γ : β → Ty) (kv : κ → Value) (m : List (κ × β)) : Ty where
  p := fun S v => ∃ b es clock, v = mapV b ∧ S b = some (.map es clock) ∧ entsD γ kv S es.toList m
  mono := fun h ⟨b, es, cl, e, h1, h2⟩ => by
    obtain ⟨o', h3, h4⟩ := h b _ h1
    have h5 : o' = .map es cl := h4
    subst h5
    exact ⟨b, es, cl, e, h3, entsD_mono h h2⟩
theorem one_map {κ β : Type} {γ : β → Ty} {kv : κ → Value} {m : List (κ × β)} : ∀ S v, (tMp γ kv m).p S v → v.oneCell' = true := fun _ _ ⟨_, _, _, e, _⟩ => by rw [e]; rfl
section
variable {E : En} {O : List OE} {G : Ctx} {Q : Exit → Act → World → Prop} {ops : Array Oper} {rest : List Oper} {c : Code} {κ β : Type} [DecidableEq κ] {kv : κ → Value} {m : List (κ × β)} {k : κ} {t kt et : TypeId} {x i : Operand} {γ : β → Ty}
  {dst : Option Nat} {ty : TypeId} {pos : String} {after : Array Edge} {g : Option (Nat × Bool)}
theorem ok_lookupMp {z : β} {zv : Value} (hm : E.P.underlying t = some (.map kt et)) (hk : KeyOK E.P kt kv) (hz : ZV E.P et zv) (hzt : ∀ S, (γ z).p S zv) (hx : HasTy E.N G x (tMp γ kv m)) (hi : KeyAt E.N G i (kv k)) :
    OpOK E O G ⟨dst, .lookup t x i false, ty, pos, after, g⟩ (γ ((mget m k).getD z)) := .of_pure fun a w S hs ho hf => by
  obtain ⟨b, es, clock, h1, h3, h4⟩ := hx S a hf
  obtain ⟨o', h5, h6⟩ := hs b _ h3
  have h7 : o' = .map es clock := h6
  subst h7
  obtain ⟨q, hq, hd, hinj⟩ := hk
  have h2 : a.eval i = kv k := hi S a hf
  obtain ⟨_, _, _, h8⟩ := ents_punch hd hinj (k := k) 0 (D_ents (w := w) h4)
  rcases h8 with ⟨g1, g2⟩ | ⟨y, o, e, j, g1, g2, g3, g4, g5⟩
  · refine ⟨zv, by simp [execOp, h1, h2, run_lookup_at hm hq (hd k) h5 hz g2], by rw [g1]; exact hzt S⟩
  · refine ⟨e.val, by simp [execOp, h1, h2, run_lookup_at hm hq (hd k) h5 hz g4], by rw [g1]; exact g3.2⟩
theorem St.settleMp {b j : Nat} {os : List (Option Nat × Nat)} {a : Act} {w : World} {S : SH} (h : St E (mapO (mvY γ) kv b none os m :: O) G a w S) (hk : look G j = some (tV (mapV b))) : ∃ S', St E O ((j, tMp γ kv m) :: G) a w S' := by
  obtain ⟨⟨hn, _, es, clock, h3, h4, _⟩, _⟩ := h.own.1
  obtain ⟨h8, hle, _, _⟩ := settle_ext h (.inl rfl) h3 (ole_refl _) hn
  have hv : a.tmps.getD j undef = mapV b := h.facts.at_ j _ hk
  exact ⟨_, h8.cons ⟨b, es, clock, hv, by simp [SH.set], entsD_mono hle (ents_D h4)⟩⟩
theorem RG.settleMp {b : Nat} {os : List (Option Nat × Nat)} (j : Nat) (hk : look G j = some (tV (mapV b))) (h : RG E ops Q rest O ((j, tMp γ kv m) :: G)) : RG E ops Q rest (mapO (mvY γ) kv b none os m :: O) G :=
  fun a w _ st => let ⟨S', st'⟩ := st.settleMp hk; h a w S' st'
theorem CG.settleMp {b : Nat} {os : List (Option Nat × Nat)} (j : Nat) (hk : look G j = some (tV (mapV b))) (h : CG E Q c O ((j, tMp γ kv m) :: G)) : CG E Q c (mapO (mvY γ) kv b none os m :: O) G :=
  fun a w _ st => let ⟨S', st'⟩ := st.settleMp hk; h a w S' st'
theorem LG.settleMp {b : Nat} {os : List (Option Nat × Nat)} (j : Nat) (hk : look G j = some (tV (mapV b))) (h : LG E Q c O ((j, tMp γ kv m) :: G)) : LG E Q c (mapO (mvY γ) kv b none os m :: O) G :=
  fun a w _ st => let ⟨S', st'⟩ := st.settleMp hk; h a w S' st'
theorem AT.settleMp {e : Exit} {b : Nat} {os : List (Option Nat × Nat)} (j : Nat) (hk : look G j = some (tV (mapV b))) (h : AT E Q e O ((j, tMp γ kv m) :: G)) : AT E Q e (mapO (mvY γ) kv b none os m :: O) G :=
  fun a w _ st => let ⟨S', st'⟩ := st.settleMp hk; h a w S' st'
end
def tFn (P : Program) {α β : Type} (args : α → List Ty) (res : β → Ty) (f : α → Option β) : Ty where
  p := fun S v => ∀ x y, f x = some y → ∃ fid cap, v = .func (.func fid) #[] cap ∧ callableB P fid = true ∧ ∀ w S' vs, SH.le S S' → Sat w S' → Tys S' (args x) vs →
    Calls P fid (vs.toArray ++ cap) w fun e w' => ∃ v S'', e = .returned v ∧ Ext noB w S' w' S'' ∧ Sat w' S'' ∧ (res y).p S'' v
  mono := fun h k x y hxy => by
    obtain ⟨f, cap, e, hc, k⟩ := k x y hxy
    exact ⟨f, cap, e, hc, fun w S' vs hle => k w S' vs (SH.le_trans h hle)⟩
theorem tFn_of {N : Fr} {G : Ctx} {P : Program} {α β : Type} {args : α → List Ty} {res : β → Ty} {f : α → Option β} {x : Operand} (h : HasTy N G x (tFun P args res f)) : HasTy N G x (tFn P args res f) := fun S a hf u y hxy => by
  obtain ⟨fid, cap, e, hc, k⟩ := h S a hf
  exact ⟨fid, cap, e, hc, fun w S' vs => k u y hxy w S' vs⟩
theorem tFn_nil {P : Program} {α β : Type} {args : α → List Ty} {res : β → Ty} {S : SH} {v : Value} : (tFn P args res (fun _ : α => (none : Option β))).p S v := fun _ _ h => by cases h
theorem ok_callVn {E : En} {O : List OE} {G : Ctx} {dst : Option Tmp} {ty : TypeId} {pos : String} {after : Array Edge} {g : Option (Nat × Bool)} {α β : Type} {args : α → List Ty} {res : β → Ty} {f : α → Option β} {fo : Operand} {x : α} {y : β} {xs : List Operand} {ats : Array TypeId} (hfo : HasTy E.N G fo (tFn E.P args res f)) (h : f x = some y) (hx : HasTys E.N G xs (args x)) :
    OpOK E O G ⟨dst, .call ⟨.value fo, xs.toArray, ats⟩, ty, pos, after, g⟩ (res y) := fun a w S hS _ hF => by
  obtain ⟨fid, cap, e, hc, hs⟩ := hfo S a hF x y h
  have hr : (execOp a.eval ⟨dst, .call ⟨.value fo, xs.toArray, ats⟩, ty, pos, after, g⟩).run E.P w = .ok (.enter fid ((xs.map a.eval).toArray ++ cap)) w := by
    simp [execOp, resolve, e, Deferred.ofValue, invoke, run_callFunc hc]
  refine ⟨fun c h => (by cases h), ?_⟩
  rw [hr]
  exact (hs w S _ (SH.le_refl _) hS (hx.tys hF)).mono fun e w' ⟨v, S', he, h1, h2, h3⟩ => ⟨v, he, v, S', rfl, h1, h2, h3⟩
end Go.Proofs.YtdhledkpgaeoaaaDoor

namespace Go.Proofs.YtdhledkpgaeoaaaDoor
open Go

def GS : Nat := 1000000
def tGl {α : Type} (r : Rp α) (x : α) (g : Nat) : Ty where
  p := fun S _ => (tPtr r x).p S (bptr g 0)
  mono := fun h k => (tPtr r x).mono h k
theorem glob_p {α : Type} {r : Rp α} {x : α} {g : Nat} {vs : List Value} {w : World} {S : SH} (hs : Sat w S) (hg : (g, vs) ∈ glob) (hr : ∀ S, r.rc S vs x) : (tPtr r x).p S (bptr g 0) := by
  obtain ⟨c, T, fr, h1, h2⟩ := hs.gl _ hg
  refine ⟨g, 0, c, T, fr, rfl, h1, ?_⟩
  rw [List.drop_zero, ← r.len (hr S)]
  have h3 : c.toList.take vs.length = vs := h2
  rw [h3]
  exact hr S
section
variable {E : En} {O : List OE} {G : Ctx} {dst : Option Tmp} {ty : TypeId} {pos : String} {after : Array Edge} {g : Option (Nat × Bool)}
theorem facts_gl {N : Fr} {S : SH} {a : Act} {t : Ty} (hf : Facts N S a G) (h : ∀ v, t.p S v) : Facts N S a ((GS, t) :: G) := ⟨hf.size, hf.defers, fun j u hj => by
  unfold look at hj
  cases hb : Nat.beq GS j with
  | true =>
    rw [hb] at hj
    simp only [cond_true, Option.some.injEq] at hj
    rw [← hj]; exact h _
  | false =>
    rw [hb] at hj
    simp only [cond_false] at hj
    exact hf.at_ j u hj⟩
theorem OpOK.glob {α : Type} {r : Rp α} {x : α} {v : Nat} {vs : List Value} {o : Oper} {t : Ty} (hg : (v, vs) ∈ glob) (hr : ∀ S, r.rc S vs x) (h : OpOK E O ((GS, tGl r x v) :: G) o t) : OpOK E O G o t := fun a w S hs ho hf =>
  h a w S hs ho (facts_gl hf fun _ => glob_p hs hg hr)
theorem hGlob {N : Fr} {α : Type} {r : Rp α} {x : α} {v : Nat} : HasTy N ((GS, tGl r x v) :: G) (.global v) (tPtr r x) := fun S a hf => hf.at_ GS (tGl r x v) (by simp [look])
theorem ok_sliceS {s u : Str} {x : Operand} {hi : Operand} {t : TypeId} {k : IntKind} {j : Int} (ht : E.P.underlying t = some .string) (hx : HasTy E.N G x (tD rS s)) (hh : HasTy E.N G hi (tD (rI k) j)) (hy : sliceF s 0 j = some u) :
    OpOK E O G ⟨dst, .slice t x none (some hi) none, ty, pos, after, g⟩ (tD rS u) := .of_pure fun a w S _ _ hf => by
  have h1 : a.eval x = .string ⟨s.toArray⟩ := tS_iff.1 (hx S a hf)
  have h2 : a.eval hi = .int k j := tI_iff.1 (hh S a hf)
  obtain ⟨l, m, e1, e2, e3, e4, e5⟩ := sliceF_some hy
  have el : l = 0 := by omega
  subst el e2 e5
  have hsz : (ByteArray.mk s.toArray).size = s.length := by simp [ByteArray.size]
  have h3 := run_slice_string_h (P := E.P) w t ⟨s.toArray⟩ ht k (m : Int) (by omega) (by rw [hsz]; omega)
  refine ⟨_, by simp only [execOp, h1, h2, Option.map_none, Option.map_some, Sem.run_bind, run_sliceAt_string w t _ _ _ _ ht, h3, Result.andThen_ok, Sem.run_pure]; rfl, tS_iff.2 ?_⟩
  congr 1
  apply ByteArray.ext
  simp
def cmpB (a b : Str) : Int := Lib.compareBytes a b
theorem ok_cmpX {f : FuncId} {fn : Func} {s u : Str} {x y : Operand} {ats : Array TypeId} (hf : E.P.funcs[f]? = some fn) (hname : (fn.name == "runtime.NumGoroutine") = false) (hb : fn.body.isNone = true) (hn : Extern.findNext fn = none) (he : Extern.find fn = some Extern.BytealgCompare.compare) (hx : HasTy E.N G x (tD rS s)) (hy : HasTy E.N G y (tD rS u)) :
    OpOK E O G ⟨dst, .call ⟨.value (.func f), #[x, y], ats⟩, ty, pos, after, g⟩ (tD (rI .i64) (cmpB s u)) := .of_pure fun a w S _ _ hF => by
  have h1 : a.eval x = .string ⟨s.toArray⟩ := tS_iff.1 (hx S a hF)
  have h2 : a.eval y = .string ⟨u.toArray⟩ := tS_iff.1 (hy S a hF)
  refine ⟨.int .i64 (cmpB s u), ?_, tI_iff.2 rfl⟩
  have h3 := run_callFunc_extern hf hname hb hn he #[.string ⟨s.toArray⟩, .string ⟨u.toArray⟩] w
  rw [Lib.run_compareString] at h3
  have h0 : a.eval (.func f) = .func (.func f) #[] #[] := rfl
  simp [execOp, resolve, h0, Deferred.ofValue, invoke, h1, h2, h3, cmpB, Result.andThen]
end
end Go.Proofs.YtdhledkpgaeoaaaDoor

namespace Go.Proofs.YtdhledkpgaeoaaaDoor
open Go

def dnE (es : List Bool) (done : Array Bool) : List Nat := (List.range es.length).filter fun k => (es[k]?).getD false && done.getD k false
def insE (es : List Bool) (i : Nat) (s : List Nat) : List Nat := (List.range es.length).filter fun k => Nat.beq k i || s.contains k
def eqL : List Nat → List Nat → Bool
  | [], [] => true
  | a :: s, b :: t => Nat.beq a b && eqL s t
  | _, _ => false
theorem eqL_eq : ∀ {s t : List Nat}, eqL s t = true → s = t
  | [], [], _ => rfl
  | a :: s, b :: t, h => by
    simp only [eqL, Bool.and_eq_true] at h
    rw [Nat.eq_of_beq_eq_true h.1, eqL_eq h.2]
  | [], _ :: _, h => by cases h
  | _ :: _, [], h => by cases h
def OmT : List (List Nat × ((Nat → OI) → List OE)) → List Nat → (Nat → OI) → List OE
  | [], _, _ => []
  | p :: r, s, σ => bif eqL p.1 s then p.2 σ else OmT r s σ
theorem mem_dnE {es : List Bool} {done : Array Bool} {k : Nat} : k ∈ dnE es done ↔ es[k]? = some true ∧ done.getD k false = true := by
  unfold dnE
  rw [List.mem_filter, List.mem_range, Bool.and_eq_true]
  constructor
  · rintro ⟨h1, h2, h3⟩
    refine ⟨?_, h3⟩
    rw [List.getElem?_eq_getElem h1] at h2 ⊢
    simpa using h2
  · rintro ⟨h1, h2⟩
    exact ⟨(List.getElem?_eq_some_iff.1 h1).1, by rw [h1]; rfl, h2⟩
theorem dnE_quiet {es : List Bool} {done : Array Bool} {i : Nat} (h : es[i]? = some false) : dnE es (done.setIfInBounds i true) = dnE es done := by
  unfold dnE
  refine List.filter_congr fun k hk => ?_
  by_cases hik : i = k
  · subst hik; rw [h]; rfl
  · rw [getD_set_ne false hik]
theorem dnE_eff {es : List Bool} {done : Array Bool} {i : Nat} (h : es[i]? = some true) (hs : i < done.size) : dnE es (done.setIfInBounds i true) = insE es i (dnE es done) := by
  unfold insE
  conv => lhs; unfold dnE
  refine List.filter_congr fun k hk => ?_
  by_cases hik : i = k
  · subst hik; simp [h, hs]
  · rw [getD_set_ne false hik]
    have hb : Nat.beq k i = false := by
      cases hb : Nat.beq k i with
      | false => rfl
      | true => exact absurd (Nat.eq_of_beq_eq_true hb).symm hik
    rw [hb, Bool.false_or, Bool.eq_iff_iff, List.contains_iff_mem, mem_dnE, Bool.and_eq_true]
    constructor
    · rintro ⟨h1, h2⟩
      refine ⟨?_, h2⟩
      cases he : es[k]? with
      | none => rw [he] at h1; cases h1
      | some b => rw [he] at h1; simpa using h1
    · rintro ⟨h1, h2⟩
      exact ⟨by rw [h1]; rfl, h2⟩
def subsE : List Nat → List (List Nat)
  | [] => [[]]
  | k :: l => (subsE l).map (k :: ·) ++ subsE l
def effs (es : List Bool) : List Nat := (List.range es.length).filter fun k => (es[k]?).getD false
theorem filter_subs (p : Nat → Bool) : ∀ l : List Nat, l.filter p ∈ subsE l
  | [] => List.mem_singleton.2 rfl
  | k :: l => by
    unfold subsE
    rw [List.mem_append]
    by_cases h : p k = true
    · rw [List.filter_cons_of_pos h]
      exact .inl (List.mem_map.2 ⟨_, filter_subs p l, rfl⟩)
    · rw [List.filter_cons_of_neg h]
      exact .inr (filter_subs p l)
theorem dnE_subs (es : List Bool) (done : Array Bool) : dnE es done ∈ subsE (effs es) := by
  have : dnE es done = (effs es).filter fun k => done.getD k false := by
    unfold dnE effs
    rw [List.filter_filter]
    refine List.filter_congr fun k _ => Bool.and_comm ..
  rw [this]
  exact filter_subs _ _
def noE (L : List Oper) (es : List Bool) (i : Nat) (s : List Nat) : Bool :=
  s.contains i || (effs es).any fun k => if s.contains k then reaches L L.length k i || (effs es).any fun j => !s.contains j && reaches L L.length k j else reaches L L.length i k
def winT (L : List Oper) (es : List Bool) (i : Nat) (aas : List (List Nat)) : Bool := (subsE (effs es)).all fun s => noE L es i s || aas.any fun a => eqL a s
def AllS {α : Type} (p : α → Prop) : List α → Prop
  | [] => True
  | a :: l => p a ∧ AllS p l
theorem AllS.mem {α : Type} {p : α → Prop} : ∀ {l : List α}, AllS p l → ∀ a ∈ l, p a
  | _ :: _, ⟨h, _⟩, _, .head _ => h
  | _ :: _, ⟨_, h⟩, _, .tail _ hm => AllS.mem h _ hm
abbrev SsT := List (List Nat × ((Nat → OI) → List OE))
def DT (E : En) (G : Ctx) (L : List Oper) (ts : List TS) (Ss : SsT) (es0 : List Bool) : Nat → List Oper → List Bool → Prop
  | _, [], _ => True
  | i, o :: rest, false :: es => (∃ (needs : List NS) (t : TS) (aas : List (List Nat)), ts[i]? = some t ∧ NSsOK G ts needs ∧ (needs.all fun n => srcB L o i (n.at fun _ => zoi)) = true ∧ edgesB i o = true ∧ depB L es0 i t = true ∧ winT L es0 i aas = true ∧ o.dst.isSome = true ∧
      AllS (fun s => ∀ σ, OpG E (OmT Ss s σ) L.toArray (needS needs σ) o (t.at σ)) aas) ∧ DT E G L ts Ss es0 (i + 1) rest es
  | i, o :: rest, true :: es => (∃ (needs : List NS) (t : TS) (aas : List (List Nat × List Nat)), ts[i]? = some t ∧ NSsOK G ts needs ∧ (needs.all fun n => srcB L o i (n.at fun _ => zoi)) = true ∧ edgesB i o = true ∧ depB L es0 i t = true ∧ winT L es0 i (aas.map (·.1)) = true ∧ (aas.all fun p => eqL (insE es0 i p.1) p.2) = true ∧
      AllS (fun p : List Nat × List Nat => ∀ σ, EffG E L.toArray (OmT Ss p.1 σ) (needS needs σ) o (fun x => OmT Ss p.2 (upd σ i x)) (fun x => t.at (upd σ i x))) aas) ∧ DT E G L ts Ss es0 (i + 1) rest es
  | _, _ :: _, [] => False
theorem DT.get {E : En} {G : Ctx} {L : List Oper} {ts : List TS} {Ss : SsT} {es0 : List Bool} : ∀ (r : List Oper) (es : List Bool) (k : Nat), DT E G L ts Ss es0 k r es → ∀ (j : Nat) (o : Oper), r[j]? = some o →
    ∃ e, es[j]? = some e ∧ ∃ (needs : List NS) (t : TS), ts[k + j]? = some t ∧ NSsOK G ts needs ∧ (needs.all fun n => srcB L o (k + j) (n.at fun _ => zoi)) = true ∧ edgesB (k + j) o = true ∧ depB L es0 (k + j) t = true ∧
      (match e with
       | false => o.dst.isSome = true ∧ ∃ aas, winT L es0 (k + j) aas = true ∧ AllS (fun s => ∀ σ, OpG E (OmT Ss s σ) L.toArray (needS needs σ) o (t.at σ)) aas
       | true => ∃ aas : List (List Nat × List Nat), winT L es0 (k + j) (aas.map (·.1)) = true ∧ (aas.all fun p => eqL (insE es0 (k + j) p.1) p.2) = true ∧ AllS (fun p : List Nat × List Nat => ∀ σ, EffG E L.toArray (OmT Ss p.1 σ) (needS needs σ) o (fun x => OmT Ss p.2 (upd σ (k + j) x)) (fun x => t.at (upd σ (k + j) x))) aas) := by
  intro r
  induction r with
  | nil => intro es k _ j o h; simp at h
  | cons p r ih =>
    intro es k h j o ho
    cases es with
    | nil => exact h.elim
    | cons e es =>
      cases e with
      | false =>
        obtain ⟨⟨needs, t, aas, g1, g2, g3, g4, g5, g6, g7, g8⟩, h2⟩ := h
        cases j with
        | zero =>
          simp at ho; subst ho
          exact ⟨false, rfl, needs, t, g1, g2, g3, g4, g5, g7, aas, g6, g8⟩
        | succ j =>
          obtain ⟨e', g1, g2⟩ := ih es (k + 1) h2 j o (by simpa using ho)
          refine ⟨e', by simpa using g1, ?_⟩
          rw [show k + 1 + j = k + (j + 1) from by omega] at g2
          exact g2
      | true =>
        obtain ⟨⟨needs, t, aas, g1, g2, g3, g4, g5, g6, g7, g8⟩, h2⟩ := h
        cases j with
        | zero =>
          simp at ho; subst ho
          exact ⟨true, rfl, needs, t, g1, g2, g3, g4, g5, aas, g6, g7, g8⟩
        | succ j =>
          obtain ⟨e', g1, g2⟩ := ih es (k + 1) h2 j o (by simpa using ho)
          refine ⟨e', by simpa using g1, ?_⟩
          rw [show k + 1 + j = k + (j + 1) from by omega] at g2
          exact g2
structure DJT (E : En) (G : Ctx) (l : List Oper) (ts : List TS) (Ss : SsT) (es : List Bool) (done : Array Bool) (a : Act) (w : World) (S : SH) (σ : Nat → OI) : Prop where
  ext : Ext E.B E.w0 E.S0 w S
  sat : Sat w S
  own : Own E.base E.B w S (OmT Ss (dnE es done) σ)
  size : a.tmps.size = E.N.n
  defers : a.defers = E.N.ds
  dsz : done.size = l.length
  down : ∀ j o, l[j]? = some o → done.getD j false = true → ∀ e ∈ o.after, Region.binds .any e = true → done.getD e.on false = true
  old : ∀ k t, look G k = some t → (∀ j o, l[j]? = some o → done.getD j false = true → o.dst ≠ some k) → t.p S (a.tmps.getD k undef)
  new : ∀ j o d p, l[j]? = some o → done.getD j false = true → o.dst = some d → ts[j]? = some p → (p.at σ).p S (a.tmps.getD d undef)
  deps : ∀ j p, done.getD j false = true → ts[j]? = some p → ∀ k ∈ p.1, done.getD k false = true
section
variable {E : En} {G : Ctx} {L : List Oper} {ts : List TS} {Ss : SsT} {es : List Bool}
theorem DJT.need {done : Array Bool} {a : Act} {w : World} {S : SH} {σ : Nat → OI} (h : DJT E G L ts Ss es done a w S σ) {i : Nat} {o : Oper} (hi : L[i]? = some o) (hun : done.getD i true = false)
    (hwait : ∀ e ∈ o.after, Region.binds .any e = true → done.getD e.on false = true) {needs : List NS} (h1 : NSsOK G ts needs) (h2 : (needs.all fun n => srcB L o i (n.at fun _ => zoi)) = true) : Facts E.N S a (needS needs σ) := by
  have hlt : i < done.size := by rw [h.dsz]; exact (List.getElem?_eq_some_iff.1 hi).1
  have hun' : done.getD i false = false := by
    simp [hlt] at hun ⊢; exact hun
  refine ⟨h.size, h.defers, ?_⟩
  have key : ∀ n ∈ needs, (n.ty σ).p S (a.tmps.getD n.slot undef) := by
    intro n hn
    have hs := List.all_eq_true.1 h2 n hn
    have ho := h1.mem n hn
    unfold srcB NS.at at hs
    unfold NSOK at ho
    cases hsrc : n.src with
    | some j =>
      rw [hsrc] at hs ho
      simp only [Bool.and_eq_true] at hs
      obtain ⟨hs1, hs2⟩ := hs
      cases hj : L[j]? with
      | none => rw [hj] at hs1; cases hs1
      | some p =>
        rw [hj] at hs1
        cases hd : p.dst with
        | none => simp only [hd] at hs1; cases hs1
        | some d =>
          simp only [hd] at hs1
          have hd' := Nat.eq_of_beq_eq_true hs1
          subst hd'
          have hdone : done.getD j false = true := by
            unfold waits at hs2
            obtain ⟨e, he0, hb⟩ := List.any_eq_true.1 hs2
            have he : e ∈ o.after := by simpa using he0
            simp only [Bool.and_eq_true] at hb
            have := hwait e he hb.2
            rwa [Nat.eq_of_beq_eq_true hb.1] at this
          have hm := ho σ
          cases hf : ts[j]? with
          | none => rw [hf] at hm; simp at hm
          | some f =>
            rw [hf] at hm
            have e : f.at σ = n.ty σ := by simpa using hm
            rw [← e]
            exact h.new j p n.slot f hj hdone hd hf
    | none =>
      rw [hsrc] at hs ho
      refine h.old _ _ (ho σ) fun j p hj hdone hd => ?_
      have := List.all_eq_true.1 hs p (List.mem_of_getElem? hj)
      simp only [hd, Nat.beq_refl, Bool.not_true, Bool.false_or] at this
      unfold waits at this
      obtain ⟨e, he0, hb⟩ := List.any_eq_true.1 this
      have he : e ∈ p.after := by simpa using he0
      simp only [Bool.and_eq_true] at hb
      have h3 := h.down j p hj hdone e he hb.2
      rw [Nat.eq_of_beq_eq_true hb.1] at h3
      rw [h3] at hun'
      cases hun'
  clear h1 h2
  intro k t hk
  unfold needS at hk
  induction needs with
  | nil => simp [needCtx, look] at hk
  | cons n needs ih =>
    simp only [List.map_cons] at hk
    unfold needCtx look at hk
    by_cases hb : Nat.beq n.slot k = true
    · have hb' : Nat.beq (n.at σ).slot k = true := hb
      rw [hb'] at hk
      have := Nat.eq_of_beq_eq_true hb
      subst this
      have h9 : some (n.at σ).ty = some t := by simpa using hk
      have e : n.ty σ = t := Option.some.inj h9
      rw [← e]
      exact key n (List.mem_cons_self ..)
    · rw [Bool.not_eq_true] at hb
      have hb' : Nat.beq (n.at σ).slot k = false := hb
      rw [hb'] at hk
      exact ih (fun m hm => key m (List.mem_cons_of_mem _ hm)) hk
theorem DJT.step {done : Array Bool} {a : Act} {w w' : World} {S S' : SH} {σ σ' : Nat → OI} (h : DJT E G L ts Ss es done a w S σ) {i : Nat} {o : Oper} {p0 : TS} {v : Value} {C : Nat → Prop} (hi : L[i]? = some o)
    (hdN : ∀ d, o.dst = some d → d < E.N.n) (hs2 : ∀ d, o.dst = some d → ∀ j p, L[j]? = some p → done.getD j false = true → p.dst = some d → i = j)
    (hwait : ∀ e ∈ o.after, Region.binds .any e = true → done.getD e.on false = true) (ht : ts[i]? = some p0) (hun : done.getD i true = false) (hdep : ∀ k ∈ p0.1, k = i ∨ done.getD k false = true)
    (hext : Ext C w S w' S') (hC : ∀ b, C b → E.base ≤ b ∨ E.B b) (hsat : Sat w' S') (hown : Own E.base E.B w' S' (OmT Ss (dnE es (done.setIfInBounds i true)) σ')) (hσ : ∀ k, k ≠ i → σ' k = σ k) (hv : (p0.at σ').p S' v) :
    DJT E G L ts Ss es (done.setIfInBounds i true) (a.put o.dst v) w' S' σ' := by
  have hlt : i < done.size := by rw [h.dsz]; exact (List.getElem?_eq_some_iff.1 hi).1
  have hset : ∀ j, (done.setIfInBounds i true).getD j false = true → j = i ∨ done.getD j false = true := fun j hj => by
    by_cases hij : i = j
    · exact .inl hij.symm
    · rw [getD_set_ne false hij] at hj; exact .inr hj
  have hseti : (done.setIfInBounds i true).getD i false = true := by simp [hlt]
  have hun' : done.getD i false = false := by simp [hlt] at hun ⊢; exact hun
  have hput : ∀ k, (∀ d, o.dst = some d → d ≠ k) → (a.put o.dst v).tmps.getD k undef = a.tmps.getD k undef := fun k hk => by
    cases hd : o.dst with
    | none => rfl
    | some d =>
      have hda : d < a.tmps.size := by rw [h.size]; exact hdN d hd
      rw [put_get hda, if_neg (hk d hd)]
  refine ⟨h.ext.step hext hC, hsat, hown, ?_, ?_, by simp [h.dsz], fun j p hj hdone e he hb => ?_, fun k u hk hno => ?_, fun j p d' u hj hdone hd' hu => ?_, fun j u hj hu k hk => ?_⟩
  · cases o.dst with
    | none => exact h.size
    | some d => simp [Act.put, h.size]
  · cases o.dst with
    | none => exact h.defers
    | some d => exact h.defers
  · rcases hset j hdone with rfl | hj'
    · rw [hi] at hj
      have : o = p := by simpa using hj
      subst this
      exact getD_set_true (hwait e he hb)
    · exact getD_set_true (h.down j p hj hj' e he hb)
  · rw [hput k fun d hd e => hno i o hi hseti (by rw [hd, e])]
    exact u.mono hext.keep (h.old k u hk fun j p hj hdone => hno j p hj (getD_set_true hdone))
  · by_cases hij : j = i
    · subst hij
      rw [hi] at hj
      have : o = p := by simpa using hj
      subst this
      have hda : d' < a.tmps.size := by rw [h.size]; exact hdN d' hd'
      rw [hd', put_get hda, if_pos rfl]
      rw [ht] at hu
      have : p0 = u := by simpa using hu
      subst this
      exact hv
    · have hj' := (hset j hdone).resolve_left hij
      rw [hput d' fun d hd e => by subst e; exact hij (hs2 d hd j p hj hj' hd').symm]
      have e1 : u.at σ' = u.at σ := congrArg u.2 (List.map_congr_left fun k hk => hσ k fun e => by
          subst e
          rw [h.deps j u hj' hu k hk] at hun'; cases hun')
      rw [e1]
      exact Ty.mono _ hext.keep (h.new j p d' u hj hj' hd' hu)
  · rcases hset j hj with rfl | hj'
    · rw [ht] at hu
      have : p0 = u := by simpa using hu
      subst this
      rcases hdep k hk with rfl | h'
      · exact hseti
      · exact getD_set_true h'
    · exact getD_set_true (h.deps j u hj' hu k hk)
end
theorem wpAny_drawU {E : En} {G : Ctx} {l t : List Oper} {ts : List TS} {Ss : SsT} {es : List Bool} {Q : Exit → Act → World → Prop} (hsl : slots0 E.N.n [] l = true) (hlen : ts.length = l.length) (hesl : es.length = l.length)
    (hd : DT E G (l ++ t) ts Ss es 0 l es) (ht : tailB (l ++ t) l.length t.length = true)
    (hQ : ∀ a w S σ, St E (OmT Ss (effs es) σ) (outF l (tsS ts σ) G) a w S → wpListIn (fw E.r) 0 E.P (l ++ t).toArray Q t a w) :
    ∀ (fuel : Nat) (done : Array Bool) (a : Act) (w : World) (S : SH) (σ : Nat → OI), undone done = fuel → (∀ j, l.length ≤ j → done.getD j false = false) → DJT E G (l ++ t) ts Ss es done a w S σ → wpAnyIn (fw E.r) 0 E.P .any (l ++ t).toArray Q fuel done a w := by
  have hL1 : ∀ i o, i < l.length → (l ++ t)[i]? = some o → l[i]? = some o := fun i o hi h => by rwa [List.getElem?_append_left hi] at h
  have hL2 : ∀ i o, l[i]? = some o → (l ++ t)[i]? = some o := fun i o h => by rw [List.getElem?_append_left (List.getElem?_eq_some_iff.1 h).1]; exact h
  have htail : ∀ m o, l.length ≤ m → (l ++ t)[m]? = some o → coverB (l ++ t) m = true ∧ edgesB m o = true := fun m o hm ho => by
    have hml : m < (l ++ t).length := (List.getElem?_eq_some_iff.1 ho).1
    rw [List.length_append] at hml
    unfold tailB at ht
    have := List.all_eq_true.1 ht (m - l.length) (by simp; omega)
    rw [show l.length + (m - l.length) = m from by omega, ho] at this
    simp only [Bool.and_eq_true] at this
    exact ⟨this.1, this.2.1⟩
  have hget := fun i o (hi : l[i]? = some o) => DT.get l es 0 hd i o hi
  have hedge : ∀ i o, (l ++ t)[i]? = some o → edgesB i o = true := fun i o hi => by
    rcases Nat.lt_or_ge i l.length with h | h
    · obtain ⟨_, _, _, _, _, _, _, h, _⟩ := hget i o (hL1 i o h hi)
      simpa using h
    · exact (htail i o h hi).2
  obtain ⟨hs1, hs2⟩ := slots0_spec l [] hsl
  have fin : ∀ fuel done a w S σ, undone done = fuel → (∀ j, l.length ≤ j → done.getD j false = false) → DJT E G (l ++ t) ts Ss es done a w S σ → (∀ i, i < l.length → done.getD i false = true) → wpAnyIn (fw E.r) 0 E.P .any (l ++ t).toArray Q fuel done a w := by
    intro fuel done a w S σ hu hfree h hall
    have hdn : dnE es done = effs es := by
      unfold dnE effs
      refine List.filter_congr fun k hk => ?_
      rw [hall k (by rw [← hesl]; exact List.mem_range.1 hk), Bool.and_true]
    have hown := h.own
    rw [hdn] at hown
    refine wpAny_tail (n := l.length) (fun m o hm ho => (htail m o hm ho).1) hedge t l.length done fuel a w (Nat.le_refl _) (by simp) h.dsz (fun j hj => ⟨fun hjd => ?_, fun hlt => hall j hlt⟩) hu
      (hQ a w S σ ⟨h.ext, h.sat, hown, h.size, h.defers, fun j u hj => ?_⟩)
    · rcases Nat.lt_or_ge j l.length with h' | h'
      · exact h'
      · rw [hfree j h'] at hjd; cases hjd
    · rcases look_outF l (tsS ts σ) j u (by unfold tsS; rw [List.length_map]; exact hlen) hj with ⟨i, o, h1, h2, h3⟩ | ⟨h1, h2⟩
      · unfold tsS at h3
        rw [List.getElem?_map] at h3
        cases hf : ts[i]? with
        | none => rw [hf] at h3; simp at h3
        | some f =>
          rw [hf] at h3
          have e : f.at σ = u := by simpa using h3
          rw [← e]
          exact h.new i o j f (hL2 i o h1) (hall i (List.getElem?_eq_some_iff.1 h1).1) h2 hf
      · refine h.old j u h1 fun i o ho hdn => ?_
        rcases Nat.lt_or_ge i l.length with h' | h'
        · exact h2 o (List.mem_of_getElem? (hL1 i o h' ho))
        · rw [hfree i h'] at hdn; cases hdn
  have lower : ∀ done a w S σ i, (∀ j, l.length ≤ j → done.getD j false = false) → DJT E G (l ++ t) ts Ss es done a w S σ → i ∈ Region.ready .any (l ++ t).toArray done → l.length ≤ i → ∀ j, j < l.length → done.getD j false = true := by
    intro done a w S σ i hfree h hi hge j hj
    obtain ⟨hun, p, hp, hwait⟩ := mem_ready.1 hi
    have hp' : (l ++ t)[i]? = some p := by simpa using hp
    have hcov := (htail i p hge hp').1
    unfold coverB at hcov
    have hre := List.all_eq_true.1 hcov j (by simp; omega)
    exact reaches_done h.down _ i j (fun q hq e he hb => by
      have : q = p := by rw [hp'] at hq; simpa using hq.symm
      subst this
      exact hwait e he hb) hre
  intro fuel
  induction fuel with
  | zero =>
    intro done a w S σ hu hfree h
    exact fin 0 done a w S σ hu hfree h fun i hi => undone_zero hu (by rw [h.dsz, List.length_append]; omega)
  | succ fuel ih =>
    intro done a w S σ hu hfree h
    by_cases hall : ∀ i, i < l.length → done.getD i false = true
    · exact fin _ done a w S σ hu hfree h hall
    have hready0 : ∀ m i, i < m → i < l.length → Region.ready .any (l ++ t).toArray done = [] → done.getD i false = true := by
      intro m
      induction m with
      | zero => intro i h; omega
      | succ m ihm =>
        intro i him hil hr
        have his : i < done.size := by rw [h.dsz, List.length_append]; omega
        by_cases hdn : done.getD i true = true
        · rw [← getD_flip his]; exact hdn
        · exfalso
          obtain ⟨o, ho⟩ : ∃ o, (l ++ t)[i]? = some o := ⟨l[i], hL2 i _ (List.getElem?_eq_getElem hil)⟩
          have hmem : i ∈ Region.ready .any (l ++ t).toArray done := by
            rw [mem_ready]
            refine ⟨by simpa using hdn, o, by simpa using ho, fun e he hb => ?_⟩
            have := hedge i o ho
            unfold edgesB at this
            have := List.all_eq_true.1 this e (by simpa using he)
            simp only [hb, Bool.not_true, Bool.false_or, Nat.blt_eq] at this
            exact ihm e.on (by omega) (by omega) hr
          rw [hr] at hmem; cases hmem
    refine ⟨fun hr => absurd (fun i hi => hready0 (i + 1) i (by omega) hi hr) hall, fun i hi => ?_⟩
    have hil : i < l.length := by
      rcases Nat.lt_or_ge i l.length with h' | h'
      · exact h'
      · exact absurd (lower done a w S σ i hfree h hi h') hall
    obtain ⟨hun, o, ho, hwait⟩ := mem_ready.1 hi
    have ho' : (l ++ t)[i]? = some o := by simpa using ho
    have hol := hL1 i o hil ho'
    obtain ⟨e, he, needs, u, h1, h2, h3, _, h4, h5⟩ := hget i o hol
    rw [Nat.zero_add] at h1 h3 h4
    have hF := h.need ho' hun hwait h2 h3
    have his : i < done.size := by rw [h.dsz, List.length_append]; omega
    have hun' : done.getD i false = false := by rw [← getD_flip his]; exact hun
    have hu' : undone (done.setIfInBounds i true) = fuel := by have := undone_set hun; omega
    have huq : ∀ d, o.dst = some d → ∀ j p, (l ++ t)[j]? = some p → done.getD j false = true → p.dst = some d → i = j := fun d hdd j p hj hjd hpd => by
      rcases Nat.lt_or_ge j l.length with h' | h'
      · exact hs2 i j o p d hol (hL1 j p h' hj) hdd hpd
      · rw [hfree j h'] at hjd; cases hjd
    have hfree' : ∀ j, l.length ≤ j → (done.setIfInBounds i true).getD j false = false := fun j hj => by
      rw [getD_set_ne false (by omega)]; exact hfree j hj
    have hbl : E.base ≤ w.heap.size := h.ext.size
    have hwaits : ∀ q, (l ++ t)[i]? = some q → ∀ e ∈ q.after, Region.binds .any e = true → done.getD e.on false = true := fun q hq e he hb => by
      have : q = o := by rw [ho'] at hq; simpa using hq.symm
      subst this
      exact hwait e he hb
    have hdpp : ∀ k ∈ u.1, k = i ∨ done.getD k false = true := fun k hk => by
      have := List.all_eq_true.1 h4 k hk
      simp only [Bool.and_eq_true, Bool.or_eq_true] at this
      rcases this.2 with hb | hb
      · exact .inl (Nat.eq_of_beq_eq_true hb)
      · exact .inr (reaches_done h.down _ i k hwaits hb)
    have hdNN : ∀ d, o.dst = some d → d < E.N.n := fun d hd => (hs1 o (List.mem_of_getElem? hol) d hd).1
    unfold wpOpIn
    rw [ho]
    show if _ then _ else _
    -- just these effects stand
    have hpos : noE (l ++ t) es i (dnE es done) = false := by
      rw [Bool.eq_false_iff]
      intro hno
      unfold noE at hno
      rw [Bool.or_eq_true] at hno
      rcases hno with hc | hc
      · have := (mem_dnE.1 (List.contains_iff_mem.1 hc)).2
        rw [this] at hun'; cases hun'
      · obtain ⟨k, hk1, hk2⟩ := List.any_eq_true.1 hc
        have hke : es[k]? = some true := by
          unfold effs at hk1
          rw [List.mem_filter, List.mem_range] at hk1
          have h7 := hk1.2
          rw [List.getElem?_eq_getElem hk1.1] at h7 ⊢
          simpa using h7
        by_cases hin : (dnE es done).contains k = true
        · rw [if_pos hin, Bool.or_eq_true] at hk2
          have hkd := (mem_dnE.1 (List.contains_iff_mem.1 hin)).2
          rcases hk2 with hb | hb
          · have := reaches_done h.down _ k i (fun q hq e he hb => h.down k q hq hkd e he hb) hb
            rw [this] at hun'; cases hun'
          · obtain ⟨j, hj1, hj2⟩ := List.any_eq_true.1 hb
            rw [Bool.and_eq_true, Bool.not_eq_true'] at hj2
            have hje : es[j]? = some true := by
              unfold effs at hj1
              rw [List.mem_filter, List.mem_range] at hj1
              have h7 := hj1.2
              rw [List.getElem?_eq_getElem hj1.1] at h7 ⊢
              simpa using h7
            have hjd := reaches_done h.down _ k j (fun q hq e he hb => h.down k q hq hkd e he hb) hj2.2
            have := List.contains_iff_mem.2 (mem_dnE.2 ⟨hje, hjd⟩)
            rw [hj2.1] at this; cases this
        · rw [if_neg hin] at hk2
          have hkd := reaches_done h.down _ i k hwaits hk2
          exact hin (List.contains_iff_mem.2 (mem_dnE.2 ⟨hke, hkd⟩))
    have hwin : ∀ aas : List (List Nat), winT (l ++ t) es i aas = true → dnE es done ∈ aas := by
      intro aas hw
      unfold winT at hw
      have := List.all_eq_true.1 hw _ (dnE_subs es done)
      rw [hpos, Bool.false_or] at this
      obtain ⟨b, hb1, hb2⟩ := List.any_eq_true.1 this
      rw [← eqL_eq hb2]; exact hb1
    cases e with
    | false =>
      simp only at h5
      obtain ⟨hdS, aas, hw, h5⟩ := h5
      rw [Nat.zero_add] at hw
      obtain ⟨d, hdd⟩ := Option.isSome_iff_exists.1 hdS
      have h6 := h5.mem _ (hwin aas hw) σ a w S h.sat h.own hF
      have hdq := dnE_quiet (done := done) he
      by_cases hw : Region.wanted o (yielded (l ++ t).toArray a.tmps) = true
      · rw [if_pos hw] at h6 ⊢
        refine wpIn_of_opWp (fun a' w' ⟨v, S', ha, hx, hs, hv⟩ => ?_) h6
        subst ha
        exact ih _ _ _ S' _ hu' hfree' (h.step ho' hdNN huq hwait h1 hun hdpp hx (fun _ hb => hb.elim) hs (by rw [hdq]; exact h.own.ext0 hx) (fun _ _ => rfl) hv)
      · rw [if_neg hw] at h6 ⊢
        exact ⟨fun _ _ => trivial, ih _ _ _ S _ hu' hfree' (h.step ho' hdNN huq hwait h1 hun hdpp (Ext.refl noB _ _) (fun _ hb => hb.elim) h.sat (by rw [hdq]; exact h.own) (fun _ _ => rfl) h6)⟩
    | true =>
      simp only [Nat.zero_add] at h5
      obtain ⟨aas, hw, hins, h5⟩ := h5
      obtain ⟨p, hp1, hp2⟩ := List.mem_map.1 (hwin _ hw)
      have hp3 := eqL_eq (List.all_eq_true.1 hins p hp1)
      have h6 := h5.mem p hp1 σ a w S h.sat (by rw [hp2]; exact h.own) hF hbl
      have hdq : dnE es (done.setIfInBounds i true) = p.2 := by rw [dnE_eff he his, ← hp2, hp3]
      by_cases hw : Region.wanted o (yielded (l ++ t).toArray a.tmps) = true
      · rw [if_pos hw] at h6 ⊢
        refine wpIn_of_opWp (fun a' w' ⟨v, S', x, ha, hx, hs, hown, hv⟩ => ?_) h6
        subst ha
        exact ih _ _ _ S' _ hu' hfree' (h.step ho' hdNN huq hwait h1 hun hdpp hx (fun b ⟨f, hf, hb⟩ => (Own.mem h.own f (by rw [← hp2]; exact hf)).2 b hb) hs (by rw [hdq]; exact hown) (fun k hk => upd_ne σ x hk) hv)
      · rw [if_neg hw] at h6 ⊢
        obtain ⟨x, hown, hv⟩ := h6
        exact ⟨fun _ _ => trivial, ih _ _ _ S _ hu' hfree' (h.step ho' hdNN huq hwait h1 hun hdpp (Ext.refl noB _ _) (fun _ hb => hb.elim) h.sat (by rw [hdq]; exact hown) (fun k hk => upd_ne σ x hk) hv)⟩
theorem CG.drawU {E : En} {O : List OE} {G : Ctx} {Q : Exit → Act → World → Prop} {id : Nat} {L : List Oper} (m : Nat) (ts : List TS) (es : List Bool) (Ss : SsT) (hO : ∀ σ, OmT Ss [] σ = O) (hm : E.P.follows .mixedOrders = true) (hsl : slots0 E.N.n [] (L.take m) = true) (hlen : ts.length = (L.take m).length) (hesl : es.length = (L.take m).length)
    (ht : tailB L (L.take m).length (L.drop m).length = true)
    (hd : DT E G L ts Ss es 0 (L.take m) es) (k : ∀ σ : Nat → OI, RG E L.toArray Q (L.drop m) (OmT Ss (effs es) σ) (outF (L.take m) (tsS ts σ) G)) : CG E Q (.region id L.toArray true) O G := fun a w S st => by
  have hL : L = L.take m ++ L.drop m := (List.take_append_drop m L).symm
  generalize L.take m = l at hL hsl hlen hesl ht hd k
  generalize L.drop m = t at hL ht k
  subst hL
  refine wpIn_region_any hm ?_
  obtain ⟨he, hs⟩ := Ext.draw (w := w) st.sat
  have hdn0 : dnE es (Array.replicate (l ++ t).toArray.size false) = [] := by
    unfold dnE
    refine List.filter_eq_nil_iff.2 fun k hk => ?_
    simp [Array.getElem?_replicate]
    intro _
    split <;> simp
  refine wpAny_drawU hsl hlen hesl hd ht (fun a w S σ st => k σ a w S st) _ _ _ _ S (fun _ => zoi) ?_ (fun j _ => ?_)
    ⟨st.ext.step0 he, hs, by rw [hdn0, hO]; exact st.own.ext0 he, st.facts.size, st.facts.defers, by simp, fun j o hj hdone => ?_, fun k t hk _ => st.facts.at_ k t hk, fun j o d t hj hdone => ?_, fun j p hdone => ?_⟩
  · unfold undone; rw [Array.toList_replicate, List.countP_replicate]; simp
  · simp [Array.getElem?_replicate]; split <;> rfl
  · simp [Array.getElem?_replicate] at hdone
    split at hdone <;> simp at hdone
  · simp [Array.getElem?_replicate] at hdone
    split at hdone <;> simp at hdone
  · simp [Array.getElem?_replicate] at hdone
    split at hdone <;> simp at hdone
end Go.Proofs.YtdhledkpgaeoaaaDoor

namespace Go.Proofs.YtdhledkpgaeoaaaDoor
open Go

theorem Own.perm {base : Nat} {B : Nat → Prop} {w : World} {S : SH} {O O' : List OE} (h : O.Perm O') : Own base B w S O → Own base B w S O' := by
  induction h with
  | nil => exact id
  | cons x p ih =>
    rintro ⟨h1, h2, h3⟩
    exact ⟨h1, fun f hf => h2 f (p.mem_iff.2 hf), ih h3⟩
  | swap x y l =>
    rintro ⟨h1, h2, h3, h4, h5⟩
    refine ⟨h3, fun f hf k hk hfk => ?_, h1, fun f hf => h2 f (List.mem_cons_of_mem _ hf), h5⟩
    rcases List.mem_cons.1 hf with rfl | hf
    · exact h2 x (List.mem_cons_self ..) k hfk hk
    · exact h4 f hf k hk hfk
  | trans _ _ ih1 ih2 => exact fun k => ih2 (ih1 k)
def pickO (O : List OE) : List Nat → List OE
  | [] => []
  | i :: l => match O[i]? with
    | some e => e :: pickO O l
    | none => pickO O l
theorem pickO_append (O : List OE) : ∀ a b : List Nat, pickO O (a ++ b) = pickO O a ++ pickO O b
  | [], _ => rfl
  | i :: a, b => by
    simp only [List.cons_append, pickO]
    split <;> simp [pickO_append O a b]
theorem pickO_perm {O : List OE} {a b : List Nat} (h : a.Perm b) : (pickO O a).Perm (pickO O b) := by
  induction h with
  | nil => exact .nil
  | cons x p ih =>
    simp only [pickO]
    split
    · exact .cons _ ih
    · exact ih
  | swap x y l =>
    simp only [pickO]
    cases hx : O[x]? <;> cases hy : O[y]? <;> simp <;> exact .swap ..
  | trans _ _ ih1 ih2 => exact ih1.trans ih2
theorem pickO_range (O : List OE) : pickO O (List.range O.length) = O := by
  have key : ∀ n, n ≤ O.length → pickO O (List.range n) = O.take n := by
    intro n
    induction n with
    | zero => intro _; rfl
    | succ n ih =>
      intro h
      rw [List.range_succ, pickO_append, ih (by omega)]
      simp only [pickO]
      rw [List.getElem?_eq_getElem (by omega), List.take_succ_eq_append_getElem (by omega)]
  rw [key _ (Nat.le_refl _), List.take_length]
theorem Own.pick {base : Nat} {B : Nat → Prop} {w : World} {S : SH} {O : List OE} (l : List Nat) (hl : l.isPerm (List.range O.length) = true) (h : Own base B w S O) : Own base B w S (pickO O l) :=
  h.perm (by
    have := pickO_perm (O := O) (List.isPerm_iff.1 hl)
    rw [pickO_range] at this
    exact this.symm)
end Go.Proofs.YtdhledkpgaeoaaaDoor

namespace Go.Proofs.YtdhledkpgaeoaaaDoor
open Go

section
variable {E : En} {O : List OE} {G : Ctx} {Q : Exit → Act → World → Prop} {ops : Array Oper} {rest : List Oper}
section
variable {dst : Option Tmp} {ty : TypeId} {pos : String} {after : Array Edge} {g : Option (Nat × Bool)}
end
theorem ok_nilE {dst : Option Tmp} {ty : TypeId} {pos : String} {after : Array Edge} {g : Option (Nat × Bool)} {α : Type} {mm : Bool} {r : Rp α} {U : TypeId} {l : Option Nat} {cap o : Nat} {xs : List α} {y : α} {j : Int} {p : Operand} (hm : arrM mm r U l cap xs ∈ O) (hy : idx xs j = some y) (hp : HasTy E.N G p (tV (eptr l o))) :
    OpOK E O G ⟨dst, .nilCheck p, ty, pos, after, g⟩ (tV (eptr l o)) :=
  .of_pure fun a w S _ ho hF => by
    have h1 : a.eval p = eptr l o := hp S a hF
    obtain ⟨_, hy'⟩ := idx_some hy
    obtain ⟨b, cur, rfl, _⟩ := raw_part (ho.mem _ hm).1 hy'
    exact ⟨eptr (some b) o, by simp [execOp, h1, eptr, bptr], rfl⟩
end
end Go.Proofs.YtdhledkpgaeoaaaDoor

namespace Go.Proofs.YtdhledkpgaeoaaaDoor
open Go

def ltF {α : Type} (cmp : α × α → Option Int) (x y : α) : Bool :=
  match cmp (x, y) with
  | some c => decide (c < 0)
  | none => false
structure Good {α : Type} (cmp : α × α → Option Int) (xs : List α) : Prop where
  len : xs.length ≤ 1099511627776
  tot : ∀ x ∈ xs, ∀ y ∈ xs, (cmp (x, y)).isSome = true
  irr : ∀ x ∈ xs, ltF cmp x x = false
  tr : ∀ x ∈ xs, ∀ y ∈ xs, ∀ z ∈ xs, ltF cmp x y = true → ltF cmp y z = true → ltF cmp x z = true
  anti : ∀ x ∈ xs, ∀ y ∈ xs, ltF cmp x y = false → ltF cmp y x = false → x = y
def sortI (xs : List Int) : List Int := xs.mergeSort fun x y => decide (x ≤ y)
theorem sortI_len (xs : List Int) : (sortI xs).length = xs.length := by unfold sortI; simp
def sortIF (xs : List Int) : Option (List Int) := if xs.length ≤ 68719476736 then some (sortI xs) else none
theorem sortIF_some {xs ys : List Int} (h : sortIF xs = some ys) : xs.length ≤ 68719476736 ∧ ys = sortI xs := by
  unfold sortIF at h
  split at h
  · exact ⟨by assumption, by simpa using h.symm⟩
  · cases h
end Go.Proofs.YtdhledkpgaeoaaaDoor

namespace Go.Proofs.YtdhledkpgaeoaaaDoor
open Go Go.Sort Go.Shelf

structure Elt {α : Type} (r : Rp α) (S : SH) (XS : List α) : Type where
  v : Value
  x : α
  h : r.rc S [v] x
  m : x ∈ XS
theorem heap_grow_lt {w : World} {os : Array Obj} {k : Nat} (h : k < w.heap.size) : (grow w os).heap[k]? = w.heap[k]? := by
  unfold grow; exact Array.getElem?_append_left h
theorem heap_putRow {α : Type} [Inhabited α] {enc : α → Value} {w : World} {b off : Nat} {d : Array α} {k : Nat} (h : k ≠ b) : (putRow enc w b off d).heap[k]? = w.heap[k]? := by
  unfold putRow mapBlock
  rw [Array.getElem?_modify, if_neg (Ne.symm h)]
theorem heap_sort_ne {α : Type} [Inhabited α] {enc : α → Value} {w : World} {b off m : Nat} {d : Array α} {os : Array Obj} {k : Nat} (hk : k < w.heap.size) (h : k ≠ b) : (sortWorld enc w b off m d os).heap[k]? = w.heap[k]? := by
  unfold sortWorld
  rw [heap_grow_lt (by rw [size_putRow]; exact hk), heap_putRow h]; rfl
theorem heap_sort_eq {α : Type} [Inhabited α] {enc : α → Value} {w : World} {b off m : Nat} {d : Array α} {os : Array Obj} {c : Array Value} {T : TypeId} {fr : Nat × Nat} (h : w.heap[b]? = some (.cells c T fr)) :
    (sortWorld enc w b off m d os).heap[b]? = some (.cells (putCells enc off d c) T fr) := by
  have hlt := (Array.getElem?_eq_some_iff.1 h).1
  unfold sortWorld
  rw [heap_grow_lt (by rw [size_putRow]; exact hlt)]
  unfold putRow mapBlock
  rw [Array.getElem?_modify, if_pos rfl]
  show Option.map _ (w.heap[b]?) = _
  rw [h]; rfl
theorem putCells_take {α : Type} [Inhabited α] {enc : α → Value} {d : Array α} {c : Array Value} (h : d.size ≤ c.size) : (putCells enc 0 d c).toList.take d.size = d.toList.map enc := by
  apply List.ext_getElem?
  intro k
  by_cases hk : k < d.size
  · rw [List.getElem?_take_of_lt hk]
    have hc : k < c.size := by omega
    simp [putCells, hc, hk]
  · rw [List.getElem?_eq_none (by simp; omega), List.getElem?_eq_none (by simp; omega)]
section
variable {E : En} {O : List OE} {G : Ctx} {Q : Exit → Act → World → Prop} {ops : Array Oper} {rest : List Oper} {d : Nat} {ty : TypeId} {pos : String} {after : Array Edge}
theorem RG.relen {n m : Nat} {l : Option Nat} {cap : Nat} (hl : m = n) (s : Nat) (hs : look G s = some (tV (oslV l cap n))) (k : RG E ops Q rest O ((s, tV (oslV l cap m)) :: G)) : RG E ops Q rest O G := by
  subst hl
  exact fun a w S st => k a w S ⟨st.ext, st.sat, st.own, ⟨st.facts.size, st.facts.defers, fun j t h => by
    unfold look at h
    by_cases hb : Nat.beq s j = true
    · rw [hb] at h
      have := Nat.eq_of_beq_eq_true hb
      subst this
      have e : tV (oslV l cap m) = t := by simpa using h
      rw [← e]; exact st.facts.at_ s _ hs
    · rw [Bool.not_eq_true] at hb
      rw [hb] at h
      exact st.facts.at_ j t h⟩⟩
end
end Go.Proofs.YtdhledkpgaeoaaaDoor

namespace Go.Proofs.YtdhledkpgaeoaaaDoor
open Go Go.Sort Go.Shelf

theorem rcs_int {k : IntKind} {S : SH} : ∀ {xs : List Int} {cs : List Value}, rcs (rI k) S cs xs → cs = xs.map (Value.int k)
  | [], cs, h => by rw [show cs = [] from h]; rfl
  | x :: xs, cs, ⟨a, b, e, h1, h2⟩ => by
    rw [e, show a = [.int k x] from h1, rcs_int h2]
    rfl
theorem int_rcs {k : IntKind} {S : SH} : ∀ xs : List Int, rcs (rI k) S (xs.map (Value.int k)) xs
  | [] => rfl
  | x :: xs => ⟨[.int k x], _, rfl, rfl, int_rcs xs⟩
theorem sortI_arr {P : Program} {ρ : Ren} (L : Lays.n189 P ρ) {T : TypeId} {l : Option Nat} {cap : Nat} {xs : List Int} {w : World} {S : SH} (hlen0 : xs.length ≤ 68719476736) (hs : Sat w S) (h : (arr (rI .i64) T l cap xs).p w S) :
    Calls P (ρ.f 189) #[oslV l cap xs.length] w fun e w' => e = .returned (.tuple #[]) ∧ Ext (fun k => l = some k) w S w' S ∧ Sat w' S ∧ (arr (rI .i64) T l cap (sortI xs)).p w' S := by
  cases l with
  | none =>
    have hx : xs = [] := List.eq_nil_of_length_eq_zero (by obtain ⟨_, h4, _⟩ := h; exact h4.1)
    subst hx
    exact (Any.slices_Sort_int_none (P := P) (ρ := ρ) L none 0 w).mono fun _ _ ⟨h1, h2⟩ => by subst h2; exact ⟨h1, Ext.refl _ _ _, hs, by simpa [sortI] using h⟩
  | some b =>
    obtain ⟨cells0, ⟨cur, hb, hle, hmax, hcs, hct⟩, hrc, hno0⟩ := h
    have hno : S b = none := hno0 b rfl
    subst hct
    have h1 : (rI .i64).sz = 1 := rfl
    rw [h1, Nat.mul_one] at hcs hrc
    have hcells := rcs_int hrc
    have hH : Holds (Value.int .i64) w b 0 xs.toArray := by
      intro j hj
      have hj' : j < xs.length := by simpa using hj
      have hc : cur[j]? = some (Value.int .i64 xs.toArray[j]!) := by
        have : (cur.toList.take xs.length)[j]? = some (Value.int .i64 xs.toArray[j]!) := by
          rw [hcells, List.getElem?_map, getElem!_pos xs.toArray j hj]
          simp [hj']
        rw [List.getElem?_take_of_lt (by omega)] at this
        simpa using this
      refine ⟨by simp [World.cell?, hb, hc], ?_⟩
      simp [World.frozen?, hb]
    have hblk := (Array.getElem?_eq_some_iff.1 hb).1
    have hcall := calls_of_every_depth fun D => AnyS.slices_Sort_int_alone (P := P) (ρ := ρ) L D b 0 cap xs w hH hblk (by omega)
    refine hcall.mono fun e w' ⟨he, n, os, hw⟩ => ?_
    have hlen := sortI_len xs
    have hw2 : w' = sortWorld (Value.int .i64) w b 0 n (sortI xs).toArray os := hw
    subst hw2
    refine ⟨he, ⟨rfl, rfl, rfl, Nat.le_add_right _ _, ?_, fun k hk hkb => heap_sort_ne hk (fun e => hkb (by rw [e])), SH.le_refl _, fun _ _ _ => rfl⟩, hs.same fun k o hk => ?_, ⟨_, ⟨_, heap_sort_eq hb, by omega, hmax, ?_, rfl⟩, ?_, hno0⟩⟩
    · unfold sortWorld; rw [size_grow, size_putRow]; exact Nat.le_add_right _ _
    · have hkb : k ≠ b := fun e => by subst e; rw [hno] at hk; cases hk
      exact heap_sort_ne (hs.lt hk) hkb
    · simp [putCells, h1, hcs]
    · have e1 : (sortI xs).length * (rI .i64).sz = (sortI xs).toArray.size := by rw [h1]; simp
      rw [e1, putCells_take (by simp; omega)]
      exact int_rcs (sortI xs)
section
variable {E : En} {O : List OE} {G : Ctx} {Q : Exit → Act → World → Prop} {ops : Array Oper} {rest : List Oper} {d : Nat} {ty : TypeId} {pos : String} {after : Array Edge}
theorem RG.sortI {ρ : Ren} (L : Lays.n189 E.P ρ) {f : FuncId} (hf : ρ.f 189 = f) (hc : callableB E.P f = true) {T : TypeId} {l : Option Nat} {cap n : Nat} {xs ys : List Int} {x : Operand} {ats : Array TypeId} (hy : sortIF xs = some ys)
    (hx : HasTy E.N G x (tV (oslV l cap n))) (hn : n = xs.length) (hd : Nat.blt d E.N.n = true)
    (k : ys.length = n → RG E ops Q rest (arr (rI .i64) T l cap ys :: O) ((d, tAny) :: G)) : RG E ops Q (⟨some d, .call ⟨.value (.func f), #[x], ats⟩, ty, pos, after, none⟩ :: rest) (arr (rI .i64) T l cap xs :: O) G := .of rfl fun a w S st => by
  obtain ⟨hl0, rfl⟩ := sortIF_some hy
  subst hf
  subst hn
  have h1 : a.eval x = oslV l cap xs.length := hx S a st.facts
  have hr : (execOp a.eval ⟨some d, .call ⟨.value (.func (ρ.f 189)), #[x], ats⟩, ty, pos, after, none⟩).run E.P w = .ok (.enter (ρ.f 189) #[oslV l cap xs.length]) w := by
    have e0 : a.eval (.func (ρ.f 189)) = .func (.func (ρ.f 189)) #[] #[] := rfl
    simp [execOp, resolve, e0, h1, Deferred.ofValue, invoke, run_callFunc hc]
  refine ⟨fun c h => (by cases h), ?_⟩
  rw [hr]
  refine (sortI_arr L hl0 st.sat st.own.1.1).mono fun e w' ⟨he, hext, hsat, hp⟩ => ⟨_, he, ?_⟩
  have hfp : ∀ g ∈ O, ∀ b, g.fp b → ¬ (l = some b) := fun g hg b hb hl => st.own.2.1 g hg b hl hb
  refine k (sortI_len xs) _ _ S ⟨st.ext.step hext (fun c hc => st.own.1.2 c hc), hsat, ⟨⟨hp, st.own.1.2⟩, st.own.2.1, st.own.2.2.ext hext hfp⟩, ?_⟩
  exact (st.facts.mono hext.keep).put hd trivial
end
end Go.Proofs.YtdhledkpgaeoaaaDoor

namespace Go.Proofs.YtdhledkpgaeoaaaDoor
open Go Go.ChangeShapes Go.WideShapes Go.ChangeAt Go.RowKit

section
variable {H : Type} {enc : TypeId × Value → H} {P : Program}
def memS (W : World) : SH := fun b => W.heap[b]?
theorem sat_hS (W : World) (hg : ∀ p ∈ glob, ∃ c T fr, W.heap[p.1]? = some (.cells c T fr) ∧ c.toList.take p.2.length = p.2) : Sat W (memS W) := ⟨fun _ o h => ⟨o, h, ole_refl o⟩, hg⟩
def ToR (enc : TypeId × Value → H) (P : Program) (W : World) {α : Type} (t : TypeId) (r : Rp α) : Prop :=
  P.cellsOf t = r.sz ∧ ∀ fuel cs x, DataW.trod enc P W 0 (fun _ => true) true fuel t cs = some x → ∃ y, r.rc (memS W) cs y
theorem mapM_some {α β : Type} {f : α → Option β} : ∀ {l : List α} {r : List β}, l.mapM f = some r → r.length = l.length ∧ ∀ (i : Nat) (x : α), l[i]? = some x → ∃ y, r[i]? = some y ∧ f x = some y
  | [], r, h => by
    simp at h
    subst h
    exact ⟨rfl, fun i x hx => by simp at hx⟩
  | a :: l, r, h => by
    rw [List.mapM_cons] at h
    cases hf : f a with
    | none => rw [hf] at h; simp at h
    | some b =>
      rw [hf] at h
      cases hm : l.mapM f with
      | none => rw [hm] at h; simp at h
      | some r' =>
        rw [hm] at h
        simp at h
        subst h
        obtain ⟨h1, h2⟩ := mapM_some hm
        refine ⟨by simp [h1], fun i x hx => ?_⟩
        cases i with
        | zero => simp at hx; subst hx; exact ⟨b, rfl, hf⟩
        | succ i => exact h2 i x (by simpa using hx)
theorem cell_some {W : World} {a : Addr} {v : Value} (h : W.cell? a = some v) : a.spot = none ∧ ∃ c E fr, W.heap[a.block]? = some (.cells c E fr) ∧ c[a.off]? = some v := by
  unfold World.cell? at h
  cases ho : W.heap[a.block]? with
  | none => rw [ho] at h; cases h
  | some o =>
    rw [ho] at h
    cases o with
    | cells c E fr =>
      simp only at h
      by_cases hs : a.spot.isSome = true
      · rw [if_pos hs] at h; cases h
      · rw [if_neg hs] at h
        exact ⟨by cases hq : a.spot with
          | none => rfl
          | some s => rw [hq] at hs; simp at hs, c, E, fr, rfl, h⟩
    | _ => simp at h
theorem add_zero' (a : Addr) : a.add 0 = a := by unfold Addr.add; rfl
theorem cells_some {W : World} {b off n : Nat} {cs : List Value} (h : W.cells? 0 ⟨b, off, none⟩ n = some cs) (hn : 0 < n) : ∃ c E fr, W.heap[b]? = some (.cells c E fr) ∧ cs = (c.toList.drop off).take n := by
  unfold World.cells? at h
  rw [if_pos (Nat.zero_le _)] at h
  obtain ⟨h1, h2⟩ := mapM_some h
  obtain ⟨v, _, hv⟩ := h2 0 0 (by simp [hn])
  obtain ⟨_, c, E, fr, h3, h4⟩ := cell_some hv
  refine ⟨c, E, fr, by simpa [Addr.add] using h3, ?_⟩
  apply List.ext_getElem?
  intro i
  have hl : cs.length = n := by simpa using h1
  by_cases hi : i < n
  · obtain ⟨v, h5, h6⟩ := h2 i i (by simp [hi])
    obtain ⟨_, c', E', fr', h7, h8⟩ := cell_some h6
    rw [addr_add] at h7 h8
    have h7' : W.heap[b]? = some (.cells c' E' fr') := h7
    have h3' : W.heap[b]? = some (.cells c E fr) := by simpa [Addr.add] using h3
    rw [h3'] at h7'
    injection h7' with h7'
    injection h7' with e1
    subst e1
    rw [h5, List.getElem?_take_of_lt hi, List.getElem?_drop]
    simpa using h8.symm
  · rw [List.getElem?_eq_none (by omega), List.getElem?_eq_none (by simp; omega)]
theorem toR_elems {W : World} {α : Type} {e : TypeId} {q : Rp α} {n len cap : Nat} {a : Addr} {x : DataW H × List MemPlace} (h0' : 0 < q.sz) (hq : ToR enc P W e q)
    (hx : (let elemAt (i : Nat) : Option (DataW H × List MemPlace) := (W.cells? 0 (a.add (i * P.cellsOf e)) (P.cellsOf e)).bind (DataW.trod enc P W 0 (fun _ => true) true n e)
      if 0 ≤ a.block ∧ len ≤ cap ∧ cap ≤ maxLen then
        ((List.range len).mapM elemAt).bind fun elems =>
          (if (fun _ => true) a.block then (List.range (cap - len)).mapM fun j => elemAt (len + j) else some []).map fun rest =>
            (DataW.slice (elems.map (·.1)) (rest.map (·.1)), MemPlace.row a ((elems.length + rest.length) * P.cellsOf e) ++ (elems ++ rest).flatMap (·.2))
      else none) = some x) : ∃ y, (rSl q).rc (memS W) [.slice (some a) len cap] y := by
  simp only at hx
  split at hx
  · rename_i hcond
    obtain ⟨_, hle, hmax⟩ := hcond
    cases hm : (List.range len).mapM (fun i => (W.cells? 0 (a.add (i * P.cellsOf e)) (P.cellsOf e)).bind (DataW.trod enc P W 0 (fun _ => true) true n e)) with
    | none => rw [hm] at hx; simp at hx
    | some elems =>
      obtain ⟨hm1, hm2⟩ := mapM_some hm
      rw [hq.1] at hm2
      by_cases hl0 : len = 0
      · subst hl0; exact ⟨[], some a, cap, rfl, Nat.zero_le _, hmax, .inl rfl⟩
      have hsp0 : a.spot = none := by
        obtain ⟨z, _, hz⟩ := hm2 0 0 (by rw [List.getElem?_range (by omega)])
        rw [Nat.zero_mul, add_zero'] at hz
        cases hcs : W.cells? 0 a q.sz with
        | none => rw [hcs] at hz; simp at hz
        | some cs1 =>
          unfold World.cells? at hcs
          rw [if_pos (Nat.zero_le _)] at hcs
          obtain ⟨_, g2⟩ := mapM_some hcs
          obtain ⟨v, _, hv⟩ := g2 0 0 (by simp [h0'])
          rw [add_zero'] at hv
          exact (cell_some hv).1
      have hcell : ∀ i, i < len → ∃ c E fr, a.spot = none ∧ W.heap[a.block]? = some (.cells c E fr) ∧ ∃ y, q.rc (memS W) ((c.toList.drop (a.off + i * q.sz)).take q.sz) y := by
        intro i hi
        obtain ⟨z, _, hz⟩ := hm2 i i (by simp [hi])
        cases hcs : W.cells? 0 (a.add (i * q.sz)) q.sz with
        | none => rw [hcs] at hz; simp at hz
        | some cs1 =>
          rw [hcs] at hz
          have hsp : a.spot = none := hsp0
          obtain ⟨ab, ao, az⟩ := a
          simp only at hsp
          subst hsp
          rw [addr_add] at hcs
          obtain ⟨c, E, fr, g1, g2⟩ := cells_some hcs h0'
          obtain ⟨y, hy⟩ := hq.2 n cs1 z hz
          exact ⟨c, E, fr, rfl, g1, y, by rw [← g2]; exact hy⟩
      obtain ⟨c, E, fr, hsp, hb, _⟩ := hcell 0 (by omega)
      have key : ∀ m, m ≤ len → ∃ ys : List α, ys.length = m ∧ rcs q (memS W) ((c.toList.drop a.off).take (m * q.sz)) ys := by
        intro m
        induction m with
        | zero => intro _; exact ⟨[], rfl, by simp [rcs]⟩
        | succ m ih =>
          intro hm'
          obtain ⟨ys, hy1, hy2⟩ := ih (by omega)
          obtain ⟨c', E', fr', _, hb', y, hy⟩ := hcell m (by omega)
          rw [hb] at hb'
          injection hb' with hb'
          injection hb' with e1
          subst e1
          refine ⟨ys ++ [y], by simp [hy1], ?_⟩
          have hsplit : (c.toList.drop a.off).take ((m + 1) * q.sz) = (c.toList.drop a.off).take (m * q.sz) ++ (c.toList.drop (a.off + m * q.sz)).take q.sz := by
            rw [Nat.add_mul, Nat.one_mul, List.take_add, List.drop_drop]
          rw [hsplit]
          exact rcs_append hy2 (rcs_single.2 hy)
      obtain ⟨ys, hy1, hy2⟩ := key len (Nat.le_refl _)
      obtain ⟨ab, ao, az⟩ := a
      simp only at hsp
      subst hsp
      exact ⟨ys, some ⟨ab, ao, none⟩, cap, by rw [hy1], by omega, hmax, .inr ⟨ab, ao, c, E, fr, rfl, hb, by rw [hy1]; exact hy2⟩⟩
  · cases hx
theorem toR_slice {W : World} {α : Type} {t e : TypeId} {q : Rp α} (h : P.underlying t = some (.slice e)) (hc : P.cellsOf t = 1) (h0 : Nat.blt 0 q.sz = true) (hq : ToR enc P W e q) : ToR enc P W t (rSl q) := ⟨hc, fun fuel cs x hx => by
  have h0' : 0 < q.sz := by simpa [Nat.blt_eq] using h0
  cases fuel with
  | zero => simp [DataW.trod] at hx
  | succ n =>
    unfold DataW.trod at hx
    rw [h] at hx
    split at hx
    all_goals try (injections; done)
    · exact ⟨[], none, 0, rfl, Nat.le_refl _, Nat.zero_le _, .inl rfl⟩
    · rename_i e' a len cap heq
      injection heq with e1
      injection e1 with e1
      subst e1
      exact toR_elems h0' hq hx⟩
def FRep (enc : TypeId × Value → H) (P : Program) (W : World) {α : Type} (off : Nat) (l : List (TypeId × Nat)) (r : Rp α) : Prop :=
  ∀ (fuel : Nat) (cs : List Value), cs.length = off + r.sz → (∀ f ∈ l, ∃ x, DataW.trod enc P W 0 (fun _ => true) true fuel f.1 ((cs.drop f.2).take (P.cellsOf f.1)) = some x) → ∃ y, r.rc (memS W) (cs.drop off) y
theorem frep_one {W : World} {α : Type} {r : Rp α} {t off : Nat} (h : ToR enc P W t r) : FRep enc P W off [(t, off)] r := fun fuel cs hl hx => by
  obtain ⟨x, hx⟩ := hx _ (List.mem_singleton_self _)
  simp only at hx
  rw [h.1, List.take_of_length_le (by simp; omega)] at hx
  exact h.2 _ _ _ hx
theorem frep_cons {W : World} {α β : Type} {p : Rp α} {q : Rp β} {t off off' : Nat} {l : List (TypeId × Nat)} (h : ToR enc P W t p) (ho : off' = off + p.sz) (hr : FRep enc P W off' l q) : FRep enc P W off ((t, off) :: l) (rPair p q) := fun fuel cs hl hx => by
  subst ho
  obtain ⟨x, hx1⟩ := hx _ (List.mem_cons_self ..)
  simp only at hx1
  rw [h.1] at hx1
  obtain ⟨y, hy⟩ := h.2 _ _ _ hx1
  obtain ⟨z, hz⟩ := hr fuel cs (by rw [hl]; show off + (p.sz + q.sz) = _; omega) fun f hf => hx f (List.mem_cons_of_mem _ hf)
  exact ⟨(y, z), _, _, by rw [← List.drop_drop]; exact (List.take_append_drop _ _).symm, hy, hz⟩
theorem toR_struct {W : World} {α β : Type} {t : TypeId} {l : List (TypeId × Nat)} {p : Rp α} {f : β → α} (ht : (P.underlying t).map (fun d => match d with | .struct l => (true, l.toList.map fun f => (f.type, f.offset)) | _ => (false, [])) = some (true, l)) (hc : P.cellsOf t = p.sz) (hf : ∀ y, ∃ x, f x = y) (hl : FRep enc P W 0 l p) : ToR enc P W t (rMap p f) := ⟨hc, fun fuel cs x hx => by
  obtain ⟨fs, h1, h2⟩ : ∃ fs, P.underlying t = some (.struct fs) ∧ fs.toList.map (fun f => (f.type, f.offset)) = l := by
    cases hu : P.underlying t with
    | none => rw [hu] at ht; cases ht
    | some d =>
      rw [hu] at ht
      cases d <;> simp at ht
      exact ⟨_, rfl, ht⟩
  cases fuel with
  | zero => simp [DataW.trod] at hx
  | succ n =>
    unfold DataW.trod at hx
    rw [h1] at hx
    change (if cs.length = P.cellsOf t then (fs.toList.mapM fun f => DataW.trod enc P W 0 (fun _ => true) true n f.type ((cs.drop f.offset).take (P.cellsOf f.type))).map (fun xs => (DataW.agg (xs.map (·.1)), xs.flatMap (·.2))) else none) = some x at hx
    split at hx
    · rename_i hlen
      cases hm : fs.toList.mapM (fun f => DataW.trod enc P W 0 (fun _ => true) true n f.type ((cs.drop f.offset).take (P.cellsOf f.type))) with
      | none => rw [hm] at hx; simp at hx
      | some r =>
        obtain ⟨_, hm2⟩ := mapM_some hm
        obtain ⟨y, hy⟩ := hl n cs (by rw [hlen, hc]; omega) (fun g hg => by
          rw [← h2, List.mem_map] at hg
          obtain ⟨f0, hf0, rfl⟩ := hg
          obtain ⟨i, hi⟩ := List.getElem?_of_mem hf0
          obtain ⟨z, _, hz⟩ := hm2 i f0 hi
          exact ⟨z, hz⟩)
        obtain ⟨x', hx'⟩ := hf y
        refine ⟨x', ?_⟩
        show p.rc _ cs (f x')
        rw [hx']
        simpa using hy
    · cases hx⟩
theorem rep_of_trod {W : World} {α : Type} {t : TypeId} {r : Rp α} (h : ToR enc P W t r) (hag : r.agg = false) {v : Value} {d : DataW H} {ps : List MemPlace} (hv : DataW.Trod enc P W 0 (fun _ => true) true t v d ps) (hc : v.cells = #[v]) : ∃ y, (tD r y).p (memS W) v := by
  obtain ⟨fuel, hx⟩ := hv
  rw [hc] at hx
  obtain ⟨y, hy⟩ := h.2 _ _ _ hx
  exact ⟨y, _, by unfold Rp.val; rw [hag]; rfl, hy⟩

theorem cells_slice {W : World} {base : Nat} {t e : TypeId} {v : Value} (ht : P.underlying t = some (.slice e)) (hv : Value.okWide P W .any base t v) : v.cells = #[v] := by
  cases v <;> first | rfl | (simp [Value.okWide, ht, Cell.okWide, Cell.ok] at hv)
theorem below_of_ext {W W' : World} {S S' : SH} (h : Ext noB W S W' S') : Below W.heap.size W W' := ⟨h.os, h.tape, h.output, h.size, fun k hk => h.heap k hk (fun h => h)⟩
theorem trodAll_stays (hl : laidOutB P = true) {W W' : World} (hb : Below W.heap.size W W') {sp : Nat → Bool} : ∀ {ts : List TypeId} {vs : List Value} {ds : List (DataW H)} {ps : List MemPlace}, (∀ t ∈ ts, P.readableRec t = true ∧ t < P.types.size) →
    DataW.TrodAll enc P W 0 (fun _ => true) true ts vs ds ps → (∀ p ∈ ps, p.block < W.heap.size) → (∀ p ∈ ps, sp p.block = true) → DataW.TrodAll enc P W' 0 sp true ts vs ds ps
  | [], [], [], _, _, h, _, _ => h
  | t :: ts, v :: vs, d :: ds, _, hr, ⟨p, q, h1, h2, e⟩, hlt, hsp => by
    subst e
    have ht := hr t (List.mem_cons_self ..)
    exact ⟨p, q, WideElems.Trod_stays hl ht.1 ht.2 h1 (fun x hx => hb.same (hlt x (List.mem_append_left _ hx))) (fun x hx => hsp x (List.mem_append_left _ hx)),
      trodAll_stays hl hb (fun t ht => hr t (List.mem_cons_of_mem _ ht)) h2 (fun x hx => hlt x (List.mem_append_right _ hx)) (fun x hx => hsp x (List.mem_append_right _ hx)), rfl⟩
theorem law_post {f : Func} {s : ChangeSpec} {apart fresh handsOn again : Bool} {W W' : World} {args : Array Value} {ds gs : List (DataW H)} {before : List MemPlace} {tb : TypeId}
    (hl : laidOutB P = true) (hr : ∀ t ∈ f.params.toList, P.readableRec t = true ∧ t < P.types.size) (hvs : s.vars = []) (hres : f.resultTypes = #[tb]) (htb : P.underlying tb = some .bool)
    (hW : DataW.Whole enc P f.params.toList s.vars apart W args.toList ds gs before) (hs : s.fn H (ds ++ gs) = { results := [.lit (.bool true)], args := ds }) (hb : Below W.heap.size W W') :
    s.post enc P f apart fresh handsOn again W args (.bool true) W' := by
  have hW0 := hW
  have hlt := hW.lt
  obtain ⟨pa, pv, hA, hV, rfl, hz, hn⟩ := hW
  rw [hvs] at hV
  have hpv : pv = [] := by
    cases gs with
    | nil => exact hV
    | cons g gs => exact hV.elim
  subst hpv
  have hlt' : ∀ p ∈ pa, p.block < W.heap.size := fun p hp => hlt p (by simpa using hp)
  have hargs : ∀ sp : Nat → Bool, (∀ p ∈ pa, sp p.block = true) → DataW.TrodAll enc P W' 0 sp true f.params.toList args.toList ds pa := fun sp hsp => trodAll_stays hl hb hr hA hlt' hsp
  have hresT : ∀ (b : Nat) (sp : Nat → Bool) (hd : Bool), DataW.TrodAll enc P W' b sp hd f.resultTypes.toList ((Value.bool true).resultList f.resultTypes.size) [.lit (.bool true)] [] := fun b sp hd => by
    rw [hres]
    exact ⟨[], [], ⟨1, by simp [DataW.trod, htb, Value.cells]⟩, rfl, rfl⟩
  have hvT : ∀ sp : Nat → Bool, DataW.TrodVars enc P W' sp s.vars (s.fn H (ds ++ gs)).vars [] := fun sp => by
    rw [hvs, hs]; rfl
  have hargs' : ∀ sp : Nat → Bool, (∀ p ∈ pa, sp p.block = true) → DataW.TrodAll enc P W' 0 sp true f.params.toList args.toList (s.fn H (ds ++ gs)).args pa := fun sp hsp => by rw [hs]; exact hargs sp hsp
  have hres' : ∀ (b : Nat) (sp : Nat → Bool) (hd : Bool), DataW.TrodAll enc P W' b sp hd f.resultTypes.toList ((Value.bool true).resultList f.resultTypes.size) (s.fn H (ds ++ gs)).results [] := fun b sp hd => by rw [hs]; exact hresT b sp hd
  have hold : ∀ p ∈ pa, (fun b => decide (b < W.heap.size)) p.block = true := fun p hp => by simpa using hlt' p hp
  refine ⟨ds, gs, pa ++ [], [], pa, [], hW0, hres' _ _ _, hargs' _ hold, hvT _, World.keptBut_mono (fun p hp => ⟨hp, ?_⟩) (hb.frame _), fun _ => ?_⟩
  · right; simpa using hp
  · refine ⟨?_, _, _, ([] ++ pa) ++ [], ⟨[] ++ pa, [], trodAll_append (hargs' _ (fun _ _ => rfl)) (hres' _ _ _), hvT _, rfl, ?_, ?_⟩, ?_⟩
    · intro j t r h1 h2
      rw [hres] at h1 h2
      cases j with
      | zero =>
        simp [Value.resultList] at h1 h2
        subst h1 h2
        simp [Value.okWide, htb, Cell.okWide, Cell.ok]
      | succ j => simp at h1
    · intro b off hp
      have hp' : MemPlace.cell b off ∈ pa := by simpa using hp
      have := hlt' _ hp'
      rw [hb.frozen (p := ⟨b, off, none⟩) this]
      exact hz b off (by simpa using hp')
    · intro ha
      have := hn ha
      simpa using this
    · intro p hp _
      simpa using hp
end
end Go.Proofs.YtdhledkpgaeoaaaDoor

namespace Go.Proofs.YtdhledkpgaeoaaaDoor
open Go Go.ChangeShapes Go.WideShapes Go.ChangeAt Go.RowKit

section
variable {H : Type} {enc : TypeId × Value → H} {P : Program}
def rOk {α : Type} (r : Rp α) (ok : α → Prop) : Rp α where
  sz := r.sz
  agg := r.agg
  rc := fun S cs x => r.rc S cs x ∧ ok x
  mono := fun h k => ⟨r.mono h k.1, k.2⟩
  len := fun k => r.len k.1
  one := fun k => r.one k.1
  sc := r.sc
def inK (k : IntKind) (n : Int) : Prop := k.min ≤ n ∧ n ≤ k.max
def inS (s : Str) : Prop := s.length ≤ maxLen
def inL {α : Type} (ok : α → Prop) (xs : List α) : Prop := xs.length ≤ maxLen ∧ ∀ x ∈ xs, ok x
theorem toR_intO {W : World} {t : TypeId} {k : IntKind} (h : P.underlying t = some (.int k)) (hc : P.cellsOf t = 1) : ToR enc P W t (rOk (rI k) (inK k)) := ⟨hc, fun fuel cs x hx => by
  cases fuel with
  | zero => simp [DataW.trod] at hx
  | succ n =>
    unfold DataW.trod at hx
    rw [h] at hx
    split at hx
    all_goals try (injections; done)
    · rename_i k1 k2 m heq
      injection heq with e
      injection e with e
      subst e
      split at hx
      · rename_i h2
        obtain ⟨rfl, h3⟩ := h2
        simp only [Lit.wf, Bool.and_eq_true, decide_eq_true_eq] at h3
        exact ⟨m, rfl, h3⟩
      · cases hx⟩
theorem toR_strO {W : World} {t : TypeId} (h : P.underlying t = some .string) (hc : P.cellsOf t = 1) : ToR enc P W t (rOk rS inS) := ⟨hc, fun fuel cs x hx => by
  cases fuel with
  | zero => simp [DataW.trod] at hx
  | succ n =>
    unfold DataW.trod at hx
    rw [h] at hx
    split at hx
    all_goals try (injections; done)
    · rename_i s heq
      split at hx
      · rename_i h2; exact ⟨s.data.toList, rfl, (show s.data.toList.length ≤ maxLen from (show s.size = s.data.toList.length from rfl) ▸ h2)⟩
      · cases hx⟩
def Ref {α : Type} (r' r : Rp α) (ok : α → Prop) : Prop := r'.sz = r.sz ∧ r'.agg = r.agg ∧ ∀ S cs x, r'.rc S cs x → r.rc S cs x ∧ ok x
theorem ref_ok {α : Type} {r : Rp α} {ok : α → Prop} : Ref (rOk r ok) r ok := ⟨rfl, rfl, fun _ _ _ h => h⟩
theorem ref_rcs {α : Type} {r' r : Rp α} {ok : α → Prop} (h : Ref r' r ok) {S : SH} : ∀ {xs : List α} {cs : List Value}, rcs r' S cs xs → rcs r S cs xs ∧ ∀ x ∈ xs, ok x
  | [], _, k => ⟨k, fun x hx => by cases hx⟩
  | x :: xs, _, ⟨a, b, e, h1, h2⟩ => by
    obtain ⟨g1, g2⟩ := h.2.2 _ _ _ h1
    obtain ⟨g3, g4⟩ := ref_rcs h h2
    exact ⟨⟨a, b, e, g1, g3⟩, fun y hy => by
      rcases List.mem_cons.1 hy with rfl | hy
      · exact g2
      · exact g4 y hy⟩
theorem ref_sl {α : Type} {r' r : Rp α} {ok : α → Prop} (h : Ref r' r ok) : Ref (rSl r') (rSl r) (inL ok) := ⟨rfl, rfl, fun S cs xs ⟨a, cap, e, h1, h2, h3⟩ => by
  rcases h3 with h3 | ⟨b, off, c, E, fr, e1, e2, e3⟩
  · exact ⟨⟨a, cap, e, h1, h2, .inl h3⟩, by omega, fun x hx => by rw [h3] at hx; cases hx⟩
  · rw [h.1] at e3
    obtain ⟨g1, g2⟩ := ref_rcs h e3
    exact ⟨⟨a, cap, e, h1, h2, .inr ⟨b, off, c, E, fr, e1, e2, g1⟩⟩, by omega, g2⟩⟩
theorem ref_pair {α β : Type} {p' p : Rp α} {q' q : Rp β} {f : α → Prop} {g : β → Prop} (h : Ref p' p f) (k : Ref q' q g) : Ref (rPair p' q') (rPair p q) (fun x => f x.1 ∧ g x.2) :=
  ⟨by show p'.sz + q'.sz = p.sz + q.sz; rw [h.1, k.1], rfl, fun S cs x ⟨a, b, e, h1, h2⟩ => ⟨⟨a, b, e, (h.2.2 _ _ _ h1).1, (k.2.2 _ _ _ h2).1⟩, (h.2.2 _ _ _ h1).2, (k.2.2 _ _ _ h2).2⟩⟩
theorem ref_map {α β : Type} {p' p : Rp α} {ok : α → Prop} {f : β → α} (h : Ref p' p ok) : Ref (rMap p' f) (rMap p f) (fun x => ok (f x)) :=
  ⟨h.1, rfl, fun S cs x k => h.2.2 _ _ _ k⟩
theorem arg_one {W : World} {α : Type} {t : TypeId} {r' r : Rp α} {ok : α → Prop} (h : ToR enc P W t r') (hr : Ref r' r ok) (hag : r.agg = false) {v : Value} {d : DataW H} {ps : List MemPlace} (hv : DataW.Trod enc P W 0 (fun _ => true) true t v d ps) (hc : v.cells = #[v]) : ∃ y, (tD r y).p (memS W) v ∧ ok y := by
  obtain ⟨y, cs, e, hy⟩ := rep_of_trod h (by rw [hr.2.1]; exact hag) hv hc
  obtain ⟨g1, g2⟩ := hr.2.2 _ _ _ hy
  exact ⟨y, ⟨cs, by rw [e]; unfold Rp.val; rw [hr.2.1], g1⟩, g2⟩
theorem arg_agg {W : World} {α : Type} {t : TypeId} {r' r : Rp α} {ok : α → Prop} (h : ToR enc P W t r') (hr : Ref r' r ok) (hag : r.agg = true) {v : Value} {d : DataW H} {ps : List MemPlace} (hv : DataW.Trod enc P W 0 (fun _ => true) true t v d ps) (hc : v = .agg v.cells) : ∃ y, (tD r y).p (memS W) v ∧ ok y := by
  obtain ⟨fuel, hx⟩ := hv
  obtain ⟨y, hy⟩ := h.2 _ _ _ hx
  obtain ⟨g1, g2⟩ := hr.2.2 _ _ _ hy
  exact ⟨y, ⟨_, by unfold Rp.val; rw [hag, if_pos rfl]; exact hc, g1⟩, g2⟩
theorem cells_struct {W : World} {base : Nat} {t : TypeId} {l : Array Field} {v : Value} (ht : P.underlying t = some (.struct l)) (hv : Value.okWide P W .any base t v) : v = .agg v.cells := by
  unfold Value.okWide at hv
  rw [ht] at hv
  obtain ⟨cs, e, _⟩ := hv
  rw [e]
  rfl
end
end Go.Proofs.YtdhledkpgaeoaaaDoor

namespace Go.Proofs.YtdhledkpgaeoaaaDoor
open Go Go.ChangeShapes Go.WideShapes Go.ChangeAt Go.RowKit

section
variable {P : Program} {W : World} {held : Bool}
def ToC (P : Program) (W : World) (held : Bool) (t : TypeId) (D : DataW Unit) (cells : List Value) : Prop :=
  P.cellsOf t = cells.length ∧ ∀ fuel cs x, DataW.trod (fun _ => ()) P W 0 (fun _ => true) held fuel t cs = some x → x.1 = D → cs = cells
theorem toC_int {t : TypeId} {k : IntKind} {n : Int} (h : P.underlying t = some (.int k)) (hc : P.cellsOf t = 1) : ToC P W held t (.lit (.int k n)) [.int k n] := ⟨hc, fun fuel cs x hx hD => by
  obtain ⟨m, h1, h2, _⟩ := DataW.trod_int h hx
  subst h2
  simp only [DataW.lit.injEq, Lit.int.injEq, true_and] at hD
  rw [h1, hD]⟩
theorem toC_str {t : TypeId} {s : List UInt8} (h : P.underlying t = some .string) (hc : P.cellsOf t = 1) : ToC P W held t (.lit (.string s)) [.string ⟨s.toArray⟩] := ⟨hc, fun fuel cs x hx hD => by
  obtain ⟨m, h1, h2, _⟩ := DataW.trod_string h hx
  subst h2
  simp only [DataW.lit.injEq, Lit.string.injEq] at hD
  subst hD
  rw [h1]⟩
def FC (P : Program) (W : World) (held : Bool) (off : Nat) (l : List (TypeId × Nat)) (Ds : List (DataW Unit)) (cells : List Value) : Prop :=
  ∀ (n : Nat) (cs : List Value), cs.length = off + cells.length → (∀ (i : Nat) f, l[i]? = some f → ∃ x, DataW.trod (fun _ => ()) P W 0 (fun _ => true) held n f.1 ((cs.drop f.2).take (P.cellsOf f.1)) = some x ∧ Ds[i]? = some x.1) → cs.drop off = cells
theorem fc_nil {off : Nat} : FC P W held off [] [] [] := fun n cs hl _ => List.drop_of_length_le (by simp at hl; omega)
theorem fc_cons {off off' : Nat} {t : TypeId} {l : List (TypeId × Nat)} {D : DataW Unit} {Ds : List (DataW Unit)} {c cells : List Value} (h : ToC P W held t D c) (ho : off' = off + c.length) (k : FC P W held off' l Ds cells) : FC P W held off ((t, off) :: l) (D :: Ds) (c ++ cells) := fun n cs hl hx => by
  obtain ⟨x, h1, h2⟩ := hx 0 (t, off) rfl
  simp only [List.getElem?_cons_zero, Option.some.injEq] at h2
  have h3 := h.2 n _ x h1 h2.symm
  have h4 := k n cs (by rw [hl, ho, List.length_append]; omega) fun i f hf => by simpa using hx (i + 1) f (by simpa using hf)
  have e : cs.drop off = (cs.drop off).take (P.cellsOf t) ++ cs.drop off' := by
    rw [ho, ← h.1, ← List.drop_drop, List.take_append_drop]
  rw [e, h4]
  exact congrArg (· ++ cells) h3
theorem toC_struct {t : TypeId} {l : List (TypeId × Nat)} {Ds : List (DataW Unit)} {cells : List Value} (ht : (P.underlying t).map (fun d => match d with | .struct l => (true, l.toList.map fun f => (f.type, f.offset)) | _ => (false, [])) = some (true, l)) (hc : P.cellsOf t = cells.length) (hf : FC P W held 0 l Ds cells) : ToC P W held t (.agg Ds) cells := ⟨hc, fun fuel cs x hx hD => by
  obtain ⟨fs, h1, h2⟩ : ∃ fs, P.underlying t = some (.struct fs) ∧ fs.toList.map (fun f => (f.type, f.offset)) = l := by
    cases hu : P.underlying t with
    | none => rw [hu] at ht; cases ht
    | some d =>
      rw [hu] at ht
      cases d <;> simp at ht
      exact ⟨_, rfl, ht⟩
  obtain ⟨xs, n, rfl, h3, h4, h5, h6⟩ := DataW.trod_struct h1 hx
  rw [h3] at hD
  simp only [DataW.agg.injEq] at hD
  have := hf n cs (by rw [h4, hc]; omega) fun i f hi => by
    rw [← h2, List.getElem?_map] at hi
    obtain ⟨f0, hf0, rfl⟩ := Option.map_eq_some_iff.1 hi
    have h7 := h6 i f0 (by simpa using hf0)
    have hlt : i < xs.length := by
      have := (List.getElem?_eq_some_iff.1 hf0).1
      rw [h5]; simpa using this
    rw [List.getElem?_eq_getElem hlt] at h7
    exact ⟨xs[i], h7, by rw [← hD]; simp [hlt]⟩
  rwa [List.drop_zero] at this⟩
theorem toC_arr {t e : TypeId} {m : Nat} {Ds : List (DataW Unit)} {cells : List Value} (ht : P.underlying t = some (.array m e)) (hc : P.cellsOf t = cells.length) (hf : FC P W held 0 ((List.range m).map fun i => (e, i * P.cellsOf e)) Ds cells) : ToC P W held t (.agg Ds) cells := ⟨hc, fun fuel cs x hx hD => by
  obtain ⟨xs, n, rfl, h3, h4, h5, h6⟩ := DataW.trod_array ht hx
  rw [h3] at hD
  simp only [DataW.agg.injEq] at hD
  have := hf n cs (by rw [h4, hc]; omega) fun i f hi => by
    rw [List.getElem?_map] at hi
    obtain ⟨j, hj, rfl⟩ := Option.map_eq_some_iff.1 hi
    obtain ⟨hlt, hj2⟩ := List.getElem?_eq_some_iff.1 hj
    simp at hlt hj2
    subst hj2
    have h7 := h6 i hlt
    have hlt' : i < xs.length := by rw [h5]; exact hlt
    rw [List.getElem?_eq_getElem hlt'] at h7
    exact ⟨xs[i], h7, by rw [← hD]; simp [hlt']⟩
  rwa [List.drop_zero] at this⟩
theorem laid_mem : ∀ {L : List (String × DataW Unit)} {ps : List MemPlace}, DataW.LaidVars P W L ps → ∀ n d, (n, d) ∈ L → ∃ g t cs fuel p, P.globalNamed n = some g ∧ (P.globals[g]?).map (·.type) = some t ∧ W.var? P n = some cs ∧ DataW.trod (fun _ => ()) P W 0 (fun _ => true) false fuel t cs.toList = some (d, p)
  | (_, _) :: _, _, ⟨g, t, cs, fuel, p, _, h1, h2, h3, h4, _, _⟩, _, _, .head _ => ⟨g, t, cs, fuel, p, h1, h2, h3, h4⟩
  | (_, _) :: _, _, ⟨_, _, _, _, _, _, _, _, _, _, h, _⟩, n, d, .tail _ hm => laid_mem h n d hm
theorem glob_of_laid {L : List (String × DataW Unit)} (h : laidMet P L W) {n : String} {d : DataW Unit} (hm : (n, d) ∈ L) {g : Nat} {t : TypeId} {cells : List Value} (hg : P.globalNamed n = some g) (ht : (P.globals[g]?).map (·.type) = some t) (hc : ToC P W false t d cells) :
    ∃ c T fr, W.heap[g]? = some (.cells c T fr) ∧ c.toList.take cells.length = cells := by
  obtain ⟨ps, hL, _, _⟩ := h
  obtain ⟨g', t', cs, fuel, p, h1, h2, h3, h4⟩ := laid_mem hL n d hm
  obtain rfl := Option.some.inj (hg.symm.trans h1)
  obtain rfl := Option.some.inj (ht.symm.trans h2)
  have h5 := hc.2 fuel _ _ h4 rfl
  unfold World.var? at h3
  rw [hg] at h3
  simp only [Option.bind_some] at h3
  split at h3
  · rename_i c T fr hb
    cases h3
    exact ⟨_, _, _, hb, by rw [h5, List.take_length]⟩
  · cases h3
end
end Go.Proofs.YtdhledkpgaeoaaaDoor

namespace Go.Proofs.YtdhledkpgaeoaaaDoor
open Go
open Go.MapKept (Stamped)
section
variable {κ β : Type} [DecidableEq κ] {V : MV β} {kv : κ → Value}
def mapR (V : MV β) (kv : κ → Value) (b r : Nat) (os : List (Option Nat × Nat)) (m : List (κ × β)) (left : List κ) (cur : Option κ) : OE where
  fp := fun j => (j = b ∨ j = r) ∨ ∃ o ∈ os, o.1 = some j
  p := fun w S => S b = none ∧ S r = none ∧ (∀ o ∈ os, o.1 ≠ some b ∧ o.1 ≠ some r) ∧ b ≠ r ∧ ∃ es clock since seen c0, w.heap[b]? = some (.map es clock) ∧ ents V kv w S none es.toList os m ∧ Stamped es clock ∧
    w.heap[r]? = some (.mapIter (some b) since seen c0) ∧ (∀ x ∈ es.toList, x.born < since) ∧ since ≤ c0 ∧ since ≤ clock ∧ (∀ x ∈ es.toList, ∀ k, x.key = kv k → (k ∈ left ↔ seen.contains x.born = false)) ∧ (∀ k ∈ left, ∃ x ∈ es.toList, x.key = kv k) ∧
    (∀ k, cur = some k → c0 = clock ∧ ∃ x ∈ es.toList, x.key = kv k ∧ ∃ s0 : Array Nat, seen = s0.push x.born)
  here := by
    intro w S ⟨_, _, _, _, es, clock, since, seen, c0, h3, h4, _, h5, _⟩ j hj
    rcases hj with (rfl | rfl) | ⟨o, ho, hj⟩
    · exact (Array.getElem?_eq_some_iff.1 h3).1
    · exact (Array.getElem?_eq_some_iff.1 h5).1
    · exact ents_here h4 o ho j hj
  kept := by
    intro C w w' S S' ⟨h1, h2, hob, hne, es, clock, since, seen, c0, h3, h4, hst, h5, h6⟩ k hC
    have hlt := (Array.getElem?_eq_some_iff.1 h3).1
    have hlt2 := (Array.getElem?_eq_some_iff.1 h5).1
    exact ⟨by rw [k.old b hlt (hC b (.inl (.inl rfl)))]; exact h1, by rw [k.old r hlt2 (hC r (.inl (.inr rfl)))]; exact h2, hob, hne, es, clock, since, seen, c0, by rw [k.heap b hlt (hC b (.inl (.inl rfl)))]; exact h3,
      ents_ext k h4 (fun o ho j hj => hC j (.inr ⟨o, ho, hj⟩)), hst, by rw [k.heap r hlt2 (hC r (.inl (.inr rfl)))]; exact h5, h6⟩
def tNx (b : Bool) : Ty where
  p := fun _ v => ∃ vs : List Value, v = .tuple (.mk (.bool b :: vs))
  mono := fun _ h => h
end
section
variable {E : En} {O : List OE} {G : Ctx} {Q : Exit → Act → World → Prop} {ops : Array Oper} {rest : List Oper} {c : Code} {κ β : Type} [DecidableEq κ] {V : MV β} {kv : κ → Value} {b r : Nat} {os : List (Option Nat × Nat)} {m : List (κ × β)} {left : List κ} {cur : Option κ} {k : κ} {t kt et : TypeId} {x i v : Operand}
  {d : Nat} {dst : Option Nat} {ty : TypeId} {pos : String} {after : Array Edge} {g : Option (Nat × Bool)}
theorem RG.rangeMap (hinj : ∀ a b, kv a = kv b → a = b) (hm : E.P.underlying t = some (.map kt et)) (hx : HasTy E.N G x (tV (mapV b))) (hd : Nat.blt d E.N.n = true)
    (k : ∀ r, RG E ops Q rest (mapR V kv b r os m (m.map Prod.fst) none :: O) ((d, tV (bptr r 0)) :: G)) :
    RG E ops Q (⟨some d, .range t x, ty, pos, after, none⟩ :: rest) (mapO V kv b none os m :: O) G := .of rfl fun a w S st => by
  obtain ⟨⟨⟨hno, hnb, es, clock, h3, h4, hst⟩, hfp⟩, _⟩ := st.own
  have hv : a.eval x = mapV b := hx S a st.facts
  have hlt := (Array.getElem?_eq_some_iff.1 h3).1
  have hrun : (execOp a.eval ⟨some d, .range t x, ty, pos, after, none⟩).run E.P w = .ok (.value (bptr w.heap.size 0)) (w.alloc (.mapIter (some b) clock #[] clock)) := by
    simp [execOp, hv, mapV, run_range_map w t kt et b es clock hm h3, bptr]
  refine ⟨fun c h => (by cases h), ?_⟩
  rw [hrun]
  obtain ⟨he, hs', hnn⟩ := Ext.alloc_own (w := w) (.mapIter (some b) clock #[] clock) st.sat
  have hx' : Ext (fun j => ∃ f ∈ [mapO V kv b none os m], f.fp j) w S (w.alloc (.mapIter (some b) clock #[] clock)) S := he.more fun _ h => h.elim
  have hn0 : ∀ o ∈ os, o.1 ≠ some w.heap.size := fun o ho e => absurd (ents_here h4 o ho _ e) (by omega)
  have hb2 : (w.alloc (.mapIter (some b) clock #[] clock)).heap[b]? = some (.map es clock) := by
    rw [he.heap b hlt (fun h => h)]; exact h3
  refine k w.heap.size _ _ S ((st.turn (O1 := [mapO V kv b none os m]) (O2 := [mapR V kv b w.heap.size os m (m.map Prod.fst) none]) hx' hs' ⟨⟨⟨hno, hnn, fun o ho => ⟨hnb o ho, hn0 o ho⟩, by omega, es, clock, clock, #[], clock, hb2, ents_ext he h4 (fun _ _ _ _ h => h), hst, heap_alloc_new w _, ?_, Nat.le_refl _, Nat.le_refl _, ?_, ?_, fun k hk => by cases hk⟩, fun _ _ => .inl (Nat.zero_le _)⟩, (fun _ hf => by cases hf), trivial⟩ ?_).put hd rfl)
  · exact ((MapKept.stamped_iff es clock).1 hst).1
  · intro y hy k hk
    obtain ⟨q, hq, hq2⟩ := ents_keys h4 y hy
    have : k = q.1 := hinj _ _ (hk.symm.trans hq2)
    subst this
    simp only [Array.contains_empty, iff_true]
    exact List.mem_map.2 ⟨q, hq, rfl⟩
  · intro k hk
    obtain ⟨q, hq, rfl⟩ := List.mem_map.1 hk
    exact keys_ents h4 q hq
  · intro j ⟨f, hf, hj⟩
    have : f = mapR V kv b w.heap.size os m (m.map Prod.fst) none := by simpa using hf
    subst this
    rcases hj with (rfl | rfl) | hj
    · exact .inl ⟨_, List.mem_singleton_self _, .inl rfl⟩
    · exact .inr (Nat.le_refl _)
    · exact .inl ⟨_, List.mem_singleton_self _, .inr hj⟩
theorem RG.nextMap (hinj : ∀ a b, kv a = kv b → a = b) (hx : HasTy E.N G x (tV (bptr r 0))) (hd : Nat.blt d E.N.n = true)
    (h0 : left = [] → RG E ops Q rest (mapR V kv b r os m [] cur :: O) ((d, tNx false) :: G))
    (h1 : ∀ k, k ∈ left → RG E ops Q rest (mapR V kv b r os m (left.filter (fun y => y ≠ k)) (some k) :: O) ((d, tNx true) :: G)) :
    RG E ops Q (⟨some d, .next x false, ty, pos, after, none⟩ :: rest) (mapR V kv b r os m left cur :: O) G := .of rfl fun a w S st => by
  obtain ⟨⟨⟨hno, hnr, hob, hne, es, clock, since, seen, c0, h3, h4, hst, h5, hold, hsc, hsk, hl1, hl2, hcur⟩, hfp⟩, _⟩ := st.own
  have hv : a.eval x = bptr r 0 := hx S a st.facts
  rcases run_next_at (P := E.P) w ty r b since c0 seen es clock h5 h3 hold hsc with ⟨g0, hrun⟩ | ⟨e, he, w1, hal, hrun⟩
  · have hrun' : (execOp a.eval ⟨some d, .next x false, ty, pos, after, none⟩).run E.P w = .ok (.value (.tuple #[.bool false])) w := by
      simp [execOp, hv, bptr, hrun]
    refine ⟨fun c h => (by cases h), ?_⟩
    rw [hrun']
    have hleft : left = [] := by
      cases left with
      | nil => rfl
      | cons k l =>
        obtain ⟨y, hy, hk⟩ := hl2 k (List.mem_cons_self ..)
        have := (hl1 y hy k hk).1 (List.mem_cons_self ..)
        rw [all_seen es seen g0 y hy] at this
        cases this
    subst hleft
    exact h0 rfl _ _ S (st.put hd ⟨[], rfl⟩)
  · have hrun' : (execOp a.eval ⟨some d, .next x false, ty, pos, after, none⟩).run E.P w = .ok (.value (.tuple #[.bool true, e.key, e.val])) (ChangeMaps.setBlock w1 r (.mapIter (some b) since (seen.push e.born) clock)) := by
      simp [execOp, hv, bptr, hrun]
    refine ⟨fun c h => (by cases h), ?_⟩
    rw [hrun']
    obtain ⟨hem, hes⟩ := mem_left he
    obtain ⟨q, _, hkq⟩ := ents_keys h4 e hem
    have hst' := (MapKept.stamped_iff es clock).1 hst
    have hr1 : w1.heap[r]? = some (.mapIter (some b) since seen c0) := by rcases hal with rfl | rfl <;> exact h5
    have hb1 : w1.heap[b]? = some (.map es clock) := by rcases hal with rfl | rfl <;> exact h3
    have hset := MapKept.heap_set (o' := .mapIter (some b) since (seen.push e.born) clock) hr1
    have hoth : ∀ j, j ≠ r → (ChangeMaps.setBlock w1 r (.mapIter (some b) since (seen.push e.born) clock)).heap[j]? = w.heap[j]? := fun j hj => (hset.2 j hj).trans (by rcases hal with rfl | rfl <;> rfl)
    have hext : Ext (fun j => j = r) w S (ChangeMaps.setBlock w1 r (.mapIter (some b) since (seen.push e.born) clock)) S := by
      refine ⟨?_, ?_, ?_, ?_, ?_, fun j _ hj => hoth j hj, SH.le_refl _, fun _ _ _ => rfl⟩
      · rcases hal with rfl | rfl <;> rfl
      · rcases hal with rfl | rfl <;> rfl
      · rcases hal with rfl | rfl <;> rfl
      · rcases hal with rfl | rfl
        · exact Nat.le_refl _
        · exact Nat.le_succ _
      · have hz : w1.heap.size = w.heap.size := by rcases hal with rfl | rfl <;> rfl
        show w.heap.size ≤ (w1.heap.setIfInBounds r _).size
        rw [Array.size_setIfInBounds, hz]; exact Nat.le_refl _
    have hsat : Sat (ChangeMaps.setBlock w1 r (.mapIter (some b) since (seen.push e.born) clock)) S := st.sat.same fun j o hj => hoth j (fun ej => by subst ej; rw [hnr] at hj; cases hj)
    have hb' : (ChangeMaps.setBlock w1 r (.mapIter (some b) since (seen.push e.born) clock)).heap[b]? = some (.map es clock) := (hoth b hne).trans h3
    refine h1 q.1 ((hl1 e hem q.1 hkq).2 hes) _ _ S ((st.turn (O1 := [mapR V kv b r os m left cur]) (O2 := [mapR V kv b r os m (left.filter (fun y => y ≠ q.1)) (some q.1)]) (hext.more fun j hj => ⟨_, List.mem_singleton_self _, .inl (.inr hj)⟩) hsat ⟨⟨⟨hno, hnr, hob, hne, es, clock, since, seen.push e.born, clock, hb', ents_ext hext h4 (fun o ho j hj ej => (hob o ho).2 (by rw [hj, ej])), hst, hset.1, hold, hsk, hsk, ?_, ?_, ?_⟩, fun _ _ => .inl (Nat.zero_le _)⟩, (fun _ hf => by cases hf), trivial⟩ ?_).put hd ⟨[e.key, e.val], rfl⟩)
    · intro y hy k' hk'
      have h := hl1 y hy k' hk'
      rw [contains_push, List.mem_filter, h]
      by_cases hbe : y.born = e.born
      · obtain rfl := born_inj hst'.2.1 hy hem hbe
        have : k' = q.1 := hinj _ _ (hk'.symm.trans hkq)
        subst this
        simp
      · have hk2 : k' ≠ q.1 := fun hk => hbe (congrArg MapEntry.born (entry_eq_of_key hst'.2.2 hy hem (by rw [hk', hkq, hk])))
        simp [hk2, hbe]
    · intro k' hk'
      exact hl2 k' (List.mem_filter.1 hk').1
    · intro k' hk'
      cases hk'
      exact ⟨rfl, e, hem, hkq, seen, rfl⟩
    · intro j ⟨f, hf, hj⟩
      have : f = mapR V kv b r os m (left.filter (fun y => y ≠ q.1)) (some q.1) := by simpa using hf
      subst this
      exact .inl ⟨_, List.mem_singleton_self _, hj⟩
theorem ok_entryMap (hmem : mapR V kv b r os m left (some k) ∈ O) (hx : HasTy E.N G x (tV (bptr r 0))) :
    OpOK E O G ⟨dst, .entry x, ty, pos, after, g⟩ ⟨fun _ u => ∃ y, u = .tuple #[kv k, y], fun _ h => h⟩ := .of_pure fun a w S hs ho hf => by
  obtain ⟨⟨_, _, _, _, es, clock, since, seen, c0, h3, _, hst, h5, _, _, _, _, _, hcur⟩, _⟩ := Own.mem ho _ hmem
  have h1 : a.eval x = bptr r 0 := hx S a hf
  obtain ⟨rfl, e, hem, hk, s0, rfl⟩ := hcur k rfl
  have hrun := run_entry_at (P := E.P) w r b since s0 es c0 e h5 h3 hem ((MapKept.stamped_iff es c0).1 hst).2.1
  refine ⟨.tuple #[e.key, e.val], ?_, e.val, by rw [hk]⟩
  simp [execOp, h1, bptr, hrun]
def tEn (u : Value) : Ty where
  p := fun _ v => ∃ y, v = .tuple #[u, y]
  mono := fun _ h => h
theorem ok_entryMapE (hmem : mapR V kv b r os m left (some k) ∈ O) (hx : HasTy E.N G x (tV (bptr r 0))) : OpOK E O G ⟨dst, .entry x, ty, pos, after, g⟩ (tEn (kv k)) := ok_entryMap hmem hx
theorem ok_extractNx {f : Bool} (hx : HasTy E.N G x (tNx f)) : OpOK E O G ⟨dst, .extract x 0, ty, pos, after, g⟩ (tD rB f) :=
  .of_pure fun a w S _ _ hf => by
    obtain ⟨vs, h1⟩ := hx S a hf
    exact ⟨.bool f, by simp [execOp, h1, Instr.extract], tB_iff.2 rfl⟩
theorem ok_extractKeyI {q : IntKind} {n : Int} (hx : HasTy E.N G x (tEn (kvI q n))) : OpOK E O G ⟨dst, .extract x 0, ty, pos, after, g⟩ (tD (rI q) n) :=
  .of_pure fun a w S _ _ hf => by
    obtain ⟨y, h1⟩ := hx S a hf
    exact ⟨.int q n, by simp [execOp, h1, Instr.extract, kvI], tI_iff.2 rfl⟩
theorem filter_lt {k : κ} {l : List κ} (h : k ∈ l) : (l.filter (fun y => y ≠ k)).length < l.length := by
  rw [List.length_filter_lt_length_iff_exists]
  exact ⟨k, h, by simp⟩
omit [DecidableEq κ] in
theorem LG.keys {Z : List κ → Prop} {Of : List κ → Option κ → List OE} {Gf : Ctx} (h : ∀ l cur, Z l → (∀ l2 c2, l2.length < l.length → Z l2 → LG E Q c (Of l2 c2) Gf) → LG E Q c (Of l cur) Gf) (l : List κ) (cur : Option κ) (hz : Z l) : LG E Q c (Of l cur) Gf := by
  have key : ∀ (n : Nat) (l : List κ) (cur : Option κ), l.length ≤ n → Z l → LG E Q c (Of l cur) Gf := by
    intro n
    induction n with
    | zero => intro l cur hn hz; exact h l cur hz fun l2 c2 h2 _ => absurd h2 (by omega)
    | succ n ih => intro l cur hn hz; exact h l cur hz fun l2 c2 h2 hz2 => ih l2 c2 (by omega) hz2
  exact key l.length l cur (Nat.le_refl _) hz
end
end Go.Proofs.YtdhledkpgaeoaaaDoor

