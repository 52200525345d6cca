/- A small logic over the walk's rules: the end of functions with ranges over functions; function values in cells; parts of slices. It states nothing of any program. -/
import Derived.Test.YtchjhcgkfglgiaaW18
namespace Go.Proofs.Ytchjhcgkfglgiaa
open Go

section
variable {O : List OE} {G : Ctx} {P : Program} {N : Nat} {B : Nat → Prop} {w0 : World} {S0 : SH} {fn : Func} {R : Ending → World → Prop} {ds : List Deferred}
theorem AT.shut0 (h : AT ⟨P, ⟨N, []⟩, B, w0, S0, none⟩ (bodyPost P fn R) .ret O G) : AT ⟨P, ⟨N, []⟩, B, w0, S0, none⟩ (bodyPostM (fw none) 0 P fn R) .ret O G := fun a w S st => by
  obtain ⟨h1, v, h2, h3⟩ := h a w S st
  show LeavesInM (fw none) 0 P fn a.tmps R a.defers .returning w
  rw [h1]
  exact ⟨v, h2, h3⟩
theorem AT.shut {b : Nat} (h : AT ⟨P, ⟨N, ds⟩, B, w0, S0, none⟩ (bodyPostM (fw none) 0 P fn R) .ret O G) : AT ⟨P, ⟨N, markD b :: ds⟩, B, w0, S0, none⟩ (bodyPostM (fw none) 0 P fn R) .ret (dfb b :: O) G := fun a w S st => by
  show LeavesInM (fw none) 0 P fn a.tmps R a.defers .returning w
  rw [st.facts.defers]
  obtain ⟨hno, hb⟩ := st.own.1.1
  have hlt := (Array.getElem?_eq_some_iff.1 hb).1
  have hext : Ext (fun k => k = b) w S (w.putObj b (.deferred none)) S := ⟨rfl, rfl, rfl, Nat.le_refl _, by simp, fun k _ hk => World.putObj_heap_other hk, SH.le_refl _, fun _ _ _ => rfl⟩
  have hsat : Sat (w.putObj b (.deferred none)) S := st.sat.same fun k o hk => by
    have hne : k ≠ b := fun e => by subst e; rw [hno] at hk; cases hk
    exact World.putObj_heap_other hne
  have := h { a with defers := ds } (w.putObj b (.deferred none)) S ⟨st.ext.step hext (fun c hc => st.own.1.2 c hc), hsat, st.own.2.2.ext hext (fun g hg k hk hkb => st.own.2.1 g hg k hkb hk), ⟨st.facts.size, rfl, st.facts.at_⟩⟩
  exact ⟨by simp, .inl ⟨b, _, rfl, run_takeDeferred hb, this⟩⟩
end
theorem Spec.ofM {P : Program} {f : FuncId} {fn : Func} {c : Code} {ts : List Ty} {t : Ty} {N : Nat} (hf : P.funcs[f]? = some fn) (hb : fn.body = some c) (hN : fn.ntmps = N) (hn : Nat.ble ts.length N = true)
    (h : ∀ w0 S0, CG ⟨P, ⟨N, []⟩, noB, w0, S0, none⟩ (bodyPostM (fw none) 0 P fn (endQ ⟨P, ⟨N, []⟩, noB, w0, S0, none⟩ t)) c [] (initG 0 ts)) : Spec P f ts t := by
  subst hN
  intro w S vs hs hv
  exact callsIn_fw.1 (callsIn_of_wp_marks (F := fw none) (n := 0) hf hb trivial (h w S _ w S ⟨Ext.refl _ _ _, hs, trivial, facts_init hv _ (Nat.le_of_ble_eq_true hn)⟩))

/-! ### Function values in cells -/
def rT (t : Ty) : Rp Unit where
  sz := 1
  agg := false
  rc := fun S cs _ => ∃ v, cs = [v] ∧ v.oneCell' = true ∧ t.p S v
  mono := fun h ⟨v, e, k, l⟩ => ⟨v, e, k, t.mono h l⟩
  len := fun ⟨_, e, _⟩ => by rw [e]; rfl
  one := fun ⟨v, e, k, _⟩ c hc => by rw [e] at hc; simp at hc; subst hc; exact k
  sc := fun _ => rfl
theorem tRT {t : Ty} {u : Unit} {S : SH} {v : Value} : (tD (rT t) u).p S v ↔ v.oneCell' = true ∧ t.p S v := by
  constructor
  · rintro ⟨cs, rfl, w, rfl, h1, h2⟩; exact ⟨h1, h2⟩
  · rintro ⟨h1, h2⟩; exact ⟨[v], rfl, v, rfl, h1, h2⟩
section
variable {E : En} {O : List OE} {G : Ctx} {dst : Option Tmp} {ty : TypeId} {pos : String} {after : Array Edge} {g : Option (Nat × Bool)}
theorem OpOK.imp {o : Oper} {t u : Ty} (h : OpOK E O G o t) (k : ∀ S v, t.p S v → u.p S v) : OpOK E O G o u := fun a w S hs ho hf =>
  opWp_mono (fun _ _ ⟨v, S', h1, h2, h3, h4⟩ => ⟨v, S', h1, h2, h3, k S' v h4⟩) (h a w S hs ho hf)
theorem ok_boxF {α β : Type} {args : α → List Ty} {res : β → Ty} {f : α → Option β} {x : Operand} {T : TypeId} (hx : HasTy E.N G x (tFun E.P args res f)) : OpOK E O G ⟨dst, .box T x, ty, pos, after, g⟩ (tPtr (rT (tFun E.P args res f)) ()) :=
  ok_box (fun S a hf => tRT.2 ⟨by obtain ⟨_, _, e, _⟩ := hx S a hf; rw [e]; rfl, hx S a hf⟩)
theorem ok_loadF {t : Ty} {U : TypeId} {bytes : Nat} {z : List Value} {p : Operand} (ti : TI E.P U 1 bytes false z) (hp : HasTy E.N G p (tPtr (rT t) ())) : OpOK E O G ⟨dst, .load U p, ty, pos, after, g⟩ t :=
  (ok_load (r := rT t) (x := ()) ti rfl rfl hp).imp fun _ _ h => (tRT.1 h).2

/-- A list of the call's own in a variable. -/
theorem rV_osl {S : SH} : rV.rc S [.slice none 0 0] (oslV none 0 0) := ⟨rfl, rfl⟩
theorem hRV {N : Fr} {x : Operand} {l : Option Nat} {cap n : Nat} (h : HasTy N G x (tV (oslV l cap n))) : HasTy N G x (tD rV (oslV l cap n)) := fun S a hf => tRV_iff.2 ⟨h S a hf, by cases l <;> rfl⟩
theorem ok_loadA {U T : TypeId} {b bytes : Nat} {z : List Value} {p : Operand} {l : Option Nat} {cap n : Nat} (ti : TI E.P U 1 bytes false z) (hm : bx rV T b (oslV l cap n) ∈ O) (hp : HasTy E.N G p (tV (bptr b 0))) :
    OpOK E O G ⟨dst, .load U p, ty, pos, after, g⟩ (tV (oslV l cap n)) := (ok_loadB (q := rV) (get := fun x => x) ti rfl rfl fld_whole hm hp).imp fun _ _ h => (tRV_iff.1 h).1

/-! ### Parts of slices -/
def sliceF {α : Type} (xs : List α) (lo hi : Int) : Option (List α) := if 0 ≤ lo ∧ lo ≤ hi ∧ hi ≤ (xs.length : Int) then some ((xs.take hi.toNat).drop lo.toNat) else none
theorem sliceF_some {α : Type} {xs ys : List α} {lo hi : Int} (h : sliceF xs lo hi = some ys) : ∃ l m : Nat, lo = l ∧ hi = m ∧ l ≤ m ∧ m ≤ xs.length ∧ ys = (xs.take m).drop l := by
  unfold sliceF at h
  split at h
  · rename_i hc
    exact ⟨lo.toNat, hi.toNat, by omega, by omega, by omega, by omega, by simpa using h.symm⟩
  · cases h
theorem slArr_part {α : Type} {r : Rp α} {S : SH} {a : Option Addr} {xs : List α} {l m cap : Nat} (h : slArr r S a xs) (hl : l ≤ m) (hm : m ≤ xs.length) (hc : xs.length ≤ cap) :
    slArr r S (if cap = l then a else a.map (·.add (l * r.sz))) ((xs.take m).drop l) := by
  by_cases hlm : l = m
  · left; subst hlm; simp
  right
  rcases h with h | ⟨b, off, c, T, fr, e1, e2, e3⟩
  · subst h; simp at hm; omega
  subst e1
  have hne : ¬ (cap = l) := by omega
  refine ⟨b, off + l * r.sz, c, T, fr, ?_, e2, ?_⟩
  · rw [if_neg hne]; simp [Addr.add]
  have hlen : ((xs.take m).drop l).length = m - l := by simp; omega
  have e4 : xs = (xs.take m).take l ++ ((xs.take m).drop l ++ xs.drop m) := by
    rw [← List.append_assoc, List.take_append_drop, List.take_append_drop]
  have h1 : ((xs.take m).take l).length = l := by simp; omega
  rw [e4] at e3
  have h2 := (rcs_split e3).2
  have h3 := (rcs_split h2).1
  rw [h1] at h3
  rw [hlen] at h3 ⊢
  rw [← e4] at h3
  rw [List.drop_take, List.take_take, List.drop_drop] at h3
  have hmin : min ((m - l) * r.sz) (xs.length * r.sz - l * r.sz) = (m - l) * r.sz := by
    rw [← Nat.sub_mul]; exact Nat.min_eq_left (Nat.mul_le_mul_right _ (by omega))
  rwa [hmin] at h3
theorem run_sliceBound {P : Program} {w : World} {k : IntKind} {n : Int} {y : Nat} {code : BoundsCode} (h0 : 0 ≤ n) (h1 : n ≤ y) : (Instr.sliceBound (.int k n) y code).run P w = .ok n.toNat w := by
  simp [Instr.sliceBound, asIntOf, h0, h1]
theorem ok_slice2 {α : Type} {r : Rp α} {xs ys : List α} {t T : TypeId} {sz bytes : Nat} {agg : Bool} {z : List Value} {x lo hi : Operand} {k k' : IntKind} {i j : Int} (ht : E.P.underlying t = some (.slice T)) (ti : TI E.P T sz bytes agg z) (hsz : r.sz = sz)
    (hx : HasTy E.N G x (tD (rSl r) xs)) (hlo : HasTy E.N G lo (tD (rI k) i)) (hhi : HasTy E.N G hi (tD (rI k') j)) (h : sliceF xs i j = some ys) : OpOK E O G ⟨dst, .slice t x (some lo) (some hi) none, ty, pos, after, g⟩ (tD (rSl r) ys) :=
  .of_pure fun a w S _ _ hf => by
    subst hsz
    obtain ⟨ad, cap, h1, h2, h3, h4⟩ := tSl_iff.1 (hx S a hf)
    have h5 := tI_iff.1 (hlo S a hf)
    have h6 := tI_iff.1 (hhi S a hf)
    obtain ⟨l, m, rfl, rfl, h7, h8, rfl⟩ := sliceF_some h
    have hlen : ((xs.take m).drop l).length = m - l := by simp; omega
    refine ⟨.slice (if cap = l then ad else ad.map (·.add (l * r.sz))) (m - l) (cap - l), ?_, tSl_iff.2 ⟨_, cap - l, by rw [hlen], by omega, by omega, slArr_part h4 h7 h8 h2⟩⟩
    simp [execOp, Instr.sliceAt, h1, h5, h6, Instr.slice, run_underlying ht, Instr.sliceBounds, run_sliceBound (k := k') (n := (m : Int)) (y := cap) (by omega) (by omega), run_sliceBound (k := k) (n := (l : Int)) (y := m) (by omega) (by omega), ti.sizeOf]
theorem ok_sliceHi {α : Type} {r : Rp α} {xs ys : List α} {t T : TypeId} {sz bytes : Nat} {agg : Bool} {z : List Value} {x hi : Operand} {k' : IntKind} {j : Int} (ht : E.P.underlying t = some (.slice T)) (ti : TI E.P T sz bytes agg z) (hsz : r.sz = sz)
    (hx : HasTy E.N G x (tD (rSl r) xs)) (hhi : HasTy E.N G hi (tD (rI k') j)) (h : sliceF xs 0 j = some ys) : OpOK E O G ⟨dst, .slice t x none (some hi) none, ty, pos, after, g⟩ (tD (rSl r) ys) :=
  .of_pure fun a w S _ _ hf => by
    subst hsz
    obtain ⟨ad, cap, h1, h2, h3, h4⟩ := tSl_iff.1 (hx S a hf)
    have h6 := tI_iff.1 (hhi S a hf)
    obtain ⟨l, m, hl, rfl, h7, h8, rfl⟩ := sliceF_some h
    have hl0 : l = 0 := by omega
    subst hl0
    have hlen : ((xs.take m).drop 0).length = m - 0 := by simp; omega
    refine ⟨.slice (if cap = 0 then ad else ad.map (·.add (0 * r.sz))) (m - 0) (cap - 0), ?_, tSl_iff.2 ⟨_, cap - 0, by rw [hlen], by omega, by omega, slArr_part h4 h7 h8 h2⟩⟩
    simp [execOp, Instr.sliceAt, h1, h6, Instr.slice, run_underlying ht, Instr.sliceBounds, run_sliceBound (k := k') (n := (m : Int)) (y := cap) (by omega) (by omega), ti.sizeOf]
theorem ok_sliceLo {α : Type} {r : Rp α} {xs ys : List α} {t T : TypeId} {sz bytes : Nat} {agg : Bool} {z : List Value} {x lo : Operand} {k : IntKind} {i : Int} (ht : E.P.underlying t = some (.slice T)) (ti : TI E.P T sz bytes agg z) (hsz : r.sz = sz)
    (hx : HasTy E.N G x (tD (rSl r) xs)) (hlo : HasTy E.N G lo (tD (rI k) i)) (h : sliceF xs i (xs.length : Int) = some ys) : OpOK E O G ⟨dst, .slice t x (some lo) none none, ty, pos, after, g⟩ (tD (rSl r) ys) :=
  .of_pure fun a w S _ _ hf => by
    subst hsz
    obtain ⟨ad, cap, h1, h2, h3, h4⟩ := tSl_iff.1 (hx S a hf)
    have h5 := tI_iff.1 (hlo S a hf)
    obtain ⟨l, m, rfl, hm, h7, h8, rfl⟩ := sliceF_some h
    have hm' : m = xs.length := by omega
    subst hm'
    have hlen : ((xs.take xs.length).drop l).length = xs.length - l := by simp
    refine ⟨.slice (if cap = l then ad else ad.map (·.add (l * r.sz))) (xs.length - l) (cap - l), ?_, tSl_iff.2 ⟨_, cap - l, by rw [hlen], by omega, by omega, slArr_part h4 h7 h8 h2⟩⟩
    simp [execOp, Instr.sliceAt, h1, h5, Instr.slice, run_underlying ht, Instr.sliceBounds, run_sliceBound (k := k) (n := (l : Int)) (y := xs.length) (by omega) (by omega), ti.sizeOf]
end
theorem CG.drawM {E : En} {O : List OE} {G : Ctx} {Q : Exit → Act → World → Prop} {id : Nat} {L : List Oper} {ts : List Ty} (m : Nat) (hm : E.P.follows .mixedOrders = true) (hsl : slotsB E.N.n [] (L.take m) = true) (hlen : ts.length = (L.take m).length) (ht : tailB L (L.take m).length (L.drop m).length = true) (hd : DR E O G L ts 0 (L.take m))
    (k : RG E L.toArray Q (L.drop m) O (outG (L.take m) ts G)) : CG E Q (.region id L.toArray true) O G := CG.drawT (List.take_append_drop m L).symm hm hsl hlen ht hd k
end Go.Proofs.Ytchjhcgkfglgiaa
