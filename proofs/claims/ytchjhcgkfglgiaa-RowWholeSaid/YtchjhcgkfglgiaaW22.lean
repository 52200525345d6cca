/- A small logic over the walk's rules: lists of one's own are read, written, cut; loops over lists and numbers. It states nothing of any program. -/
import Derived.Test.YtchjhcgkfglgiaaW20
namespace Go.Proofs.Ytchjhcgkfglgiaa
open Go

/-! ### Loops over lists -/
theorem dropT {α : Type} {xs l : List α} {i : Nat} {e : α} (h : xs.drop i = e :: l) : decide ((i : Int) < (xs.length : Int)) = true := by
  have : i < xs.length := by
    rcases Nat.lt_or_ge i xs.length with h' | h'
    · exact h'
    · rw [List.drop_eq_nil_of_le h'] at h; cases h
  simp; omega
theorem dropF {α : Type} {xs : List α} {i : Nat} (h : xs.drop i = []) : decide ((i : Int) < (xs.length : Int)) = false := by
  have := List.drop_eq_nil_iff.1 h
  simp; omega
theorem dropS {α : Type} {xs l : List α} {i : Nat} {e : α} (h : xs.drop i = e :: l) : xs.drop (i + 1) = l := by
  rw [← List.drop_drop, h]; rfl
theorem dropI {α : Type} {xs l : List α} {i : Nat} {e : α} (h : xs.drop i = e :: l) : idx xs (i : Int) = some e := by
  rw [idx_nat]
  have := List.getElem?_drop (xs := xs) (i := i) (j := 0)
  rw [h] at this
  simpa using this.symm
theorem dropL {α : Type} {xs l : List α} {i : Nat} {e : α} (h : xs.drop i = e :: l) (hN : xs.length ≤ maxLen) : i < 9223372036854775807 := by
  have := of_decide_eq_true (dropT h)
  simp only [maxLen] at hN
  omega
theorem natT {i k N : Nat} (h : N - i = k + 1) : decide ((i : Int) < (N : Int)) = true := by simp; omega
theorem natF {i N : Nat} (h : N - i = 0) : decide ((i : Int) < (N : Int)) = false := by simp; omega
theorem natS {i k N : Nat} (h : N - i = k + 1) : N - (i + 1) = k := by omega
theorem natL {i k N : Nat} (h : N - i = k + 1) (hN : N ≤ 9223372036854775807) : i < 9223372036854775807 := by omega
theorem maxN {n : Nat} (h : n ≤ maxLen) : n ≤ 9223372036854775807 := by simp only [maxLen] at h; omega
section
variable {E : En} {O : List OE} {G : Ctx} {Q : Exit → Act → World → Prop} {ops : Array Oper} {rest : List Oper} {c : Code} {e : Exit}
section
variable {dst : Option Tmp} {ty : TypeId} {pos : String} {after : Array Edge} {g : Option (Nat × Bool)}
theorem ok_incN {i : Nat} {x one : Operand} {xt yt : TypeId} (hi : i < 9223372036854775807) (hx : HasTy E.N G x (tD (rI .i64) (i : Int))) (h1 : HasTy E.N G one (tD (rI .i64) 1)) :
    OpOK E O G ⟨dst, .binOp .add xt x one yt, ty, pos, after, g⟩ (tD (rI .i64) ((i + 1 : Nat) : Int)) := by
  have e : IntKind.i64.wrap ((i : Int) + 1) = ((i + 1 : Nat) : Int) := by
    rw [IntKind.wrap_i64]; omega
  have := ok_add (E := E) (O := O) (dst := dst) (ty := ty) (pos := pos) (after := after) (g := g) (xt := xt) (yt := yt) hx h1
  rwa [e] at this
end
theorem CG.have_lenO {α : Type} {r : Rp α} {l : Option Nat} {cap : Nat} {xs : List α} {k : Nat} (hk : look G k = some (tO r l cap xs)) (h : xs.length ≤ maxLen → CG E Q c O G) : CG E Q c O G := fun a w S st => by
  obtain ⟨_, _, _, h1, h2, _⟩ := tSl_iff.1 (st.facts.at_ k _ hk).2
  exact h (Nat.le_trans h1 h2) a w S st
theorem CG.have_lenA {α : Type} {mm : Bool} {r : Rp α} {T : TypeId} {l : Option Nat} {cap : Nat} {xs : List α} (hm : arrM mm r T l cap xs ∈ O) (h : xs.length ≤ maxLen → CG E Q c O G) : CG E Q c O G := fun a w S st => by
  refine h ?_ a w S st
  obtain ⟨cells, h1, _⟩ := (st.own.mem _ hm).1
  cases l with
  | none => have := h1.1; omega
  | some b => obtain ⟨cur, _, g2, g3, _⟩ := h1; exact Nat.le_trans g2 g3
/-- A list of one's own that is settled, as data. -/
theorem St.dataAt {a : Act} {w : World} {S : SH} {α : Type} {r : Rp α} {l : Option Nat} {cap : Nat} {xs : List α} {k : Nat} (h : St E O G a w S) (hk : look G k = some (tO r l cap xs)) : St E O ((k, tD (rSl r) xs) :: G) a w S := h.cons (h.facts.at_ k _ hk).2
theorem RG.dataAt {α : Type} {r : Rp α} {l : Option Nat} {cap : Nat} {xs : List α} (k : Nat) (hk : look G k = some (tO r l cap xs)) (h : RG E ops Q rest O ((k, tD (rSl r) xs) :: G)) : RG E ops Q rest O G := fun a w S st => h a w S (st.dataAt hk)
theorem CG.dataAt {α : Type} {r : Rp α} {l : Option Nat} {cap : Nat} {xs : List α} (k : Nat) (hk : look G k = some (tO r l cap xs)) (h : CG E Q c O ((k, tD (rSl r) xs) :: G)) : CG E Q c O G := fun a w S st => h a w S (st.dataAt hk)
theorem AT.dataAt {α : Type} {r : Rp α} {l : Option Nat} {cap : Nat} {xs : List α} (k : Nat) (hk : look G k = some (tO r l cap xs)) (h : AT E Q e O ((k, tD (rSl r) xs) :: G)) : AT E Q e O G := fun a w S st => h a w S (st.dataAt hk)
theorem LG.dataAt {α : Type} {r : Rp α} {l : Option Nat} {cap : Nat} {xs : List α} (k : Nat) (hk : look G k = some (tO r l cap xs)) (h : LG E Q c O ((k, tD (rSl r) xs) :: G)) : LG E Q c O G := fun a w S st => h a w S (st.dataAt hk)

/-! ### Places in a list of one's own -/
def eptr (l : Option Nat) (off : Nat) : Value :=
  match l with
  | none => .pointer none
  | some b => bptr b off
theorem raw_part {α : Type} {r : Rp α} {w : World} {T : TypeId} {l : Option Nat} {cap : Nat} {xs : List α} {S : SH} {mm : Bool} (h : arrP mm r T l cap xs w S) {i : Nat} {e : α} (hi : xs[i]? = some e) :
    ∃ b cur, l = some b ∧ w.heap[b]? = some (.cells cur T (0, 0)) ∧ xs.length ≤ cap ∧ cur.size = cap * r.sz ∧ r.rc S ((cur.toList.drop (i * r.sz)).take r.sz) e := by
  obtain ⟨cells, h1, h2, _⟩ := h
  have hlt := (List.getElem?_eq_some_iff.1 hi).1
  cases l with
  | none => have := h1.1; omega
  | some b =>
    obtain ⟨cur, g1, g2, g3, g4, g5⟩ := h1
    refine ⟨b, cur, rfl, g1, g2, g4, ?_⟩
    have h3 := rcs_get h2 hi
    rw [← g5, List.drop_take, List.take_take] at h3
    have h4 : i * r.sz + r.sz ≤ xs.length * r.sz := by
      rw [← Nat.succ_mul]; exact Nat.mul_le_mul_right _ hlt
    rwa [Nat.min_eq_left (by omega)] at h3
theorem idx_some {α : Type} {xs : List α} {i : Int} {e : α} (h : idx xs i = some e) : 0 ≤ i ∧ xs[i.toNat]? = some e := by
  unfold idx at h
  split at h
  · exact ⟨by assumption, h⟩
  · cases h
section
variable {dst : Option Tmp} {ty : TypeId} {pos : String} {after : Array Edge} {g : Option (Nat × Bool)}
theorem ok_indexAddrO {α : Type} {mm : Bool} {r : Rp α} {U : TypeId} {l : Option Nat} {cap n : Nat} {xs : List α} {x ix : Operand} {y : α} {t e : TypeId} {k : IntKind} {i : Int} {sz bytes : Nat} {agg : Bool} {z : List Value} (ht : E.P.underlying t = some (.slice e)) (ti : TI E.P e sz bytes agg z)
    (hm : arrM mm r U l cap xs ∈ O) (hx : HasTy E.N G x (tV (oslV l cap n))) (hi : HasTy E.N G ix (tD (rI k) i)) (hy : idx xs i = some y) (hn : n = xs.length := by rfl) :
    OpOK E O G ⟨dst, .indexAddr t x ix, ty, pos, after, g⟩ (tV (eptr l (i.toNat * sz + 0))) :=
  .of_pure fun a w S _ ho hf => by
    subst hn
    have h1 : a.eval x = oslV l cap xs.length := hx S a hf
    have h3 : a.eval ix = .int k i := tI_iff.1 (hi S a hf)
    obtain ⟨h0, hy'⟩ := idx_some hy
    obtain ⟨b, cur, rfl, _⟩ := raw_part (ho.mem _ hm).1 hy'
    have hlt : i.toNat < xs.length := (List.getElem?_eq_some_iff.1 hy').1
    refine ⟨_, ?_, rfl⟩
    have hc : 0 ≤ i ∧ i < (xs.length : Int) := ⟨h0, by omega⟩
    simp [execOp, h1, h3, oslV, Instr.indexAt, asIntOf, run_underlying ht, hc, ti.sizeOf, addr_add, eptr, bptr]
theorem ok_loadE {α β : Type} {mm : Bool} {r : Rp α} {q : Rp β} {get : α → β} {U T : TypeId} {l : Option Nat} {cap foff : Nat} {xs : List α} {y : α} {i : Int} {sz bytes : Nat} {agg : Bool} {z : List Value} {p : Operand} (ti : TI E.P T sz bytes agg z) (hsz : q.sz = sz) (hag : q.agg = agg) (hget : Fld r foff q get) (hoff : Nat.ble (foff + q.sz) r.sz = true)
    (hm : arrM mm r U l cap xs ∈ O) (hy : idx xs i = some y) (hp : HasTy E.N G p (tV (eptr l (i.toNat * r.sz + foff)))) : OpOK E O G ⟨dst, .load T p, ty, pos, after, g⟩ (tD q (get y)) :=
  .of_pure fun a w S _ ho hf => by
    have h1 : a.eval p = eptr l (i.toNat * r.sz + foff) := hp S a hf
    obtain ⟨h0, hy'⟩ := idx_some hy
    obtain ⟨b, cur, rfl, hb, _, _, h6⟩ := raw_part (ho.mem _ hm).1 hy'
    have hoff' := Nat.le_of_ble_eq_true hoff
    have h7 := hget S _ _ h6
    rw [List.drop_take, List.take_take, List.drop_drop, Nat.min_eq_left (by omega)] at h7
    refine ⟨_, ?_, _, rfl, h7⟩
    simp [execOp, h1, eptr, bptr, Instr.loadAt, Instr.sureAddr, run_loadVar_in ti hb hsz hag h7]
theorem ok_fieldAddrE {α : Type} {mm : Bool} {r : Rp α} {U T : TypeId} {l : Option Nat} {cap o i off sz : Nat} {xs : List α} {y : α} {j : Int} {p : Operand} (hf : fieldIn E.P T i = some (off, sz)) (h0 : Nat.beq sz 0 = false) (hm : arrM mm r U l cap xs ∈ O) (hy : idx xs j = some y) (hp : HasTy E.N G p (tV (eptr l o))) :
    OpOK E O G ⟨dst, .fieldAddr T p i, ty, pos, after, g⟩ (tV (eptr l (o + off))) :=
  .of_pure fun a w S _ ho hF => by
    have h1 : a.eval p = eptr l o := hp S a hF
    obtain ⟨_, hy'⟩ := idx_some hy
    obtain ⟨b, cur, rfl, _⟩ := raw_part (ho.mem _ hm).1 hy'
    obtain ⟨fs, f, e1, e2, e3, e4⟩ := run_field hf
    have h0' : sz ≠ 0 := fun e => by subst e; simp at h0
    refine ⟨_, ?_, rfl⟩
    simp [execOp, h1, eptr, bptr, Instr.fieldAt, run_underlying e1, e2, Instr.sureAddr, fieldPlace, e4, h0', e3, addr_add]
end
theorem rcs_set {α : Type} {r : Rp α} {S : SH} {y : α} {c : List Value} (hc : r.rc S c y) : ∀ {xs : List α} {i : Nat} {cs : List Value}, rcs r S cs xs → i < xs.length → rcs r S (cs.take (i * r.sz) ++ c ++ cs.drop (i * r.sz + r.sz)) (xs.set i y)
  | [], _, _, _, h => by simp at h
  | x :: xs, 0, cs, ⟨a, b, e, h1, h2⟩, _ => by
    have hl := r.len h1
    refine ⟨c, b, ?_, hc, h2⟩
    rw [e, ← hl]; simp
  | x :: xs, i + 1, cs, ⟨a, b, e, h1, h2⟩, h => by
    have hl := r.len h1
    have ih := rcs_set hc h2 (i := i) (by simpa using h)
    refine ⟨a, _, ?_, h1, ih⟩
    have e1 : (i + 1) * r.sz = a.length + i * r.sz := by rw [hl, Nat.add_mul]; omega
    rw [e, e1, List.take_length_add_append, Nat.add_assoc, List.drop_length_add_append]
    simp
/-- An element, or a part of one, of a list of one's own is written. -/
theorem RG.storeE {α β : Type} {r : Rp α} {q : Rp β} {set : α → β → α} {U T : TypeId} {l : Option Nat} {cap foff : Nat} {xs zs : List α} {y : α} {v : β} {i : Int} {sz bytes : Nat} {agg : Bool} {z : List Value} {p x : Operand} {ty : TypeId} {pos : String} {after : Array Edge} (ti : TI E.P T sz bytes agg z) (hsz : q.sz = sz) (hset : SFld r foff q set) (hoff : Nat.ble (foff + q.sz) r.sz = true)
    (hy : idx xs i = some y) (hz : xs.set i.toNat (set y v) = zs) (hp : HasTy E.N G p (tV (eptr l (i.toNat * r.sz + foff)))) (hx : HasTy E.N G x (tD q v)) (k : RG E ops Q rest (arr r U l cap zs :: O) G) :
    RG E ops Q (⟨none, .store T p x, ty, pos, after, none⟩ :: rest) (arr r U l cap xs :: O) G := .of rfl fun a w S st => by
  subst hz
  have h1 : a.eval p = eptr l (i.toNat * r.sz + foff) := hp S a st.facts
  obtain ⟨ds, h2, h3⟩ := hx S a st.facts
  obtain ⟨h0, hy'⟩ := idx_some hy
  have hlt : i.toNat < xs.length := (List.getElem?_eq_some_iff.1 hy').1
  obtain ⟨cells, hraw, hrc, hno⟩ := st.own.1.1
  obtain ⟨b, cur, rfl, hb, hle, hcs, h6⟩ := raw_part st.own.1.1 hy'
  obtain ⟨cur', hb', hle', hmax, hcs', hct⟩ := hraw
  have hcc : cur' = cur := by rw [hb] at hb'; injection hb' with e; injection e with e1; exact e1.symm
  subst hcc
  have hno' : S b = none := hno b rfl
  have hoff' := Nat.le_of_ble_eq_true hoff
  have hl3 := q.len h3
  have hmul : i.toNat * r.sz + r.sz ≤ xs.length * r.sz := by rw [← Nat.succ_mul]; exact Nat.mul_le_mul_right _ hlt
  have hmul2 : xs.length * r.sz ≤ cur'.size := by rw [hcs]; exact Nat.mul_le_mul_right _ hle
  obtain ⟨w', hr, e1, e2, e3, e4, e5, e6⟩ := run_storeVar_at ti hsz h3 hb (off := i.toNat * r.sz + foff) (by omega)
  have hrun : (execOp a.eval ⟨none, .store T p x, ty, pos, after, none⟩).run E.P w = .ok .skip w' := by
    simp [execOp, h1, h2, Instr.storeAt, eptr, bptr, Instr.sureAddr, hr]
  refine ⟨fun c h => (by cases h), ?_⟩
  rw [hrun]
  have hnew := hset S _ _ _ _ h6 h3
  have hrc' := rcs_set hnew hrc hlt
  have hcl := rcs_len hrc
  have hcells : (cur'.toList.take (i.toNat * r.sz + foff) ++ ds ++ cur'.toList.drop (i.toNat * r.sz + foff + q.sz)).take (xs.length * r.sz) =
      cells.take (i.toNat * r.sz) ++ (((cur'.toList.drop (i.toNat * r.sz)).take r.sz).take foff ++ ds ++ ((cur'.toList.drop (i.toNat * r.sz)).take r.sz).drop (foff + q.sz)) ++ cells.drop (i.toNat * r.sz + r.sz) := by
    subst hct
    apply List.ext_getElem?
    intro j
    simp only [List.getElem?_take, List.getElem?_append, List.getElem?_drop, List.length_take, List.length_drop, List.length_append, Array.length_toList]
    rcases Nat.lt_or_ge j (xs.length * r.sz) with hj | hj
    · simp only [hj, if_true]
      rcases Nat.lt_or_ge j (i.toNat * r.sz) with hj1 | hj1
      · rw [if_pos (by omega), if_pos (by omega), if_pos (by omega), if_pos (by omega), if_pos (by omega), if_pos (by omega)]
      · rcases Nat.lt_or_ge j (i.toNat * r.sz + foff) with hj2 | hj2
        · rw [if_pos (by omega), if_pos (by omega), if_pos (by omega), if_pos (by omega), if_neg (by omega), if_pos (by omega), if_pos (by omega), if_pos (by omega), if_pos (by omega)]
          congr 1; omega
        · rcases Nat.lt_or_ge j (i.toNat * r.sz + foff + q.sz) with hj3 | hj3
          · rw [if_pos (by omega), if_neg (by omega), if_pos (by omega), if_neg (by omega), if_pos (by omega), if_neg (by omega)]
            congr 1; omega
          · rw [if_neg (by omega)]
            rcases Nat.lt_or_ge j (i.toNat * r.sz + r.sz) with hj4 | hj4
            · rw [if_pos (by omega), if_neg (by omega), if_neg (by omega), if_pos (by omega)]
              congr 1; omega
            · rw [if_neg (by omega), if_pos (by omega)]
              congr 1; omega
    · rw [if_neg (by omega), if_neg (by omega), if_neg (by omega)]
  obtain ⟨g1, g2, g3⟩ := own_write (O := O) st.sat (arr r U (some b) cap xs) (arr r U (some b) cap (xs.set i.toNat (set y v))) st.own (fun k => ⟨fun h => (Option.some.inj h).symm, fun h => by rw [h]; rfl⟩) (fun k => ⟨fun h => (Option.some.inj h).symm, fun h => by rw [h]; rfl⟩) ⟨e1, e2, e3, e4.1, e4.2⟩ e6
    ⟨_, ⟨_, e5, by rw [List.length_set]; exact hle, hmax, by simp only [List.size_toArray, List.length_append, List.length_take, List.length_drop, Array.length_toList]; omega, by rw [List.length_set]; exact hcells⟩, hrc', fun k hk => by rw [← Option.some.inj hk]; exact hno'⟩ hno'
  exact k _ _ S ⟨st.ext.step g1 (fun c hc => st.own.1.2 c (by rw [hc]; rfl)), g2, g3, st.facts⟩

/-! ### Parts of a list of one's own -/
def vslV (sz : Nat) (l : Option Nat) (cap lo n : Nat) : Value :=
  match l with
  | none => .slice none 0 0
  | some b => .slice (some ⟨b, if cap = lo then 0 else lo * sz, none⟩) n (cap - lo)
section
variable {dst : Option Tmp} {ty : TypeId} {pos : String} {after : Array Edge} {g : Option (Nat × Bool)}
theorem own_slice {mm : Bool} {α : Type} {r : Rp α} {U : TypeId} {l : Option Nat} {cap : Nat} {xs : List α} {w : World} {S : SH} (h : arrP mm r U l cap xs w S) : ∃ ad c, oslV l cap xs.length = .slice ad xs.length c ∧ xs.length ≤ c ∧ ad = l.map (fun b => ⟨b, 0, none⟩) ∧ (l = none → c = 0 ∧ xs = []) ∧ (l ≠ none → c = cap) := by
  obtain ⟨cells, h1, _⟩ := h
  cases l with
  | none =>
    have hx : xs = [] := List.eq_nil_of_length_eq_zero h1.1
    subst hx
    exact ⟨none, 0, rfl, Nat.le_refl _, rfl, fun _ => ⟨rfl, rfl⟩, fun h => absurd rfl h⟩
  | some b =>
    obtain ⟨cur, _, g2, _⟩ := h1
    exact ⟨_, cap, rfl, g2, rfl, fun h => (by cases h), fun _ => rfl⟩
theorem ok_sliceHiO {α : Type} {mm : Bool} {r : Rp α} {U : TypeId} {l : Option Nat} {cap n : Nat} {xs ys : List α} {t T : TypeId} {sz bytes : Nat} {agg : Bool} {z : List Value} {x hi : Operand} {k' : IntKind} {j : Int} (ht : E.P.underlying t = some (.slice T)) (ti : TI E.P T sz bytes agg z) (hsz : r.sz = sz)
    (hm : arrM mm r U l cap xs ∈ O) (hx : HasTy E.N G x (tV (oslV l cap n))) (hhi : HasTy E.N G hi (tD (rI k') j)) (h : sliceF xs 0 j = some ys) (hn : n = xs.length := by rfl) : OpOK E O G ⟨dst, .slice t x none (some hi) none, ty, pos, after, g⟩ (tV (oslV l cap ys.length)) :=
  .of_pure fun a w S _ ho hf => by
    subst hsz
    subst hn
    have h1 : a.eval x = oslV l cap xs.length := hx S a hf
    obtain ⟨ad, c, h2, h3, h4, h5, h5'⟩ := own_slice (ho.mem _ hm).1
    have h6 := tI_iff.1 (hhi S a hf)
    obtain ⟨lo, m, hl, rfl, h7, h8, rfl⟩ := sliceF_some h
    have hl0 : lo = 0 := by omega
    subst hl0
    have hlen : ((xs.take m).drop 0).length = m := by simp; omega
    refine ⟨_, ?_, rfl⟩
    rw [h2] at h1
    have hr : (execOp a.eval ⟨dst, .slice t x none (some hi) none, ty, pos, after, g⟩).run E.P w = .ok (.value (.slice ad m c)) w := by
      simp [execOp, Instr.sliceAt, h1, h6, Instr.slice, run_underlying ht, Instr.sliceBounds, run_sliceBound (k := k') (n := (m : Int)) (y := c) (by omega) (by omega), ti.sizeOf]
      cases ad <;> simp [Addr.add]
    rw [hr, hlen, h4]
    cases l with
    | none => obtain ⟨rfl, rfl⟩ := h5 rfl; have : m = 0 := by simpa using h8
              subst this; rfl
    | some b => rw [h5' (by simp)]; rfl
theorem ok_sliceLoO {α : Type} {mm : Bool} {r : Rp α} {U : TypeId} {l : Option Nat} {cap n : Nat} {xs ys : List α} {t T : TypeId} {sz bytes : Nat} {agg : Bool} {z : List Value} {x lo : Operand} {k : IntKind} {i : Int} (ht : E.P.underlying t = some (.slice T)) (ti : TI E.P T sz bytes agg z) (hsz : r.sz = sz)
    (hm : arrM mm r U l cap xs ∈ O) (hx : HasTy E.N G x (tV (oslV l cap n))) (hlo : HasTy E.N G lo (tD (rI k) i)) (h : sliceF xs i (xs.length : Int) = some ys) (hn : n = xs.length := by rfl) : OpOK E O G ⟨dst, .slice t x (some lo) none none, ty, pos, after, g⟩ (tV (vslV sz l cap i.toNat ys.length)) :=
  .of_pure fun a w S _ ho hf => by
    subst hsz
    subst hn
    have h1 : a.eval x = oslV l cap xs.length := hx S a hf
    obtain ⟨ad, c, h2, h3, h4, h5, h5'⟩ := own_slice (ho.mem _ hm).1
    have h6 := tI_iff.1 (hlo S a hf)
    obtain ⟨lo', m, rfl, hm', h7, h8, rfl⟩ := sliceF_some h
    have hm2 : m = xs.length := by omega
    subst hm2
    have hlen : ((xs.take xs.length).drop lo').length = xs.length - lo' := by simp
    refine ⟨_, ?_, rfl⟩
    rw [h2] at h1
    have hr : (execOp a.eval ⟨dst, .slice t x (some lo) none none, ty, pos, after, g⟩).run E.P w = .ok (.value (.slice (if c = lo' then ad else ad.map (·.add (lo' * r.sz))) (xs.length - lo') (c - lo'))) w := by
      simp [execOp, Instr.sliceAt, h1, h6, Instr.slice, run_underlying ht, Instr.sliceBounds, run_sliceBound (k := k) (n := (lo' : Int)) (y := xs.length) (by omega) (by omega), ti.sizeOf]
    rw [hr, hlen, h4]
    cases l with
    | none => obtain ⟨rfl, rfl⟩ := h5 rfl; have : lo' = 0 := by simpa using h7
              subst this; rfl
    | some b =>
      rw [h5' (by simp)]
      unfold vslV
      simp only [Int.toNat_natCast, Option.map_some, addr_add, Nat.zero_add]
      split <;> rfl
theorem sliceF_idx {α : Type} {xs ys : List α} {lo hi i : Int} {y : α} (h : sliceF xs lo hi = some ys) (hy : idx ys i = some y) : idx xs (lo + i) = some y ∧ 0 ≤ lo ∧ 0 ≤ i := by
  obtain ⟨l, m, rfl, rfl, h1, h2, rfl⟩ := sliceF_some h
  obtain ⟨h0, h3⟩ := idx_some hy
  refine ⟨?_, by omega, h0⟩
  obtain ⟨j, rfl⟩ : ∃ j : Nat, i = j := ⟨i.toNat, by omega⟩
  rw [show ((l : Int) + (j : Int)) = ((l + j : Nat) : Int) from by omega, idx_nat]
  rw [List.getElem?_drop, Int.toNat_natCast] at h3
  have hlt : l + j < m := by
    have := (List.getElem?_eq_some_iff.1 h3).1
    simp at this; omega
  rwa [List.getElem?_take_of_lt hlt] at h3
theorem ok_indexAddrV {α : Type} {mm : Bool} {r : Rp α} {U : TypeId} {l : Option Nat} {cap : Nat} {xs ys : List α} {x ix : Operand} {y : α} {t e : TypeId} {k : IntKind} {lo hi i : Int} {sz bytes : Nat} {agg : Bool} {z : List Value} (ht : E.P.underlying t = some (.slice e)) (ti : TI E.P e sz bytes agg z) (hsz : r.sz = sz)
    (hm : arrM mm r U l cap xs ∈ O) (hs : sliceF xs lo hi = some ys) (hx : HasTy E.N G x (tV (vslV sz l cap lo.toNat ys.length))) (hi' : HasTy E.N G ix (tD (rI k) i)) (hy : idx ys i = some y) :
    OpOK E O G ⟨dst, .indexAddr t x ix, ty, pos, after, g⟩ (tV (eptr l ((lo + i).toNat * sz + 0))) :=
  .of_pure fun a w S _ ho hf => by
    subst hsz
    have h1 : a.eval x = vslV r.sz l cap lo.toNat ys.length := hx S a hf
    have h3 : a.eval ix = .int k i := tI_iff.1 (hi' S a hf)
    obtain ⟨hxi, hl0, hi0⟩ := sliceF_idx hs hy
    obtain ⟨_, hx'⟩ := idx_some hxi
    obtain ⟨b, cur, rfl, _, hle, _⟩ := raw_part (ho.mem _ hm).1 hx'
    have hlt : i.toNat < ys.length := (List.getElem?_eq_some_iff.1 (idx_some hy).2).1
    have hlt2 : (lo + i).toNat < xs.length := (List.getElem?_eq_some_iff.1 hx').1
    have hne : ¬ (cap = lo.toNat) := by omega
    refine ⟨_, ?_, rfl⟩
    have hc : 0 ≤ i ∧ i < (ys.length : Int) := ⟨hi0, by omega⟩
    have e1 : (lo + i).toNat = lo.toNat + i.toNat := by omega
    simp [execOp, h1, h3, vslV, hne, Instr.indexAt, asIntOf, run_underlying ht, hc, ti.sizeOf, addr_add, eptr, bptr, e1, Nat.add_mul]
theorem ok_lenV {α : Type} {mm : Bool} {r : Rp α} {U : TypeId} {l : Option Nat} {cap sz : Nat} {xs ys : List α} {lo hi : Int} {x : Operand} {t e : TypeId} (ht : E.P.underlying t = some (.slice e)) (hm : arrM mm r U l cap xs ∈ O) (hs : sliceF xs lo hi = some ys) (hx : HasTy E.N G x (tV (vslV sz l cap lo.toNat ys.length))) :
    OpOK E O G ⟨dst, .call ⟨.builtin .len, #[x], #[t]⟩, ty, pos, after, g⟩ (tD (rI .i64) (ys.length : Int)) :=
  .of_pure fun a w S _ ho hf => by
    have h1 : a.eval x = vslV sz l cap lo.toNat ys.length := hx S a hf
    obtain ⟨ad, c, h3⟩ : ∃ ad c, vslV sz l cap lo.toNat ys.length = .slice ad ys.length c := by
      cases l with
      | none =>
        obtain ⟨_, h2, _⟩ := (ho.mem _ hm).1
        have hx0 : xs = [] := List.eq_nil_of_length_eq_zero h2.1
        subst hx0
        obtain ⟨l', m, _, _, _, h8, rfl⟩ := sliceF_some hs
        exact ⟨none, 0, by simp [vslV]⟩
      | some b => exact ⟨_, _, rfl⟩
    refine ⟨.int .i64 ys.length, ?_, tI_iff.2 rfl⟩
    simp [execOp, resolve, invoke, builtin, Builtin.len_, run_underlying ht, h1, h3, goInt]
end
/-- What stands behind a cut is let go. -/
theorem arr_cut {α : Type} {r : Rp α} {U : TypeId} {l : Option Nat} {cap : Nat} {xs ys : List α} {j : Int} {w : World} {S : SH} (h : sliceF xs 0 j = some ys) (k : arrP false r U l cap xs w S) : arrP false r U l cap ys w S := by
  obtain ⟨lo, m, hl, rfl, h7, h8, rfl⟩ := sliceF_some h
  have hl0 : lo = 0 := by omega
  subst hl0
  obtain ⟨cells, h1, h2, h3⟩ := k
  have hlen : ((xs.take m).drop 0).length = m := by simp; omega
  have h4 : rcs r S (cells.take (m * r.sz)) (xs.take m) := by
    have e : xs = xs.take m ++ xs.drop m := (List.take_append_drop _ _).symm
    rw [e] at h2
    have := (rcs_split h2).1
    rwa [show (xs.take m).length = m from by simp; omega] at this
  refine ⟨cells.take (m * r.sz), ?_, by simpa using h4, fun b hb => h3 b hb⟩
  rw [hlen]
  cases l with
  | none =>
    obtain ⟨g1, g2⟩ := h1
    exact ⟨by omega, by rw [g2]; simp⟩
  | some b =>
    obtain ⟨cur, g1, g2, g3, g4, g5⟩ := h1
    exact ⟨cur, g1, by omega, g3, g4, by rw [← g5, List.take_take, Nat.min_eq_left (Nat.mul_le_mul_right _ h8)]⟩
theorem St.cut {a : Act} {w : World} {S : SH} {α : Type} {r : Rp α} {U : TypeId} {l : Option Nat} {cap : Nat} {xs ys : List α} {j : Int} (h : sliceF xs 0 j = some ys) (st : St E (arr r U l cap xs :: O) G a w S) : St E (arr r U l cap ys :: O) G a w S :=
  st.own_map fun ho => ⟨⟨arr_cut h ho.1.1, ho.1.2⟩, ho.2.1, ho.2.2⟩
theorem RG.cut {α : Type} {r : Rp α} {U : TypeId} {l : Option Nat} {cap : Nat} {xs ys : List α} {j : Int} (h : sliceF xs 0 j = some ys) (k : RG E ops Q rest (arr r U l cap ys :: O) G) : RG E ops Q rest (arr r U l cap xs :: O) G := fun a w S st => k a w S (st.cut h)
theorem AT.cut {α : Type} {r : Rp α} {U : TypeId} {l : Option Nat} {cap : Nat} {xs ys : List α} {j : Int} (h : sliceF xs 0 j = some ys) (k : AT E Q e (arr r U l cap ys :: O) G) : AT E Q e (arr r U l cap xs :: O) G := fun a w S st => k a w S (st.cut h)
theorem LG.cut {α : Type} {r : Rp α} {U : TypeId} {l : Option Nat} {cap : Nat} {xs ys : List α} {j : Int} (h : sliceF xs 0 j = some ys) (k : LG E Q c (arr r U l cap ys :: O) G) : LG E Q c (arr r U l cap xs :: O) G := fun a w S st => k a w S (st.cut h)
/-- A settled list's part. -/
theorem St.viewAt {a : Act} {w : World} {S : SH} {α : Type} {r : Rp α} {U : TypeId} {l : Option Nat} {cap k : Nat} {xs ys : List α} {lo hi : Int} (hs : sliceF xs lo hi = some ys) (h : St E (tip r U l cap xs :: O) G a w S) (hk : look G k = some (tV (vslV r.sz l cap lo.toNat ys.length))) :
    St E (tip r U l cap xs :: O) ((k, tD (rSl r) ys) :: G) a w S := by
  have hv : a.tmps.getD k undef = vslV r.sz l cap lo.toNat ys.length := h.facts.at_ k _ hk
  refine h.cons ?_
  rw [hv]
  obtain ⟨l', m, rfl, rfl, h7, h8, rfl⟩ := sliceF_some hs
  have hd := tip_data h.own.1.1
  obtain ⟨ad, c, h1, h2, h3, h4⟩ := tSl_iff.1 hd
  have hlen : ((xs.take m).drop l').length = m - l' := by simp; omega
  cases l with
  | none =>
    obtain ⟨cells, g1, _⟩ := h.own.1.1
    have hx : xs = [] := List.eq_nil_of_length_eq_zero g1.1
    subst hx
    have e : ((([] : List α).take m).drop l') = [] := by simp
    rw [e]
    exact tSl_nil
  | some b =>
    have e1 : Value.slice (some ⟨b, 0, none⟩) xs.length cap = .slice ad xs.length c := h1
    injection e1 with e2 _ e3
    subst e2
    subst e3
    have h5 := slArr_part h4 h7 h8 h2
    refine tSl_iff.2 ⟨_, cap - l', ?_, by omega, by omega, h5⟩
    unfold vslV
    simp only [Int.toNat_natCast, hlen, Option.map_some, addr_add, Nat.zero_add]
    split <;> rfl
theorem RG.viewAt {α : Type} {r : Rp α} {U : TypeId} {l : Option Nat} {cap : Nat} {xs ys : List α} {lo hi : Int} (k : Nat) (hs : sliceF xs lo hi = some ys) (hk : look G k = some (tV (vslV r.sz l cap lo.toNat ys.length))) (h : RG E ops Q rest (tip r U l cap xs :: O) ((k, tD (rSl r) ys) :: G)) : RG E ops Q rest (tip r U l cap xs :: O) G := fun a w S st => h a w S (st.viewAt hs hk)
theorem CG.viewAt {α : Type} {r : Rp α} {U : TypeId} {l : Option Nat} {cap : Nat} {xs ys : List α} {lo hi : Int} (k : Nat) (hs : sliceF xs lo hi = some ys) (hk : look G k = some (tV (vslV r.sz l cap lo.toNat ys.length))) (h : CG E Q c (tip r U l cap xs :: O) ((k, tD (rSl r) ys) :: G)) : CG E Q c (tip r U l cap xs :: O) G := fun a w S st => h a w S (st.viewAt hs hk)
end
end Go.Proofs.Ytchjhcgkfglgiaa
