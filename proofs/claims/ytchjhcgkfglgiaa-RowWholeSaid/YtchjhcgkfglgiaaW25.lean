/- A small logic over the walk's rules: bytes of strings, arrays, zeros, nil. It states nothing of any program. -/
import Derived.Test.YtchjhcgkfglgiaaW24
import Derived.Lib.ConvBytes
import Derived.Lib.AppendZeros
import Derived.Laws.MakeOwn
namespace Go.Proofs.Ytchjhcgkfglgiaa
open Go

def ge0 (n : Int) : Option Unit := if 0 ≤ n then some () else none
theorem ge0_some {n : Int} {u : Unit} (h : ge0 n = some u) : 0 ≤ n := by
  unfold ge0 at h
  split at h
  · assumption
  · cases h
section
variable {E : En} {O : List OE} {G : Ctx} {dst : Option Tmp} {ty : TypeId} {pos : String} {after : Array Edge} {g : Option (Nat × Bool)}
/-- The bytes of a string, in a block that is no one's to write. -/
theorem ok_convSB {s : Str} {x : Operand} {st dt e : TypeId} (hs : E.P.underlying st = some .string) (hd : E.P.underlying dt = some (.slice e)) (he : E.P.underlying e = some (.int .u8)) (hx : HasTy E.N G x (tD rS s)) (hmax : s.length ≤ 68719476736) :
    OpOK E O G ⟨dst, .convert st dt x, ty, pos, after, g⟩ (tD (rSl (rI .u8)) (bytesOf s)) :=
  .of_run fun a w S hsat _ hf => by
    have h1 : a.eval x = .string ⟨s.toArray⟩ := tS_iff.1 (hx S a hf)
    have hr := Lib.run_convert_string_bytes (P := E.P) w st dt e ⟨s.toArray⟩ hs hd he
    have hnew := Lib.bytesWorld_at_new w e ⟨s.toArray⟩
    have hold := fun j hj => Lib.bytesWorld_at_old w e ⟨s.toArray⟩ j hj
    have hsz := Lib.bytesWorld_size w e ⟨s.toArray⟩
    have hno : S w.heap.size = none := by
      cases h : S w.heap.size with
      | none => rfl
      | some q => have := hsat.lt h; omega
    have hbs : (ByteArray.mk s.toArray).size = s.length := by simp [ByteArray.size]
    obtain ⟨W, hW⟩ : ∃ W, Lib.bytesWorld w e ⟨s.toArray⟩ = W := ⟨_, rfl⟩
    have hos : W.os = w.os ∧ W.tape = w.tape ∧ W.output = w.output ∧ w.drawn ≤ W.drawn := by
      subst hW
      unfold Lib.bytesWorld World.freeze
      split <;> exact ⟨rfl, rfl, rfl, Nat.le_succ _⟩
    rw [hW] at hr hnew hold hsz
    have hge := grownCap_ge w s.length 0 e
    have hle : grownCap w s.length 0 e ≤ maxLen := grownCap_le_maxLen _ _ _ _ (by simp only [maxLen]; omega)
    have hlb : (bytesOf s).length = s.length := by simp [bytesOf]
    refine ⟨_, W, S.set w.heap.size _, by simp only [execOp, h1, Sem.run_bind, hr, Result.andThen_ok, Sem.run_pure]; rfl,
      ⟨hos.1, hos.2.1, hos.2.2.1, hos.2.2.2, by omega, fun k hk _ => hold k hk, SH.le_set fun q hq => (by rw [hno] at hq; cases hq), fun k hk _ => SH.set_ne _ _ (by omega)⟩, (hsat.same fun b o hb => hold b (hsat.lt hb)).set hnew (ole_refl _), ?_⟩
    refine tSl_iff.2 ⟨_, grownCap w s.length 0 e, by rw [hlb, hbs], by rw [hlb]; exact hge, hle, .inr ⟨w.heap.size, 0, _, _, _, rfl, SH.set_same _ _ _, ?_⟩⟩
    have e1 : ((Lib.bytesCells w e ⟨s.toArray⟩).toList.drop 0).take ((bytesOf s).length * (rI .u8).sz) = s.map fun b => Value.int .u8 b.toNat := by
      have : (rI .u8).sz = 1 := rfl
      rw [this, Nat.mul_one, hlb, List.drop_zero]
      unfold Lib.bytesCells
      rw [Array.toList_append, List.take_append_of_le_length (by simp)]
      simp
      exact List.take_of_length_le (by simp)
    rw [e1]
    exact rcs_bytes s
theorem ok_lenNil {x : Operand} {t e : TypeId} (ht : E.P.underlying t = some (.slice e)) (hx : HasTy E.N G x (tV (.slice none 0 0))) : OpOK E O G ⟨dst, .call ⟨.builtin .len, #[x], #[t]⟩, ty, pos, after, g⟩ (tD (rI .i64) (0 : Int)) :=
  .of_pure fun a w S _ _ hf => by
    have h1 : a.eval x = .slice none 0 0 := hx S a hf
    refine ⟨.int .i64 0, ?_, tI_iff.2 rfl⟩
    simp [execOp, resolve, invoke, builtin, Builtin.len_, run_underlying ht, h1, goInt]
theorem ok_capNil {x : Operand} {t e : TypeId} (ht : E.P.underlying t = some (.slice e)) (hx : HasTy E.N G x (tV (.slice none 0 0))) : OpOK E O G ⟨dst, .call ⟨.builtin .cap, #[x], #[t]⟩, ty, pos, after, g⟩ (tD (rI .i64) (0 : Int)) :=
  .of_pure fun a w S _ _ hf => by
    have h1 : a.eval x = .slice none 0 0 := hx S a hf
    refine ⟨.int .i64 0, ?_, tI_iff.2 rfl⟩
    simp [execOp, resolve, invoke, builtin, Builtin.cap_, run_underlying ht, h1, goInt]
theorem ok_sliceNil {x hi : Operand} {t T : TypeId} {sz bytes : Nat} {agg : Bool} {z : List Value} {k : IntKind} (ht : E.P.underlying t = some (.slice T)) (ti : TI E.P T sz bytes agg z) (hx : HasTy E.N G x (tV (.slice none 0 0))) (hhi : HasTy E.N G hi (tD (rI k) (0 : Int))) :
    OpOK E O G ⟨dst, .slice t x none (some hi) none, ty, pos, after, g⟩ (tV (.slice none 0 0)) :=
  .of_pure fun a w S _ _ hf => by
    have h1 : a.eval x = .slice none 0 0 := hx S a hf
    have h6 := tI_iff.1 (hhi S a hf)
    refine ⟨.slice none 0 0, ?_, rfl⟩
    have hb := run_sliceBound (P := E.P) (w := w) (k := k) (n := (0 : Int)) (y := 0) (code := .sliceAcap) (by omega) (by omega)
    simp [execOp, Instr.sliceAt, h1, h6, Instr.slice, run_underlying ht, Instr.sliceBounds, hb, run_sliceBound (k := k) (n := (0 : Int)) (y := 0) (by omega) (by omega), ti.sizeOf]
end

/-! ### Zeros -/
def zerosF {α : Type} (n : Int) (z : α) : Option (List α) := if 0 ≤ n ∧ n ≤ 68719476736 then some (List.replicate n.toNat z) else none
theorem zerosF_some {α : Type} {n : Int} {z : α} {zs : List α} (h : zerosF n z = some zs) : ∃ m : Nat, n = m ∧ m ≤ 68719476736 ∧ zs = List.replicate m z := by
  unfold zerosF at h
  split at h
  · rename_i hc; exact ⟨n.toNat, by omega, by omega, by simpa using h.symm⟩
  · cases h
theorem rcs_zeros {α : Type} {r : Rp α} {x : α} {z : List Value} (hx : ∀ S, r.rc S z x) (S : SH) : ∀ n : Nat, rcs r S (List.replicate n z).flatten (List.replicate n x)
  | 0 => rfl
  | n + 1 => ⟨z, _, by rw [List.replicate_succ, List.flatten_cons], hx S, rcs_zeros hx S n⟩
theorem range_map_self (z : List Value) : (List.range z.length).map (fun i => z[i % z.length]?.getD default) = z := by
  apply List.ext_getElem?
  intro k
  rcases Nat.lt_or_ge k z.length with h | h
  · rw [List.getElem?_map, List.getElem?_range h]
    simp [Nat.mod_eq_of_lt h, h]
  · rw [List.getElem?_eq_none (by simpa using h), List.getElem?_eq_none h]
theorem zeroCells_toList (z : List Value) (n : Nat) : (Builtin.zeroCells z.toArray n).toList = (List.replicate n z).flatten := by
  unfold Builtin.zeroCells
  simp
  induction n with
  | zero => simp
  | succ n ih =>
    rw [List.replicate_succ, List.flatten_cons, ← ih, Nat.succ_mul, Nat.add_comm, List.range_add, List.map_append, range_map_self, List.map_map]
    congr 1
    apply List.map_congr_left
    intro i _
    simp
theorem madeCells_toList (z : List Value) (n sz : Nat) (h : z.length = sz) : (madeCells z.toArray (n * sz)).toList = (List.replicate n z).flatten := by
  subst h
  have := zeroCells_toList z n
  unfold Builtin.zeroCells at this
  unfold madeCells
  simpa using this
section
variable {E : En} {O : List OE} {G : Ctx} {Q : Exit → Act → World → Prop} {ops : Array Oper} {rest : List Oper} {d : Nat} {ty : TypeId} {pos : String} {after : Array Edge} {g : Option (Nat × Bool)}
theorem flat_len {z : List Value} {sz : Nat} (h : z.length = sz) (n : Nat) : (List.replicate n z).flatten.length = n * sz := by
  simp [h]
/-- make, of so many zeros. -/
theorem eff_make {α : Type} {r : Rp α} {x : α} {T t : TypeId} {sz bytes : Nat} {agg : Bool} {z : List Value} {n : Int} {zs : List α} {y y' : Operand} {k k' : IntKind} (ti : TI E.P T sz bytes agg z) (hsz : r.sz = sz) (hz : Nat.beq z.length sz = true) (h128 : Nat.ble bytes 2048 = true) (ht : E.P.underlying t = some (.slice T)) (hx : ∀ S, r.rc S z x)
    (hy : HasTy E.N G y (tD (rI k) n)) (hy' : HasTy E.N G y' (tD (rI k') n)) (h : zerosF n x = some zs) :
    EffOK E O G ⟨some d, .makeSlice t y y', ty, pos, after, g⟩ (fun i => arr r T i.1 i.2 zs :: O) (fun i => tV (oslV i.1 i.2 zs.length)) := fun a w S hs ho hf hb => by
  subst hsz
  obtain ⟨i, zv, hi, h1, h2, h3, h4⟩ := ti.get
  obtain ⟨m, rfl, hm, rfl⟩ := zerosF_some h
  have hyv := tI_iff.1 (hy S a hf)
  have hyv' := tI_iff.1 (hy' S a hf)
  have hz2 : z.length = r.sz := Nat.eq_of_beq_eq_true hz
  have h128' := Nat.le_of_ble_eq_true h128
  have hbytes : (i.bytes : Int) * (m : Int) ≤ 281474976710656 := by
    have : i.bytes * m ≤ 2048 * 68719476736 := Nat.mul_le_mul (by omega) hm
    have h5 : ((i.bytes * m : Nat) : Int) ≤ 281474976710656 := by omega
    rwa [Int.natCast_mul] at h5
  have hr := run_make (P := E.P) w t T i zv ht hi h3 k k' (m : Int) (m : Int) (by omega) (Int.le_refl _) hbytes (by omega)
  rw [Int.toNat_natCast, h1, h4] at hr
  obtain ⟨he, hs', hno⟩ := Ext.alloc_own (w := w) (.cells (madeCells z.toArray (m * r.sz)) T (0, 0)) hs
  have hrun : (execOp a.eval ⟨some d, .makeSlice t y y', ty, pos, after, g⟩).run E.P w = .ok (.value (.slice (some ⟨w.heap.size, 0, none⟩) m m)) (w.alloc (.cells (madeCells z.toArray (m * r.sz)) T (0, 0))) := by
    simp [execOp, hyv, hyv', hr]
  refine ⟨fun c h => (by cases h), ?_⟩
  rw [hrun]
  have hfl := flat_len hz2 m
  refine ⟨_, S, (some w.heap.size, m), rfl, he.more fun _ hb => hb.elim, hs', own_new ho he ⟨(List.replicate m z).flatten, ⟨_, heap_alloc_new w _, by simp, by simp only [maxLen]; omega, by rw [size_madeCells], ?_⟩, rcs_zeros hx S m, fun b hb => by rw [← Option.some.inj hb]; exact hno⟩ (fun b hb => Nat.le_of_eq (Option.some.inj hb)) hb, ?_⟩
  · rw [madeCells_toList z m r.sz hz2, List.length_replicate]
    exact List.take_of_length_le (by omega)
  · show _ = oslV _ _ _
    rw [List.length_replicate]; rfl
/-- append(nil, make(.., n)...). -/
theorem eff_appendZ {α : Type} {r : Rp α} {x : α} {T t t' : TypeId} {sz bytes : Nat} {agg : Bool} {z : List Value} {n : Int} {zs : List α} {s y : Operand} {k kn : IntKind} (ti : TI E.P T sz bytes agg z) (hsz : r.sz = sz) (hz : Nat.beq z.length sz = true) (h0 : Nat.blt 0 sz = true) (h128 : Nat.ble bytes 2048 = true) (ht : E.P.underlying t = some (.slice T)) (ht' : E.P.underlying t' = some (.int kn)) (hx : ∀ S, r.rc S z x)
    (hs' : HasTy E.N G s (tV (.slice none 0 0))) (hy : HasTy E.N G y (tD (rI k) n)) (hn : 0 < n) (h : zerosF n x = some zs) :
    EffOK E O G ⟨some d, .call ⟨.builtin .append, #[s, y], #[t, t']⟩, ty, pos, after, g⟩ (fun i => arr r T i.1 i.2 zs :: O) (fun i => tV (oslV i.1 i.2 zs.length)) := fun a w S hs ho hf hb => by
  subst hsz
  obtain ⟨i, zv, hi, h1, h2, h3, h4⟩ := ti.get
  obtain ⟨m, rfl, hm, rfl⟩ := zerosF_some h
  have hsv : a.eval s = .slice none 0 0 := hs' S a hf
  have hyv := tI_iff.1 (hy S a hf)
  have hz2 : z.length = r.sz := Nat.eq_of_beq_eq_true hz
  have h128' := Nat.le_of_ble_eq_true h128
  have h0' : 0 < r.sz := by simpa [Nat.blt_eq] using h0
  have hbytes : m * i.bytes ≤ 281474976710656 := by
    have : m * i.bytes ≤ 68719476736 * 2048 := Nat.mul_le_mul hm (by omega)
    omega
  have hr := Lib.run_append_nil_zeros (P := E.P) w t t' ty T i zv k kn ht ht' hi h3 m (by omega) (by omega) (by omega) hbytes
  have hge := grownCap_ge w m 0 T
  have hle := grownCap_le_maxLen w m 0 T (by simp only [maxLen]; omega)
  generalize grownCap w m 0 T = cp at hr hge hle
  obtain ⟨C, hC⟩ : ∃ C, Builtin.zeroCells zv.cells m ++ Builtin.zeroCells zv.cells (cp - m) = C := ⟨_, rfl⟩
  rw [hC] at hr
  obtain ⟨he0, hs0⟩ := Ext.draw (w := w) hs
  obtain ⟨he, hs2, hno⟩ := Ext.alloc_own (w := w.drew) (.cells C T (0, 0)) hs0
  have hx2 : Ext noB w S (w.drew.alloc (.cells C T (0, 0))) S := he0.trans he
  have hrun : (execOp a.eval ⟨some d, .call ⟨.builtin .append, #[s, y], #[t, t']⟩, ty, pos, after, g⟩).run E.P w = .ok (.value (.slice (some ⟨w.heap.size, 0, none⟩) m cp)) (w.drew.alloc (.cells C T (0, 0))) := by
    simp [execOp, resolve, invoke, builtin, hsv, hyv, hr]
  refine ⟨fun c h => (by cases h), ?_⟩
  rw [hrun]
  have hfl := flat_len hz2 m
  have hC1 : C.toList = (List.replicate m z).flatten ++ (List.replicate (cp - m) z).flatten := by
    rw [← hC, Array.toList_append, h4, zeroCells_toList, zeroCells_toList]
  refine ⟨_, S, (some w.heap.size, cp), rfl, hx2.more fun _ hb => hb.elim, hs2, own_new ho hx2 ⟨(List.replicate m z).flatten, ⟨C, heap_alloc_new w.drew _, by simpa using hge, hle, ?_, ?_⟩, rcs_zeros hx S m, fun b hb => by rw [← Option.some.inj hb]; exact hno⟩ (fun b hb => Nat.le_of_eq (Option.some.inj hb)) hb, ?_⟩
  · have : C.toList.length = cp * r.sz := by
      rw [hC1, List.length_append, hfl, flat_len hz2, ← Nat.add_mul]; congr 1; omega
    simpa using this
  · rw [hC1, List.length_replicate, ← hfl, List.take_left]
  · show _ = oslV _ _ _
    rw [List.length_replicate]; rfl

/-! ### clear, of what stands behind a place -/
theorem RG.clearV {α : Type} {r : Rp α} {x : α} {T t : TypeId} {sz bytes : Nat} {agg : Bool} {z : List Value} {l : Option Nat} {cap : Nat} {xs ys zs : List α} {lo : Int} {y : Operand} (ti : TI E.P T sz bytes agg z) (hsz : r.sz = sz) (hz : Nat.beq z.length sz = true) (ht : E.P.underlying t = some (.slice T)) (hx : ∀ S, r.rc S z x) (hone : z.all (·.oneCell') = true)
    (hs : sliceF xs lo (xs.length : Int) = some ys) (hy : HasTy E.N G y (tV (vslV sz l cap lo.toNat ys.length))) (hzs : xs.take lo.toNat ++ List.replicate ys.length x = zs) (k : RG E ops Q rest (arr r T l cap zs :: O) G) :
    RG E ops Q (⟨none, .call ⟨.builtin .clear, #[y], #[t]⟩, ty, pos, after, none⟩ :: rest) (arr r T l cap xs :: O) G := .of rfl fun a w S st => by
  subst hsz
  subst hzs
  obtain ⟨i, zv, hi, h1, h2, h3, h4⟩ := ti.get
  have hyv : a.eval y = vslV r.sz l cap lo.toNat ys.length := hy S a st.facts
  have hz2 : z.length = r.sz := Nat.eq_of_beq_eq_true hz
  obtain ⟨lo', m, rfl, hm, h5, h6, rfl⟩ := sliceF_some hs
  have hm' : m = xs.length := by omega
  subst hm'
  rw [List.take_length] at hyv k
  rw [Int.toNat_natCast] at hyv k
  by_cases hnil : xs.drop lo' = []
  · have hlo : xs.length ≤ lo' := List.drop_eq_nil_iff.1 hnil
    rw [hnil] at hyv k
    have e1 : xs.take lo' ++ List.replicate ([] : List α).length x = xs := by simp [List.take_of_length_le hlo]
    rw [e1] at k
    have hrun : (execOp a.eval ⟨none, .call ⟨.builtin .clear, #[y], #[t]⟩, ty, pos, after, none⟩).run E.P w = .ok (.value (.tuple #[])) w := by
      cases l <;> simp [execOp, resolve, invoke, builtin, Builtin.clear_, run_underlying ht, hyv, vslV]
    refine ⟨fun c h => (by cases h), ?_⟩
    rw [hrun]
    exact k _ _ S st
  · obtain ⟨⟨cells, hraw, hrc, hno⟩, hbase⟩ := st.own.1
    have hlt : lo' < xs.length := by
      rcases Nat.lt_or_ge lo' xs.length with h | h
      · exact h
      · exact absurd (List.drop_eq_nil_of_le h) hnil
    cases l with
    | none => have := hraw.1; omega
    | some b =>
      obtain ⟨cur, g1, g2, g3, g4, g5⟩ := hraw
      have hno' : S b = none := hno b rfl
      have hne : ¬ (cap = lo') := by omega
      have hld : (xs.drop lo').length = xs.length - lo' := by simp
      have hfl := flat_len hz2 (xs.length - lo')
      have hones : ∀ u ∈ (List.replicate (xs.length - lo') z).flatten, u.oneCell' = true := by
        intro u hu
        obtain ⟨q, hq, hu⟩ := List.mem_flatten.1 hu
        rw [(List.mem_replicate.1 hq).2] at hu
        exact List.all_eq_true.1 hone u hu
      have hmul : xs.length * r.sz ≤ cur.size := by rw [g4]; exact Nat.mul_le_mul_right _ g2
      have hfit : lo' * r.sz + (xs.length - lo') * r.sz = xs.length * r.sz := by rw [← Nat.add_mul]; congr 1; omega
      have hst := run_storeCells_at E.P b (lo' * r.sz) T (List.replicate (xs.length - lo') z).flatten 0 cur w g1 (by omega) hones
      simp only [Nat.add_zero] at hst
      have hrun : (execOp a.eval ⟨none, .call ⟨.builtin .clear, #[y], #[t]⟩, ty, pos, after, none⟩).run E.P w = .ok (.value (.tuple #[])) (w.setRow b (cur.toList.take (lo' * r.sz) ++ (List.replicate (xs.length - lo') z).flatten ++ cur.toList.drop (lo' * r.sz + (List.replicate (xs.length - lo') z).flatten.length)).toArray) := by
        have e1 : ∃ q, xs.length - lo' = q + 1 := ⟨xs.length - lo' - 1, by omega⟩
        obtain ⟨q, hq⟩ := e1
        have e2 : a.eval y = .slice (some ⟨b, lo' * r.sz, none⟩) (q + 1) (cap - lo') := by rw [hyv, hld, hq]; simp [vslV, hne]
        rw [hq] at hst ⊢
        simp [execOp, resolve, invoke, builtin, Builtin.clear_, run_underlying ht, e2, zeroValue, typeInfo, hi, h3, h4, zeroCells_toList, hst]
      refine ⟨fun c h => (by cases h), ?_⟩
      rw [hrun]
      have hset := setRow_heap w b cur (cur.toList.take (lo' * r.sz) ++ (List.replicate (xs.length - lo') z).flatten ++ cur.toList.drop (lo' * r.sz + (List.replicate (xs.length - lo') z).flatten.length)).toArray T _ g1
      have hl2 : (xs.take lo' ++ List.replicate (xs.drop lo').length x).length = xs.length := by simp; omega
      have hsp : rcs r S (cells.take (lo' * r.sz)) (xs.take lo') := by
        have e : xs = xs.take lo' ++ xs.drop lo' := (List.take_append_drop _ _).symm
        rw [e] at hrc
        have := (rcs_split hrc).1
        rwa [show (xs.take lo').length = lo' from by simp; omega] at this
      have hcl : ((cur.toList.take (lo' * r.sz) ++ (List.replicate (xs.length - lo') z).flatten ++ cur.toList.drop (lo' * r.sz + (List.replicate (xs.length - lo') z).flatten.length)).toArray).toList.take ((xs.take lo' ++ List.replicate (xs.drop lo').length x).length * r.sz) = cells.take (lo' * r.sz) ++ (List.replicate (xs.length - lo') z).flatten := by
        rw [hl2, ← g5, List.take_take, Nat.min_eq_left (Nat.mul_le_mul_right _ (by omega))]
        have hlen1 : (cur.toList.take (lo' * r.sz) ++ (List.replicate (xs.length - lo') z).flatten).length = xs.length * r.sz := by
          rw [List.length_append, hfl, List.length_take, Array.length_toList, Nat.min_eq_left (by omega)]; exact hfit
        rw [← hlen1, List.take_left]
      obtain ⟨q1, q2, q3⟩ := own_write (O := O) st.sat (arr r T (some b) cap xs) (arr r T (some b) cap (xs.take lo' ++ List.replicate (xs.drop lo').length x)) st.own (fun k => ⟨fun h => (Option.some.inj h).symm, fun h => by rw [h]; rfl⟩) (fun k => ⟨fun h => (Option.some.inj h).symm, fun h => by rw [h]; rfl⟩)
        (w' := w.setRow b (cur.toList.take (lo' * r.sz) ++ (List.replicate (xs.length - lo') z).flatten ++ cur.toList.drop (lo' * r.sz + (List.replicate (xs.length - lo') z).flatten.length)).toArray) ⟨rfl, rfl, rfl, by simp [World.setRow], Nat.le_refl _⟩ (fun k hk => setRow_other w b k _ hk)
        ⟨cells.take (lo' * r.sz) ++ (List.replicate (xs.length - lo') z).flatten, ⟨_, hset, by rw [hl2]; exact g2, g3, by simp only [List.size_toArray, List.length_append, List.length_take, List.length_drop, Array.length_toList]; omega, hcl⟩, by rw [hld]; exact rcs_append hsp (rcs_zeros hx S _), fun k hk => by rw [← Option.some.inj hk]; exact hno'⟩ hno'
      · exact k _ _ S ⟨st.ext.step q1 (fun c hc => hbase c (by rw [hc]; rfl)), q2, q3, st.facts⟩
end

/-! ### Arrays -/
def rArr {α : Type} (r : Rp α) (n : Nat) : Rp (List α) where
  sz := n * r.sz
  agg := true
  rc := fun S cs xs => xs.length = n ∧ rcs r S cs xs
  mono := fun h ⟨h1, h2⟩ => ⟨h1, rcs_mono h h2⟩
  len := fun ⟨h1, h2⟩ => by rw [rcs_len h2, h1]
  one := fun ⟨_, h2⟩ => rcs_one h2
  sc := fun h => by cases h
section
variable {E : En} {O : List OE} {G : Ctx} {Q : Exit → Act → World → Prop} {ops : Array Oper} {rest : List Oper}
section
variable {dst : Option Tmp} {ty : TypeId} {pos : String} {after : Array Edge} {g : Option (Nat × Bool)}
theorem ok_indexAddrP {α : Type} {r : Rp α} {n : Nat} {xs : List α} {x ix : Operand} {y : α} {t e : TypeId} {k : IntKind} {i : Int} {sz bytes : Nat} {agg : Bool} {z : List Value} (ht : E.P.underlying t = some (.array n e)) (ti : TI E.P e sz bytes agg z) (hsz : r.sz = sz) (hx : HasTy E.N G x (tPtr (rArr r n) xs)) (hi : HasTy E.N G ix (tD (rI k) i)) (hy : idx xs i = some y) :
    OpOK E O G ⟨dst, .indexAddr t x ix, ty, pos, after, g⟩ (tPtr r y) :=
  .of_pure fun a w S _ _ hf => by
    subst hsz
    obtain ⟨b, off, c, T, fr, h1, h2, h3, h4⟩ := hx S a hf
    have h5 : a.eval ix = .int k i := tI_iff.1 (hi S a hf)
    obtain ⟨h0, hy'⟩ := idx_some hy
    have hlt : i.toNat < xs.length := (List.getElem?_eq_some_iff.1 hy').1
    have hc : 0 ≤ i ∧ i < (n : Int) := ⟨h0, by omega⟩
    refine ⟨.pointer (some ⟨b, off + i.toNat * r.sz, none⟩), ?_, b, _, c, T, fr, rfl, h2, ?_⟩
    · simp [execOp, h1, h5, Instr.indexAt, asIntOf, run_underlying ht, Instr.sureAddr, hc, ti.sizeOf, addr_add]
    · have h6 := rcs_get h4 hy'
      rw [List.drop_take, List.take_take, List.drop_drop] at h6
      have hmul : i.toNat * r.sz + r.sz ≤ n * r.sz := by rw [← Nat.succ_mul]; exact Nat.mul_le_mul_right _ (by omega)
      have hmin : min r.sz ((rArr r n).sz - i.toNat * r.sz) = r.sz := by
        show min r.sz (n * r.sz - i.toNat * r.sz) = r.sz
        omega
      rwa [hmin] at h6
/-- A place in an array of one's own. -/
theorem ok_indexAddrX {α : Type} {r : Rp α} {n : Nat} {T : TypeId} {b : Nat} {xs : List α} {x ix : Operand} {y : α} {t e : TypeId} {k : IntKind} {i : Int} {sz bytes : Nat} {agg : Bool} {z : List Value} (ht : E.P.underlying t = some (.array n e)) (ti : TI E.P e sz bytes agg z)
    (hm : bx (rArr r n) T b xs ∈ O) (hx : HasTy E.N G x (tV (bptr b 0))) (hi : HasTy E.N G ix (tD (rI k) i)) (hy : idx xs i = some y) :
    OpOK E O G ⟨dst, .indexAddr t x ix, ty, pos, after, g⟩ (tV (bptr b (i.toNat * sz))) :=
  .of_pure fun a w S _ ho hf => by
    have h1 : a.eval x = bptr b 0 := hx S a hf
    have h5 : a.eval ix = .int k i := tI_iff.1 (hi S a hf)
    obtain ⟨⟨_, c, _, h4, _⟩, _⟩ := ho.mem _ hm
    obtain ⟨h0, hy'⟩ := idx_some hy
    have hlt : i.toNat < xs.length := (List.getElem?_eq_some_iff.1 hy').1
    have hc : 0 ≤ i ∧ i < (n : Int) := ⟨h0, by omega⟩
    refine ⟨_, ?_, rfl⟩
    simp [execOp, h1, h5, bptr, Instr.indexAt, asIntOf, run_underlying ht, Instr.sureAddr, hc, ti.sizeOf, addr_add]
end
theorem fld_arr {α : Type} {r : Rp α} {n : Nat} {xs : List α} {i : Int} {y : α} (hy : idx xs i = some y) {S : SH} {cs : List Value} (h : (rArr r n).rc S cs xs) : r.rc S ((cs.drop (i.toNat * r.sz)).take r.sz) y := rcs_get h.2 (idx_some hy).2
theorem ok_loadX {α : Type} {r : Rp α} {n : Nat} {T U : TypeId} {b : Nat} {xs : List α} {y : α} {i : Int} {sz bytes : Nat} {agg : Bool} {z : List Value} {p : Operand} {dst : Option Tmp} {ty : TypeId} {pos : String} {after : Array Edge} {g : Option (Nat × Bool)} (ti : TI E.P U sz bytes agg z) (hsz : r.sz = sz) (hag : r.agg = agg)
    (hm : bx (rArr r n) T b xs ∈ O) (hy : idx xs i = some y) (hp : HasTy E.N G p (tV (bptr b (i.toNat * r.sz)))) : OpOK E O G ⟨dst, .load U p, ty, pos, after, g⟩ (tD r y) :=
  .of_pure fun a w S _ ho hf => by
    have h1 : a.eval p = bptr b (i.toNat * r.sz) := hp S a hf
    obtain ⟨⟨_, cur, h5, h6⟩, _⟩ := ho.mem _ hm
    have h7 := fld_arr hy h6
    refine ⟨_, ?_, _, rfl, h7⟩
    simp [execOp, h1, bptr, Instr.loadAt, Instr.sureAddr, run_loadVar_in ti h5 hsz hag h7]
theorem RG.storeX {α : Type} {r : Rp α} {n : Nat} {T U : TypeId} {b : Nat} {xs zs : List α} {y v : α} {i : Int} {sz bytes : Nat} {agg : Bool} {z : List Value} {p x : Operand} {ty : TypeId} {pos : String} {after : Array Edge} (ti : TI E.P U sz bytes agg z) (hsz : r.sz = sz)
    (hy : idx xs i = some y) (hz : xs.set i.toNat v = zs) (hp : HasTy E.N G p (tV (bptr b (i.toNat * r.sz)))) (hv : HasTy E.N G x (tD r v)) (k : RG E ops Q rest (bx (rArr r n) T b zs :: O) G) : RG E ops Q (⟨none, .store U p x, ty, pos, after, none⟩ :: rest) (bx (rArr r n) T b xs :: O) G := .of rfl fun a w S st => by
  subst hz
  have h1 : a.eval p = bptr b (i.toNat * r.sz) := hp S a st.facts
  obtain ⟨ds, h2, h3⟩ := hv S a st.facts
  obtain ⟨⟨hno, cur, h5, h6⟩, _⟩ := st.own.1
  obtain ⟨h0, hy'⟩ := idx_some hy
  have hlt : i.toNat < xs.length := (List.getElem?_eq_some_iff.1 hy').1
  have hl := rcs_len h6.2
  simp only [Array.length_toList] at hl
  have hmul : i.toNat * r.sz + r.sz ≤ xs.length * r.sz := by rw [← Nat.succ_mul]; exact Nat.mul_le_mul_right _ hlt
  obtain ⟨w', hr, e1, e2, e3, e4, e5, e6⟩ := run_storeVar_at ti hsz h3 h5 (off := i.toNat * r.sz) (by omega)
  have hrun : (execOp a.eval ⟨none, .store U p x, ty, pos, after, none⟩).run E.P w = .ok .skip w' := by
    simp [execOp, h1, h2, Instr.storeAt, bptr, Instr.sureAddr, hr]
  refine ⟨fun c h => (by cases h), ?_⟩
  rw [hrun]
  obtain ⟨g1, g2, g3⟩ := own_write (O := O) st.sat (bx (rArr r n) T b xs) (bx (rArr r n) T b (xs.set i.toNat v)) st.own (fun _ => Iff.rfl) (fun _ => Iff.rfl) ⟨e1, e2, e3, e4.1, e4.2⟩ e6 ⟨hno, _, e5, by rw [List.length_set]; exact h6.1, rcs_set h3 h6.2 hlt⟩ hno
  exact k _ _ S ⟨st.ext.step g1 (fun c hc => st.own.1.2 c hc), g2, g3, st.facts⟩
end
theorem rcs_replicate {α : Type} {r : Rp α} {c : Value} {x : α} (h : ∀ S, r.rc S [c] x) (S : SH) : ∀ n, rcs r S (List.replicate n c) (List.replicate n x)
  | 0 => rfl
  | n + 1 => ⟨[c], _, rfl, h S, rcs_replicate h S n⟩
theorem arr_zero {α : Type} {r : Rp α} {c : Value} {x : α} (n : Nat) (h : ∀ S, r.rc S [c] x) : ∀ S, (rArr r n).rc S (List.replicate n c) (List.replicate n x) := fun S => ⟨List.length_replicate, rcs_replicate h S n⟩
def fits (n : Nat) : Option Unit := if n ≤ 68719476736 then some () else none
theorem fits_some {n : Nat} {u : Unit} (h : fits n = some u) : n ≤ 68719476736 := by
  unfold fits at h
  split at h
  · assumption
  · cases h
def gt0 (n : Int) : Option Unit := if 0 < n then some () else none
theorem gt0_some {n : Int} {u : Unit} (h : gt0 n = some u) : 0 < n := by
  unfold gt0 at h
  split at h
  · assumption
  · cases h
theorem AT.fresh {α : Type} {E : En} {Q : Exit → Act → World → Prop} {e : Exit} {O : List OE} {G : Ctx} (mm : Bool) (r : Rp α) (T : TypeId) (h : AT E Q e (arrM mm r T none 0 [] :: O) G) : AT E Q e O G := fun a w S st => h a w S (st.fresh mm r T)
theorem clear_len {α : Type} {xs ys zs : List α} {lo : Int} {x : α} (h : sliceF xs lo (xs.length : Int) = some ys) (hz : xs.take lo.toNat ++ List.replicate ys.length x = zs) : zs.length = xs.length := by
  obtain ⟨l, m, rfl, hm, h1, h2, rfl⟩ := sliceF_some h
  have hm' : m = xs.length := by omega
  subst hm'
  rw [← hz]
  simp
  omega
end Go.Proofs.Ytchjhcgkfglgiaa
