/- A small logic over the walk's rules: memory that a call makes. It states nothing of any program. -/
import Derived.Test.YtchjhcgkfglgiaaW4
import Derived.Laws.AppendOwn
import Derived.Deep.Upon
import Derived.Lib.AppendStr
namespace Go.Proofs.Ytchjhcgkfglgiaa
open Go

/-! ### New blocks -/
theorem heap_alloc_lt {w : World} {o : Obj} {k : Nat} (h : k < w.heap.size) : (w.alloc o).heap[k]? = w.heap[k]? := RowKit.Below.heap_alloc w o k h
/-- A new block that is no one's to write. -/
def SH.set (S : SH) (b : Nat) (o : Obj) : SH := fun k => if k = b then some o else S k
theorem SH.set_same (S : SH) (b : Nat) (o : Obj) : S.set b o b = some o := if_pos rfl
theorem SH.set_ne (S : SH) {b k : Nat} (o : Obj) (h : k ≠ b) : S.set b o k = S k := if_neg h
theorem SH.le_set {S : SH} {b : Nat} {o : Obj} (h : ∀ q, S b = some q → ole q o) : SH.le S (S.set b o) := fun k q hq => by
  by_cases hk : k = b
  · subst hk; exact ⟨o, SH.set_same _ _ _, h q hq⟩
  · exact ⟨q, by rw [SH.set_ne _ _ hk]; exact hq, ole_refl q⟩
theorem Sat.set {w : World} {S : SH} (h : Sat w S) {b : Nat} {o o' : Obj} (h1 : w.heap[b]? = some o') (h2 : ole o o') : Sat w (S.set b o) := fun k q hq => by
  by_cases hk : k = b
  · subst hk
    rw [SH.set_same] at hq
    cases hq
    exact ⟨o', h1, h2⟩
  · rw [SH.set_ne _ _ hk] at hq; exact h k q hq
theorem Ext.alloc_own {w : World} {S : SH} (o : Obj) (hs : Sat w S) : Ext noB w S (w.alloc o) S ∧ Sat (w.alloc o) S ∧ S w.heap.size = none := by
  refine ⟨⟨rfl, rfl, rfl, Nat.le_refl _, by simp, fun k hk _ => heap_alloc_lt hk, SH.le_refl _, fun _ _ _ => rfl⟩, hs.same fun b q hb => heap_alloc_lt (hs.lt hb), ?_⟩
  cases h : S w.heap.size with
  | none => rfl
  | some q => have := hs.lt h; omega
theorem Ext.alloc_settled {w : World} {S : SH} (o : Obj) (hs : Sat w S) : Ext noB w S (w.alloc o) (S.set w.heap.size o) ∧ Sat (w.alloc o) (S.set w.heap.size o) := by
  obtain ⟨h1, h2, h3⟩ := Ext.alloc_own o hs
  refine ⟨⟨rfl, rfl, rfl, Nat.le_refl _, by simp, fun k hk _ => heap_alloc_lt hk, SH.le_set fun q hq => (by rw [h3] at hq; cases hq), fun k hk _ => SH.set_ne _ _ (by omega)⟩, h2.set (heap_alloc_new w o) (ole_refl o)⟩
theorem Ext.draw {w : World} {S : SH} (hs : Sat w S) : Ext noB w S w.drew S ∧ Sat w.drew S := ⟨⟨rfl, rfl, rfl, Nat.le_succ _, Nat.le_refl _, fun _ _ _ => rfl, SH.le_refl _, fun _ _ _ => rfl⟩, hs⟩

/-! ### What a call has of its own -/
/-- A list of the call's own, to which is appended. -/
def oslV (l : Option Nat) (cap n : Nat) : Value :=
  match l with
  | none => .slice none 0 0
  | some b => .slice (some ⟨b, 0, none⟩) n cap
/-- The cells of such a list. -/
def RawAt (w : World) (T : TypeId) (sz : Nat) (l : Option Nat) (cap n : Nat) (cells : List Value) : Prop :=
  match l with
  | none => n = 0 ∧ cells = []
  | some b => ∃ cur, w.heap[b]? = some (.cells cur T (0, 0)) ∧ n ≤ cap ∧ cap ≤ maxLen ∧ cur.size = cap * sz ∧ cur.toList.take (n * sz) = cells
/-- A list of one's own: not settled (its elements may be written); or settled as far as it goes (m). -/
def arrP {α : Type} (m : Bool) (r : Rp α) (T : TypeId) (l : Option Nat) (cap : Nat) (xs : List α) (w : World) (S : SH) : Prop :=
  ∃ cells, RawAt w T r.sz l cap xs.length cells ∧ rcs r S cells xs ∧ ∀ b, l = some b → S b = if m then some (.cells cells.toArray T (0, 0)) else none
theorem RawAt.lt {w : World} {T : TypeId} {sz b cap n : Nat} {cells : List Value} (h : RawAt w T sz (some b) cap n cells) : b < w.heap.size := by
  obtain ⟨cur, h1, _⟩ := h
  exact (Array.getElem?_eq_some_iff.1 h1).1
theorem RawAt.ext {w w' : World} {T : TypeId} {sz cap n : Nat} {l : Option Nat} {cells : List Value} (h : RawAt w T sz l cap n cells) (k : ∀ b, l = some b → w'.heap[b]? = w.heap[b]?) : RawAt w' T sz l cap n cells := by
  cases l with
  | none => exact h
  | some b =>
    obtain ⟨cur, h1, h2⟩ := h
    exact ⟨cur, by rw [k b rfl]; exact h1, h2⟩
def arrM {α : Type} (m : Bool) (r : Rp α) (T : TypeId) (l : Option Nat) (cap : Nat) (xs : List α) : OE where
  fp := fun k => l = some k
  p := arrP m r T l cap xs
  here := by
    intro w S h k hk
    subst hk
    obtain ⟨cells, h1, _⟩ := h
    exact h1.lt
  kept := by
    intro C w w' S S' h k hC
    obtain ⟨cells, h1, h2, h3⟩ := h
    refine ⟨cells, h1.ext fun b hb => ?_, rcs_mono k.keep h2, fun b hb => ?_⟩
    · subst hb; exact k.heap b h1.lt (hC b rfl)
    · subst hb; rw [k.old b h1.lt (hC b rfl)]; exact h3 b rfl
abbrev arr {α : Type} (r : Rp α) (T : TypeId) (l : Option Nat) (cap : Nat) (xs : List α) : OE := arrM false r T l cap xs
abbrev tip {α : Type} (r : Rp α) (T : TypeId) (l : Option Nat) (cap : Nat) (xs : List α) : OE := arrM true r T l cap xs
def app {α : Type} (xs ys : List α) : Option (List α) := if xs.length + ys.length ≤ 68719476736 then some (xs ++ ys) else none
theorem app_some {α : Type} {xs ys zs : List α} (h : app xs ys = some zs) : zs = xs ++ ys ∧ xs.length + ys.length ≤ 68719476736 := by
  unfold app at h
  split at h
  · exact ⟨by simpa using h.symm, by assumption⟩
  · cases h
theorem oslV_nil {l : Option Nat} {cap n : Nat} (h : oslV l cap n = .slice none 0 0) : l = none := by
  cases l with
  | none => rfl
  | some b => simp [oslV] at h

/-! ### append -/
theorem run_append_room_row {P : Program} {w : World} {t tx ty e : TypeId} {i : TypeInfo} (ht : P.underlying t = some (.slice e)) (hi : P.info? e = some i) {g sLen sCap : Nat} {cur : Array Value} (hg : w.heap[g]? = some (.cells cur e (0, 0)))
    {x : Value} {n : Nat} {news : List Value} (hs : Src P i.size tx x n news w) (hroom : sLen + n ≤ sCap) (hfit : sLen * i.size + news.length ≤ cur.size) :
    (Builtin.append_ #[t, tx] ty #[.slice (some ⟨g, 0, none⟩) sLen sCap, x]).run P w =
      .ok (.slice (some ⟨g, 0, none⟩) (sLen + n) sCap) (w.setRow g (cur.toList.take (sLen * i.size) ++ news ++ cur.toList.drop (sLen * i.size + news.length)).toArray) := by
  have hst := run_storeCells_at P g (sLen * i.size) e news 0 cur w hg (by simpa using hfit) hs.one
  simp only [Nat.add_zero] at hst
  rcases hs.kind with ⟨e', hk⟩ | hk <;> simp [Builtin.append_, run_underlying ht, run_underlying hk, sizeOf, typeInfo, hi, hs.len, hroom, hs.cells, Addr.add_lit, hst]
structure Grown (l : Option Nat) (w w' : World) : Prop where
  os : w'.os = w.os
  tape : w'.tape = w.tape
  output : w'.output = w.output
  drawn : w.drawn ≤ w'.drawn
  size : w.heap.size ≤ w'.heap.size
  heap : ∀ k, k < w.heap.size → l ≠ some k → w'.heap[k]? = w.heap[k]?
/-- append, of whatever source, to a list of the call's own: the cells. -/
theorem run_append_raw {P : Program} {T t t' ty : TypeId} {sz bytes : Nat} {agg : Bool} {z : List Value} {l : Option Nat} {cap n m : Nat} {cells news : List Value} {w : World} {x : Value}
    (ti : TI P T sz bytes agg z) (hz : Nat.beq z.length sz = true) (h0 : Nat.blt 0 sz = true) (h128 : Nat.ble bytes 2048 = true) (ht : P.underlying t = some (.slice T))
    (h : RawAt w T sz l cap n cells) (hs : Src P sz t' x m news w) (hlen : n + m ≤ 68719476736) :
    ∃ l' cap' w', (Builtin.append_ #[t, t'] ty #[oslV l cap n, x]).run P w = .ok (oslV l' cap' (n + m)) w' ∧ RawAt w' T sz l' cap' (n + m) (cells ++ news) ∧ Grown l w w' ∧ (∀ b, l' = some b → l = some b ∨ w.heap.size ≤ b) ∧ (∀ b, l = some b → l' ≠ some b → w'.heap[b]? = w.heap[b]?) := by
  obtain ⟨i, zv, hi, h1, h2, h3, h4⟩ := ti.get
  have h128' := Nat.le_of_ble_eq_true h128
  have h0' : 0 < sz := by simpa [Nat.blt_eq] using h0
  have hz2 : z.length = sz := Nat.eq_of_beq_eq_true hz
  subst h1
  have hnl := hs.newsLen
  have hbytes : (n + m) * i.bytes ≤ 140737488355328 := Nat.le_trans (Nat.mul_le_mul hlen (by omega : i.bytes ≤ 2048)) (by omega)
  by_cases hm : m = 0
  · subst hm
    have hn0 : news = [] := List.eq_nil_of_length_eq_zero (by simpa using hnl)
    subst hn0
    refine ⟨l, cap, w, ?_, by simpa using h, ⟨rfl, rfl, rfl, Nat.le_refl _, Nat.le_refl _, fun _ _ _ => rfl⟩, fun b hb => .inl hb, fun b _ _ => rfl⟩
    cases l with
    | none =>
      obtain ⟨rfl, _⟩ := h
      exact run_append_nothing w t t' ty T i ht hi none 0 0 (Nat.le_refl _) _ hs
    | some b =>
      obtain ⟨cur, _, hle, _⟩ := h
      exact run_append_nothing w t t' ty T i ht hi (some ⟨b, 0, none⟩) n cap hle _ hs
  have fits : ∀ old, old < n + m → Builtin.nextslicecap (n + m) old * i.bytes ≤ 281474976710656 := fun old ho => growslice_fits ho hbytes
  -- a new row
  have fresh : ∀ (base : Option Addr) (olds : List Value), oslV l cap n = .slice base n cap → olds = cells → cap < n + m → (Builtin.firstCells i.size n (.slice base n cap)).run P w.drew = .ok olds.toArray w.drew → cells.length = n * i.size →
      ∃ l' cap' w', (Builtin.append_ #[t, t'] ty #[oslV l cap n, x]).run P w = .ok (oslV l' cap' (n + m)) w' ∧ RawAt w' T i.size l' cap' (n + m) (cells ++ news) ∧ Grown l w w' ∧ (∀ b, l' = some b → l = some b ∨ w.heap.size ≤ b) ∧ (∀ b, l = some b → l' ≠ some b → w'.heap[b]? = w.heap[b]?) := by
    intro base olds hv he hg hf hcl
    subst he
    have hr := run_append_grow_src (P := P) w t t' ty T i zv ht hi h3 base n cap olds hf x m news hs hg (by omega) (fits cap hg)
    have hge := grownCap_ge w (n + m) cap T
    rw [← hv] at hr
    refine ⟨some w.heap.size, grownCap w (n + m) cap T, _, hr, ⟨_, heap_alloc_new w.drew _, hge, grownCap_le_maxLen _ _ _ _ (by simp only [maxLen]; omega), ?_, ?_⟩, ⟨rfl, rfl, rfl, Nat.le_succ _, by simp, fun k hk _ => ?_⟩, fun b hb => .inr (Nat.le_of_eq (Option.some.inj hb)), fun b hb _ => ?_⟩
    · have : (Builtin.zeroCells zv.cells (grownCap w (n + m) cap T - (n + m))).size = (grownCap w (n + m) cap T - (n + m)) * i.size := by
        rw [size_zeroCells, h4]; simp [hz2]
      simp only [Array.size_append, List.size_toArray, List.length_append, hcl, hnl, this]
      rw [← Nat.add_mul, ← Nat.add_mul]
      congr 1; omega
    · have hl2 : (olds ++ news).length = (n + m) * i.size := by rw [List.length_append, hcl, hnl, Nat.add_mul]
      rw [Array.toList_append, List.take_append_of_le_length (by simp only [List.toList_toArray]; omega)]
      simp only [List.toList_toArray]
      exact List.take_of_length_le (by omega)
    · exact heap_alloc_lt (w := w.drew) hk
    · cases l with
      | none => cases hb
      | some b0 =>
        have hb' : b0 = b := Option.some.inj hb
        subst hb'
        exact heap_alloc_lt (w := w.drew) (RawAt.lt h)
  cases l with
  | none =>
    obtain ⟨rfl, rfl⟩ := h
    have := run_append_grow_src (P := P) w t t' ty T i zv ht hi h3 none 0 0 [] (run_firstCells_none w.drew i.size 0 0 0) x m news hs (by omega) (by omega) (fits 0 (by omega))
    have hge := grownCap_ge w (0 + m) 0 T
    refine ⟨some w.heap.size, grownCap w (0 + m) 0 T, _, this, ⟨_, heap_alloc_new w.drew _, hge, grownCap_le_maxLen _ _ _ _ (by simp only [maxLen]; omega), ?_, ?_⟩, ⟨rfl, rfl, rfl, Nat.le_succ _, by simp, fun k hk _ => ?_⟩, fun b hb => .inr (Nat.le_of_eq (Option.some.inj hb)), fun b hb => (by cases hb)⟩
    · have : (Builtin.zeroCells zv.cells (grownCap w (0 + m) 0 T - (0 + m))).size = (grownCap w (0 + m) 0 T - (0 + m)) * i.size := by
        rw [size_zeroCells, h4]; simp [hz2]
      simp only [Array.size_append, List.size_toArray, List.nil_append, hnl, this]
      rw [← Nat.add_mul]
      congr 1; omega
    · rw [Array.toList_append, List.take_append_of_le_length (by simp [hnl])]
      simp only [List.nil_append, Nat.zero_add]
      exact List.take_of_length_le (by omega)
    · exact heap_alloc_lt (w := w.drew) hk
  | some b =>
    obtain ⟨cur, hb, hle, hmax, hcs, hct⟩ := h
    have hcl : cells.length = n * i.size := by
      rw [← hct, List.length_take, Array.length_toList, hcs]
      exact Nat.min_eq_left (Nat.mul_le_mul_right _ hle)
    by_cases hroom : n + m ≤ cap
    · have hfit : n * i.size + news.length ≤ cur.size := by rw [hnl, hcs, ← Nat.add_mul]; exact Nat.mul_le_mul_right _ hroom
      have hr := run_append_room_row (t := t) (tx := t') (ty := ty) ht hi hb hs hroom hfit
      refine ⟨some b, cap, _, hr, ⟨_, setRow_heap w b cur _ T _ hb, hroom, hmax, ?_, ?_⟩, ⟨rfl, rfl, rfl, Nat.le_refl _, by simp [World.setRow], fun k hk hkb => setRow_other w b k _ (fun e => hkb (by rw [e]))⟩, fun b' hb' => .inl hb', fun b' hb' hne => absurd hb' hne⟩
      · simp only [List.size_toArray, List.length_append, List.length_take, List.length_drop, Array.length_toList]
        omega
      · rw [hct, Nat.add_mul, ← hnl, ← hcl, show cells.length + news.length = (cells ++ news).length from by simp]
        exact List.take_left
    · refine fresh (some ⟨b, 0, none⟩) cells rfl rfl (by omega) (run_firstCells_some w.drew i.size n ⟨b, 0, none⟩ n cap cells hcl fun j v hv => ?_) hcl
      have hj : j < cells.length := (List.getElem?_eq_some_iff.1 hv).1
      have hcell : w.cell? ⟨b, j, none⟩ = cur[j]? := cell_in hb j
      rw [addr_add]
      show w.cell? ⟨b, 0 + j, none⟩ = _
      rw [Nat.zero_add, hcell]
      rw [← hct, List.getElem?_take_of_lt (by omega)] at hv
      simpa using hv
/-- A slice that no one writes, as what is appended. -/
theorem src_of_data {P : Program} {α : Type} {r : Rp α} {ys : List α} {w : World} {S : SH} {v : Value} {t' e' : TypeId} (ht : P.underlying t' = some (.slice e')) (hs : Sat w S) (hv : (tD (rSl r) ys).p S v) : ∃ news, Src P r.sz t' v ys.length news w ∧ rcs r S news ys := by
  obtain ⟨ad, c2, rfl, hcap, hmax, hsl⟩ := tSl_iff.1 hv
  rcases hsl with rfl | ⟨b, off, c, U, fr, e1, e2, e3⟩
  · refine ⟨[], ?_, rfl⟩
    cases ad with
    | none => exact .ofNil w ht c2
    | some a => exact .ofSlice w ht a 0 c2 [] (by simp) (fun j u hu => by simp at hu) (fun u hu => by cases hu)
  · subst e1
    obtain ⟨c', h4, h5⟩ := hs.part e2 (rcs_len e3)
    refine ⟨_, .ofSlice w ht ⟨b, off, none⟩ ys.length c2 _ (rcs_len e3) (fun j u hu => ?_) (rcs_one e3), e3⟩
    rw [addr_add, cell_in h4]
    rw [← h5] at hu
    have hj : j < ys.length * r.sz := by
      have := (List.getElem?_eq_some_iff.1 hu).1
      simp at this; omega
    rw [List.getElem?_take_of_lt hj, List.getElem?_drop] at hu
    simpa using hu
/-- The bytes of a string, as data. -/
def bytesOf (s : Str) : List Int := s.map fun b => (b.toNat : Int)
theorem rcs_bytes {S : SH} : ∀ s : Str, rcs (rI .u8) S (s.map fun b => Value.int .u8 b.toNat) (bytesOf s)
  | [] => rfl
  | b :: s => ⟨[.int .u8 b.toNat], _, rfl, rfl, rcs_bytes s⟩
theorem src_of_str {P : Program} {s : Str} {w : World} {S : SH} {v : Value} {t' : TypeId} (ht : P.underlying t' = some .string) (hv : (tD rS s).p S v) : ∃ news, Src P (rI .u8).sz t' v (bytesOf s).length news w ∧ rcs (rI .u8) S news (bytesOf s) := by
  have e := tS_iff.1 hv
  subst e
  refine ⟨_, ?_, rcs_bytes s⟩
  have := Src.ofString (P := P) w ht ⟨s.toArray⟩
  have e1 : (ByteArray.mk s.toArray).size = (bytesOf s).length := by simp [ByteArray.size, bytesOf]
  rw [e1] at this
  simpa [byteCells, rI] using this
theorem run_arr_append {P : Program} {mm : Bool} {α : Type} {r : Rp α} {T t t' ty : TypeId} {sz bytes : Nat} {agg : Bool} {z : List Value} {l : Option Nat} {cap : Nat} {xs ys zs : List α} {base : Nat} {B : Nat → Prop} {w : World} {S : SH} {v : Value} {news : List Value}
    (ti : TI P T sz bytes agg z) (hsz : r.sz = sz) (hz : Nat.beq z.length sz = true) (h0 : Nat.blt 0 sz = true) (h128 : Nat.ble bytes 2048 = true) (ht : P.underlying t = some (.slice T))
    (hs : Sat w S) (h : (arrM mm r T l cap xs).holds base B w S) (hb : base ≤ w.heap.size) (hsrc : Src P r.sz t' v ys.length news w) (hrc : rcs r S news ys) (hz' : app xs ys = some zs) :
    ∃ l' cap' w' S', (Builtin.append_ #[t, t'] ty #[oslV l cap xs.length, v]).run P w = .ok (oslV l' cap' zs.length) w' ∧ Ext (fun k => l = some k) w S w' S' ∧ Sat w' S' ∧ (arrM mm r T l' cap' zs).holds base B w' S' ∧ (∀ b, l' = some b → l = some b ∨ w.heap.size ≤ b) := by
  subst hsz
  obtain ⟨rfl, hlen⟩ := app_some hz'
  obtain ⟨⟨cells, h1, h2, h3⟩, hbase⟩ := h
  obtain ⟨l', cap', w', hr, hraw, hg, hnew, hold⟩ := run_append_raw (ty := ty) ti hz h0 h128 ht h1 hsrc hlen
  have hrc' : rcs r S (cells ++ news) (xs ++ ys) := rcs_append h2 hrc
  -- what stood settled stands
  have hsat : Sat w' S := fun k o hk => by
    have hlt := hs.lt hk
    by_cases hkl : l = some k
    · obtain ⟨o', e1, e2⟩ := hs k o hk
      by_cases hkl' : l' = some k
      · subst hkl'
        subst hkl
        have h3' := h3 k rfl
        cases mm with
        | false => rw [h3'] at hk; cases hk
        | true =>
          rw [h3'] at hk
          cases hk
          obtain ⟨cur', g1, g2, g3, g4, g5⟩ := hraw
          refine ⟨_, g1, ?_⟩
          refine ⟨news ++ cur'.toList.drop ((xs.length + ys.length) * r.sz), ?_⟩
          congr 1
          apply Array.ext'
          rw [← List.append_assoc, ← g5, List.take_append_drop]
      · rw [hold k hkl hkl']; exact hs k o hk
    · rw [hg.heap k hlt hkl]; exact hs k o hk
  have hSn : ∀ b, l' = some b → l ≠ some b → S b = none := fun b hb' hne => by
    cases hq : S b with
    | none => rfl
    | some q =>
      have := hs.lt hq
      rcases hnew b hb' with h | h
      · exact absurd h hne
      · omega
  have hbase' : ∀ k, l' = some k → base ≤ k ∨ B k := fun k hk => by
    rcases hnew k hk with h | h
    · exact hbase k h
    · exact .inl (by omega)
  have hz2 : (xs ++ ys).length = xs.length + ys.length := List.length_append
  cases mm with
  | false =>
    refine ⟨l', cap', w', S, by rw [hz2]; exact hr, ⟨hg.os, hg.tape, hg.output, hg.drawn, hg.size, fun k hk hkb => hg.heap k hk hkb, SH.le_refl _, fun _ _ _ => rfl⟩, hsat, ⟨⟨cells ++ news, by rw [hz2]; exact hraw, hrc', fun b hb' => ?_⟩, hbase'⟩, hnew⟩
    by_cases hlb : l = some b
    · exact h3 b hlb
    · exact hSn b hb' hlb
  | true =>
    cases l' with
    | none =>
      refine ⟨none, cap', w', S, by rw [hz2]; exact hr, ⟨hg.os, hg.tape, hg.output, hg.drawn, hg.size, fun k hk hkb => hg.heap k hk hkb, SH.le_refl _, fun _ _ _ => rfl⟩, hsat, ⟨⟨cells ++ news, by rw [hz2]; exact hraw, hrc', fun b hb' => (by cases hb')⟩, hbase'⟩, hnew⟩
    | some g =>
      have hle : SH.le S (S.set g (.cells (cells ++ news).toArray T (0, 0))) := SH.le_set fun q hq => by
        by_cases hlb : l = some g
        · have h4 : S g = some (.cells cells.toArray T (0, 0)) := h3 g hlb
          rw [h4] at hq
          cases hq
          exact ⟨news, by simp⟩
        · rw [hSn g rfl hlb] at hq; cases hq
      obtain ⟨cur', g1, g2, g3, g4, g5⟩ := hraw
      refine ⟨some g, cap', w', S.set g (.cells (cells ++ news).toArray T (0, 0)), by rw [hz2]; exact hr, ⟨hg.os, hg.tape, hg.output, hg.drawn, hg.size, fun k hk hkb => hg.heap k hk hkb, hle, fun k hk hkb => SH.set_ne _ _ ?_⟩, hsat.set g1 ?_, ⟨⟨cells ++ news, by rw [hz2]; exact ⟨cur', g1, g2, g3, g4, g5⟩, rcs_mono hle hrc', fun b hb' => ?_⟩, hbase'⟩, hnew⟩
      · rintro rfl
        rcases hnew k rfl with h | h
        · exact hkb h
        · omega
      · refine ⟨cur'.toList.drop ((xs.length + ys.length) * r.sz), ?_⟩
        congr 1
        apply Array.ext'
        rw [← g5, List.take_append_drop]
      · have hb2 : g = b := Option.some.inj hb'
        subst hb2
        exact SH.set_same _ _ _
end Go.Proofs.Ytchjhcgkfglgiaa
