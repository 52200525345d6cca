/- A small logic over the walk's rules: memory that a call makes. It states nothing of any program. -/
import Derived.Test.YtchjhcgkfglgiaaW4
import Derived.Laws.AppendOwn
import Derived.Deep.Upon
import Derived.Lib.AppendStr
namespace Go.Proofs.Ytchjhcgkfglgiaa
open Go

/-! ### New blocks -/
theorem heap_alloc_lt {w : World} {o : Obj} {k : Nat} (h : k < w.heap.size) : (w.alloc o).heap[k]? = w.heap[k]? := RowKit.Below.heap_alloc w o k h
/-- A new block that is no one's to write. -/
def SH.set (S : SH) (b : Nat) (o : Obj) : SH := fun k => if k = b then some o else S k
theorem Ext.alloc_settled {w : World} {S : SH} (o : Obj) (hs : Sat w S) : Ext noB w S (w.alloc o) (S.set w.heap.size o) ∧ Sat (w.alloc o) (S.set w.heap.size o) := by
  refine ⟨⟨rfl, rfl, rfl, Nat.le_refl _, by simp, fun k hk _ => heap_alloc_lt hk, fun b q hb => ?_, fun k hk _ => ?_⟩, fun b q hb => ?_⟩
  · have := hs.lt hb
    unfold SH.set; rw [if_neg (by omega)]; exact hb
  · unfold SH.set; rw [if_neg (by omega)]
  · unfold SH.set at hb
    split at hb
    · rename_i e; subst e; rw [heap_alloc_new]; exact hb
    · rw [heap_alloc_lt (hs.lt hb)]; exact hs _ _ hb
theorem Ext.alloc_own {w : World} {S : SH} (o : Obj) (hs : Sat w S) : Ext noB w S (w.alloc o) S ∧ Sat (w.alloc o) S ∧ S w.heap.size = none := by
  refine ⟨⟨rfl, rfl, rfl, Nat.le_refl _, by simp, fun k hk _ => heap_alloc_lt hk, SH.le_refl _, fun _ _ _ => rfl⟩, fun b q hb => ?_, ?_⟩
  · rw [heap_alloc_lt (hs.lt hb)]; exact hs _ _ hb
  · cases h : S w.heap.size with
    | none => rfl
    | some q => have := hs.lt h; omega
theorem Ext.draw {w : World} {S : SH} (hs : Sat w S) : Ext noB w S w.drew S ∧ Sat w.drew S := ⟨⟨rfl, rfl, rfl, Nat.le_succ _, Nat.le_refl _, fun _ _ _ => rfl, SH.le_refl _, fun _ _ _ => rfl⟩, hs⟩

/-- A list of the call's own, to which is appended. -/
def oslV (l : Option Nat) (cap n : Nat) : Value :=
  match l with
  | none => .slice none 0 0
  | some b => .slice (some ⟨b, 0, none⟩) n cap
def arrP {α : Type} (r : Rp α) (T : TypeId) (l : Option Nat) (cap : Nat) (xs : List α) (w : World) (S : SH) : Prop :=
  match l with
  | none => xs = []
  | some b => S b = none ∧ ∃ cur, w.heap[b]? = some (.cells cur T (0, 0)) ∧ xs.length ≤ cap ∧ cap ≤ maxLen ∧ cur.size = cap * r.sz ∧ rcs r S (cur.toList.take (xs.length * r.sz)) xs
def arr {α : Type} (r : Rp α) (T : TypeId) (l : Option Nat) (cap : Nat) (xs : List α) : OE where
  fp := fun k => l = some k
  p := arrP r T l cap xs
  here := by
    intro w S h k hk
    subst hk
    obtain ⟨h1, cur, h2, _⟩ := h
    exact ⟨(Array.getElem?_eq_some_iff.1 h2).1, h1⟩
  kept := by
    intro C w w' S S' h k hC
    cases l with
    | none => exact h
    | some b =>
      obtain ⟨h1, cur, h2, h3, h4, h5, h6⟩ := h
      have hlt := (Array.getElem?_eq_some_iff.1 h2).1
      exact ⟨by rw [k.old b hlt (hC b rfl)]; exact h1, cur, by rw [k.heap b hlt (hC b rfl)]; exact h2, h3, h4, h5, rcs_mono k.keep h6⟩
theorem arr_owns {α : Type} {r : Rp α} {T : TypeId} {l : Option Nat} {cap : Nat} {xs : List α} {base : Nat} {B : Nat → Prop} {w : World} {S : SH} (h : (arr r T l cap xs).holds base B w S) :
    ∃ cells, rcs r S cells xs ∧ w.ownsRow 0 T r.sz (oslV l cap xs.length) xs.length cells := by
  cases l with
  | none =>
    have hx : xs = [] := h.1
    subst hx
    exact ⟨[], rfl, by simp, .inl ⟨rfl, rfl⟩⟩
  | some b =>
    obtain ⟨⟨_, cur, h3, h4, h5, h6, h7⟩, _⟩ := h
    exact ⟨_, h7, rcs_len h7, .inr ⟨b, cap, cur, rfl, Nat.zero_le _, h3, h4, h5, h6, rfl⟩⟩
/-- What a law on append leaves, in these words. -/
theorem arr_of_owns {α : Type} {r : Rp α} {T : TypeId} {l : Option Nat} {cap : Nat} {xs ys : List α} {base : Nat} {B : Nat → Prop} {w w' : World} {S : SH} {v' : Value} {cells : List Value} (hs : Sat w S)
    (h : (arr r T l cap xs).holds base B w S) (hg : w.grownBy w' (oslV l cap xs.length).ownBlock) (hw : w'.ownsRow 0 T r.sz v' ys.length cells) (hc : rcs r S cells ys)
    (hnew : ∀ b, v'.ownBlock = some b → l = some b ∨ w.heap.size ≤ b) (hb : base ≤ w.heap.size) (hnil : v' = .slice none 0 0 → ys = []) (hdr : w.drawn ≤ w'.drawn) :
    ∃ l' cap', v' = oslV l' cap' ys.length ∧ Ext (fun k => l = some k) w S w' S ∧ Sat w' S ∧ (arr r T l' cap' ys).holds base B w' S ∧ (∀ b, l' = some b → l = some b ∨ w.heap.size ≤ b) := by
  have hob : (oslV l cap xs.length).ownBlock = l := by cases l <;> rfl
  rw [hob] at hg
  have hSl : ∀ b, l = some b → S b = none := by
    intro b e
    subst e
    exact h.1.1
  have hext : Ext (fun k => l = some k) w S w' S := ⟨hg.os, hg.tape, hg.output, hdr, hg.size, fun k hk hkb => hg.block k hk (fun e => hkb e.symm), SH.le_refl _, fun _ _ _ => rfl⟩
  have hsat : Sat w' S := fun b o hbo => by
    have hlt := hs.lt hbo
    rw [hg.block b hlt (fun e => by rw [hSl b e.symm] at hbo; cases hbo)]
    exact hs _ _ hbo
  obtain ⟨h1, h2 | ⟨g, cp, cur, e1, _, e3, e4, e5, e6, e7⟩⟩ := hw
  · refine ⟨none, 0, by rw [h2.1]; rfl, hext, hsat, ?_, fun b e => by cases e⟩
    exact ⟨hnil h2.1, fun k hk => by cases hk⟩
  · refine ⟨some g, cp, e1, hext, hsat, ?_, fun b e => ?_⟩
    · have hgn := hnew g (by rw [e1]; rfl)
      refine ⟨⟨?_, cur, e3, e4, e5, e6, by rw [e7]; exact hc⟩, fun k hk => ?_⟩
      · rcases hgn with hl | hl
        · exact hSl g hl
        · cases hq : S g with
          | none => rfl
          | some q => have := hs.lt hq; omega
      · have hgk : g = k := Option.some.inj hk
        subst hgk
        rcases hgn with hl | hl
        · subst hl; exact h.2 g rfl
        · exact .inl (by omega)
    · have : g = b := by simpa using e
      subst this
      exact hnew g (by rw [e1]; rfl)
def room : Nat := 1099511627776
def app {α : Type} (xs ys : List α) : Option (List α) := if xs.length + ys.length ≤ 1099511627776 then some (xs ++ ys) else none
theorem app_some {α : Type} {xs ys zs : List α} (h : app xs ys = some zs) : zs = xs ++ ys ∧ xs.length + ys.length ≤ 1099511627776 := by
  unfold app at h
  split at h
  · exact ⟨by simpa using h.symm, by assumption⟩
  · cases h

theorem oslV_nil {l : Option Nat} {cap n : Nat} (h : oslV l cap n = .slice none 0 0) : l = none := by
  cases l with
  | none => rfl
  | some b => simp [oslV] at h
/-- To a list of the call's own are appended the elements of a slice that no one writes. -/
theorem run_arr_append {P : Program} {α : Type} {r : Rp α} {T t t' ty : TypeId} {sz bytes : Nat} {agg : Bool} {z : List Value} {l : Option Nat} {cap : Nat} {xs ys zs : List α} {base : Nat} {B : Nat → Prop} {w : World} {S : SH} {v : Value}
    (ti : TI P T sz bytes agg z) (hsz : r.sz = sz) (hz : Nat.beq z.length sz = true) (h0 : Nat.blt 0 sz = true) (h128 : Nat.ble bytes 128 = true) (ht : P.underlying t = some (.slice T)) (ht' : t' = t)
    (hs : Sat w S) (h : (arr r T l cap xs).holds base B w S) (hb : base ≤ w.heap.size) (hv : (tD (rSl r) ys).p S v) (hz' : app xs ys = some zs) :
    ∃ l' cap' w', (Builtin.append_ #[t, t'] ty #[oslV l cap xs.length, v]).run P w = .ok (oslV l' cap' zs.length) w' ∧ Ext (fun k => l = some k) w S w' S ∧ Sat w' S ∧ (arr r T l' cap' zs).holds base B w' S ∧ (∀ b, l' = some b → l = some b ∨ w.heap.size ≤ b) := by
  subst ht'
  subst hsz
  obtain ⟨rfl, hlen⟩ := app_some hz'
  obtain ⟨i, zv, hi, h1, h2, h3, h4⟩ := ti.get
  obtain ⟨cells, hc, hown⟩ := arr_owns h
  obtain ⟨ad, c2, rfl, hcap, hmax, hsl⟩ := tSl_iff.1 hv
  have h128' := Nat.le_of_ble_eq_true h128
  have h0' : 0 < r.sz := by simpa [Nat.blt_eq] using h0
  have hz2 : z.length = r.sz := Nat.eq_of_beq_eq_true hz
  have nothing : ys = [] → ∃ l' cap' w', (Builtin.append_ #[t', t'] ty #[oslV l cap xs.length, .slice ad ys.length c2]).run P w = .ok (oslV l' cap' (xs ++ ys).length) w' ∧ Ext (fun k => l = some k) w S w' S ∧ Sat w' S ∧ (arr r T l' cap' (xs ++ ys)).holds base B w' S ∧ (∀ b, l' = some b → l = some b ∨ w.heap.size ≤ b) := by
    rintro rfl
    refine ⟨l, cap, w, ?_, Ext.refl _ _ _, hs, by rw [List.append_nil]; exact h, fun b e => .inl e⟩
    have hsrc : Src P i.size t' (.slice ad 0 c2) 0 [] w := by
      cases ad with
      | none => exact .ofNil w ht c2
      | some a => exact .ofSlice w ht a 0 c2 [] (by simp) (fun j u hu => by simp at hu) (fun u hu => by cases hu)
    cases l with
    | none =>
      have hx : xs = [] := h.1
      subst hx
      exact run_append_nothing w t' t' ty T i ht hi none 0 0 (Nat.le_refl _) _ hsrc
    | some b =>
      have hle : xs.length ≤ cap := by
        obtain ⟨⟨_, cur, _, h4, _⟩, _⟩ := h
        exact h4
      have := run_append_nothing (P := P) w t' t' ty T i ht hi (some ⟨b, 0, none⟩) xs.length cap hle _ hsrc
      simpa [oslV] using this
  by_cases hys : ys = []
  · exact nothing hys
  rcases hsl with hn | ⟨b, off, c, U, fr, e1, e2, e3⟩
  · exact absurd hn hys
  subst e1
  have hnews := fun j u (hu : ((c.toList.drop off).take (ys.length * r.sz))[j]? = some u) => (show w.cell? ((⟨b, off, none⟩ : Addr).add j) = some u by
    rw [addr_add, cell_in (hs _ _ e2)]
    have hj : j < ((c.toList.drop off).take (ys.length * r.sz)).length := (List.getElem?_eq_some_iff.1 hu).1
    rw [List.getElem?_take_of_lt (by simp at hj; omega), List.getElem?_drop] at hu
    simpa using hu)
  have hbytes : (xs.length + ys.length) * bytes ≤ 140737488355328 := Nat.le_trans (Nat.mul_le_mul hlen h128') (by omega)
  obtain ⟨v', w', hr, ho, hg, hni⟩ := run_append_own (P := P) w 0 t' ty T i zv r.sz bytes ht hi h3 h1 h2 (by rw [h4]; simpa using hz2) h0' _ _ _ hown ⟨b, off, none⟩ ys.length c2 _ (rcs_len e3) hnews (rcs_one e3)
    (by simp only [maxLen]; omega) hbytes (Nat.zero_le _)
  have hnew : ∀ g, v'.ownBlock = some g → l = some g ∨ w.heap.size ≤ g := by
    intro g hgb
    cases l with
    | none =>
      have hx : xs = [] := h.1
      subst hx
      obtain ⟨v2, w2, hr2, ho2, _, _⟩ := run_append_own (P := P) w w.heap.size t' ty T i zv r.sz bytes ht hi h3 h1 h2 (by rw [h4]; simpa using hz2) h0' (.slice none 0 0) 0 [] (World.ownsRow_nil _ _ _ _) ⟨b, off, none⟩ ys.length c2 _ (rcs_len e3) hnews (rcs_one e3)
        (by simp only [maxLen]; simp at hlen; omega) (by simpa using hbytes) (Nat.le_refl _)
      have : (Result.ok v' w' : Result Value) = .ok v2 w2 := hr.symm.trans hr2
      have e6 : v' = v2 := by injection this
      subst e6
      exact .inr (ho2.lt g hgb).1
    | some b0 =>
      obtain ⟨⟨_, cur, hb0, hle, hcm, hcs, _⟩, _⟩ := h
      by_cases hroom : xs.length + ys.length ≤ cap
      · have hr2 := run_append_room (P := P) w t' ty T i ht hi b0 xs.length cap cur hb0 ⟨b, off, none⟩ ys.length c2 _ (by rw [h1]; exact rcs_len e3) hnews (rcs_one e3) hroom
          (by rw [rcs_len e3, h1, hcs, ← Nat.add_mul]; exact Nat.mul_le_mul_right _ hroom)
        have : (Result.ok v' w' : Result Value) = _ := hr.symm.trans hr2
        have e6 : v' = .slice (some ⟨b0, 0, none⟩) (xs.length + ys.length) cap := by injection this
        rw [e6] at hgb
        left
        simpa [Value.ownBlock] using hgb
      · have hr2 := run_append_grow (P := P) w t' ty T i zv ht hi h3 ⟨b0, 0, none⟩ xs.length cap cells (by rw [h1]; exact hown.1) (hown.cells (g := b0) rfl) ⟨b, off, none⟩ ys.length c2 _ (by rw [h1]; exact rcs_len e3) hnews (by omega) (by omega) (growslice_fits (by omega) (by rw [h2]; exact hbytes))
        have : (Result.ok v' w' : Result Value) = _ := hr.symm.trans hr2
        injection this with e6 _
        rw [e6] at hgb
        right
        have : w.heap.size = g := by simpa [Value.ownBlock] using hgb
        omega
  have hdr : w.drawn ≤ w'.drawn := by
    cases l with
    | none =>
      have hx : xs = [] := h.1
      subst hx
      have hn0 : 0 < ys.length := List.length_pos_iff.2 hys
      have hr2 := run_append_nil (P := P) w t' ty T i zv ht hi h3 ⟨b, off, none⟩ ys.length c2 _ (by rw [h1]; exact rcs_len e3) hnews hn0 (by simp only [maxLen] at hmax; simp at hlen; omega) (by rw [h2]; simp at hbytes; omega)
      have : (Result.ok v' w' : Result Value) = _ := hr.symm.trans hr2
      injection this with _ e6
      rw [e6]; exact Nat.le_succ _
    | some b0 =>
      obtain ⟨⟨_, cur, hb0, hle, hcm, hcs, _⟩, _⟩ := h
      by_cases hroom : xs.length + ys.length ≤ cap
      · have hr2 := run_append_room (P := P) w t' ty T i ht hi b0 xs.length cap cur hb0 ⟨b, off, none⟩ ys.length c2 _ (by rw [h1]; exact rcs_len e3) hnews (rcs_one e3) hroom
          (by rw [rcs_len e3, h1, hcs, ← Nat.add_mul]; exact Nat.mul_le_mul_right _ hroom)
        have : (Result.ok v' w' : Result Value) = _ := hr.symm.trans hr2
        injection this with _ e6
        rw [e6]; exact Nat.le_refl _
      · have hr2 := run_append_grow (P := P) w t' ty T i zv ht hi h3 ⟨b0, 0, none⟩ xs.length cap cells (by rw [h1]; exact hown.1) (hown.cells (g := b0) rfl) ⟨b, off, none⟩ ys.length c2 _ (by rw [h1]; exact rcs_len e3) hnews (by omega) (by omega) (growslice_fits (by omega) (by rw [h2]; exact hbytes))
        have : (Result.ok v' w' : Result Value) = _ := hr.symm.trans hr2
        injection this with _ e6
        rw [e6]; exact Nat.le_succ _
  obtain ⟨l', cap', e5, hext, hsat, hh, hn⟩ := arr_of_owns (r := r) (ys := xs ++ ys) hs h hg (by rw [List.length_append]; exact ho) (rcs_append hc e3) hnew hb (fun e => by
    have := (hni.1 e).2
    exact absurd (List.eq_nil_of_length_eq_zero this) hys) hdr
  refine ⟨l', cap', w', by rw [hr, e5], hext, hsat, hh, hn⟩
end Go.Proofs.Ytchjhcgkfglgiaa
