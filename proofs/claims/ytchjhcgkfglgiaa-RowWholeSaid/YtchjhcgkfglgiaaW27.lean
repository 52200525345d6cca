/- A small logic over the walk's rules: what a statement's arguments are, with what is known of their parts. It states nothing of any program. -/
import Derived.Test.YtchjhcgkfglgiaaW21
import Derived.Test.YtchjhcgkfglgiaaW25
namespace Go.Proofs.Ytchjhcgkfglgiaa
open Go Go.ChangeShapes Go.WideShapes Go.ChangeAt Go.RowKit

section
variable {H : Type} {enc : TypeId × Value → H} {P : Program}
/-- Data of which more is known. -/
def rOk {α : Type} (r : Rp α) (ok : α → Prop) : Rp α where
  sz := r.sz
  agg := r.agg
  rc := fun S cs x => r.rc S cs x ∧ ok x
  mono := fun h k => ⟨r.mono h k.1, k.2⟩
  len := fun k => r.len k.1
  one := fun k => r.one k.1
  sc := r.sc
/-- The number lies in its kind's range. -/
def inK (k : IntKind) (n : Int) : Prop := k.min ≤ n ∧ n ≤ k.max
def inS (s : Str) : Prop := s.length ≤ maxLen
def inL {α : Type} (ok : α → Prop) (xs : List α) : Prop := xs.length ≤ maxLen ∧ ∀ x ∈ xs, ok x
def inT {α : Type} (_ : α) : Prop := True
theorem toR_intO {W : World} {t : TypeId} {k : IntKind} (h : P.underlying t = some (.int k)) (hc : P.cellsOf t = 1) : ToR enc P W t (rOk (rI k) (inK k)) := ⟨hc, fun fuel cs x hx => by
  cases fuel with
  | zero => simp [DataW.trod] at hx
  | succ n =>
    unfold DataW.trod at hx
    rw [h] at hx
    split at hx
    all_goals try (injections; done)
    · rename_i k1 k2 m heq
      injection heq with e
      injection e with e
      subst e
      split at hx
      · rename_i h2
        obtain ⟨rfl, h3⟩ := h2
        simp only [Lit.wf, Bool.and_eq_true, decide_eq_true_eq] at h3
        exact ⟨m, rfl, h3⟩
      · cases hx⟩
theorem toR_strO {W : World} {t : TypeId} (h : P.underlying t = some .string) (hc : P.cellsOf t = 1) : ToR enc P W t (rOk rS inS) := ⟨hc, fun fuel cs x hx => by
  cases fuel with
  | zero => simp [DataW.trod] at hx
  | succ n =>
    unfold DataW.trod at hx
    rw [h] at hx
    split at hx
    all_goals try (injections; done)
    · rename_i s heq
      split at hx
      · rename_i h2; exact ⟨s.data.toList, rfl, (show s.data.toList.length ≤ maxLen from (show s.size = s.data.toList.length from rfl) ▸ h2)⟩
      · cases hx⟩
theorem toR_boolO {W : World} {t : TypeId} (h : P.underlying t = some .bool) (hc : P.cellsOf t = 1) : ToR enc P W t (rOk rB inT) :=
  ⟨hc, fun fuel cs x hx => by obtain ⟨y, hy⟩ := (toR_bool (enc := enc) (W := W) h hc).2 fuel cs x hx; exact ⟨y, hy, trivial⟩⟩
/-- What one way of lying says more than another. -/
def Ref {α : Type} (r' r : Rp α) (ok : α → Prop) : Prop := r'.sz = r.sz ∧ r'.agg = r.agg ∧ ∀ S cs x, r'.rc S cs x → r.rc S cs x ∧ ok x
theorem ref_ok {α : Type} {r : Rp α} {ok : α → Prop} : Ref (rOk r ok) r ok := ⟨rfl, rfl, fun _ _ _ h => h⟩
theorem ref_rcs {α : Type} {r' r : Rp α} {ok : α → Prop} (h : Ref r' r ok) {S : SH} : ∀ {xs : List α} {cs : List Value}, rcs r' S cs xs → rcs r S cs xs ∧ ∀ x ∈ xs, ok x
  | [], _, k => ⟨k, fun x hx => by cases hx⟩
  | x :: xs, _, ⟨a, b, e, h1, h2⟩ => by
    obtain ⟨g1, g2⟩ := h.2.2 _ _ _ h1
    obtain ⟨g3, g4⟩ := ref_rcs h h2
    exact ⟨⟨a, b, e, g1, g3⟩, fun y hy => by
      rcases List.mem_cons.1 hy with rfl | hy
      · exact g2
      · exact g4 y hy⟩
theorem ref_sl {α : Type} {r' r : Rp α} {ok : α → Prop} (h : Ref r' r ok) : Ref (rSl r') (rSl r) (inL ok) := ⟨rfl, rfl, fun S cs xs ⟨a, cap, e, h1, h2, h3⟩ => by
  rcases h3 with h3 | ⟨b, off, c, E, fr, e1, e2, e3⟩
  · exact ⟨⟨a, cap, e, h1, h2, .inl h3⟩, by omega, fun x hx => by rw [h3] at hx; cases hx⟩
  · rw [h.1] at e3
    obtain ⟨g1, g2⟩ := ref_rcs h e3
    exact ⟨⟨a, cap, e, h1, h2, .inr ⟨b, off, c, E, fr, e1, e2, g1⟩⟩, by omega, g2⟩⟩
theorem ref_pair {α β : Type} {p' p : Rp α} {q' q : Rp β} {f : α → Prop} {g : β → Prop} (h : Ref p' p f) (k : Ref q' q g) : Ref (rPair p' q') (rPair p q) (fun x => f x.1 ∧ g x.2) :=
  ⟨by show p'.sz + q'.sz = p.sz + q.sz; rw [h.1, k.1], rfl, fun S cs x ⟨a, b, e, h1, h2⟩ => ⟨⟨a, b, e, (h.2.2 _ _ _ h1).1, (k.2.2 _ _ _ h2).1⟩, (h.2.2 _ _ _ h1).2, (k.2.2 _ _ _ h2).2⟩⟩
theorem ref_map {α β : Type} {p' p : Rp α} {ok : α → Prop} {f : β → α} (h : Ref p' p ok) : Ref (rMap p' f) (rMap p f) (fun x => ok (f x)) :=
  ⟨h.1, rfl, fun S cs x k => h.2.2 _ _ _ k⟩
theorem ref_arr {α : Type} {r' r : Rp α} {ok : α → Prop} {n : Nat} (h : Ref r' r ok) : Ref (rArr r' n) (rArr r n) (fun xs => xs.length = n ∧ ∀ x ∈ xs, ok x) :=
  ⟨by show n * r'.sz = n * r.sz; rw [h.1], rfl, fun S cs x ⟨h1, h2⟩ => ⟨⟨h1, (ref_rcs h h2).1⟩, h1, (ref_rcs h h2).2⟩⟩
/-- An argument of one cell. -/
theorem arg_one {W : World} {α : Type} {t : TypeId} {r' r : Rp α} {ok : α → Prop} (h : ToR enc P W t r') (hr : Ref r' r ok) (hag : r.agg = false) {v : Value} {d : DataW H} {ps : List MemPlace} (hv : DataW.Trod enc P W 0 (fun _ => true) true t v d ps) (hc : v.cells = #[v]) : ∃ y, (tD r y).p (memS W) v ∧ ok y := by
  obtain ⟨y, cs, e, hy⟩ := rep_of_trod h (by rw [hr.2.1]; exact hag) hv hc
  obtain ⟨g1, g2⟩ := hr.2.2 _ _ _ hy
  exact ⟨y, ⟨cs, by rw [e]; unfold Rp.val; rw [hr.2.1], g1⟩, g2⟩
/-- An argument of many cells. -/
theorem arg_agg {W : World} {α : Type} {t : TypeId} {r' r : Rp α} {ok : α → Prop} (h : ToR enc P W t r') (hr : Ref r' r ok) (hag : r.agg = true) {v : Value} {d : DataW H} {ps : List MemPlace} (hv : DataW.Trod enc P W 0 (fun _ => true) true t v d ps) (hc : v = .agg v.cells) : ∃ y, (tD r y).p (memS W) v ∧ ok y := by
  obtain ⟨fuel, hx⟩ := hv
  obtain ⟨y, hy⟩ := h.2 _ _ _ hx
  obtain ⟨g1, g2⟩ := hr.2.2 _ _ _ hy
  exact ⟨y, ⟨_, by unfold Rp.val; rw [hag, if_pos rfl]; exact hc, g1⟩, g2⟩
theorem cells_str {W : World} {base : Nat} {t : TypeId} {v : Value} (ht : P.underlying t = some .string) (hv : Value.okWide P W .any base t v) : v.cells = #[v] := by
  cases v <;> first | rfl | (simp [Value.okWide, ht, Cell.okWide, Cell.ok] at hv)
theorem cells_bool {W : World} {base : Nat} {t : TypeId} {v : Value} (ht : P.underlying t = some .bool) (hv : Value.okWide P W .any base t v) : v.cells = #[v] := by
  cases v <;> first | rfl | (simp [Value.okWide, ht, Cell.okWide, Cell.ok] at hv)
theorem cells_struct {W : World} {base : Nat} {t : TypeId} {l : Array Field} {v : Value} (ht : P.underlying t = some (.struct l)) (hv : Value.okWide P W .any base t v) : v = .agg v.cells := by
  unfold Value.okWide at hv
  rw [ht] at hv
  obtain ⟨cs, e, _⟩ := hv
  rw [e]
  rfl
theorem cells_array {W : World} {base n : Nat} {t e : TypeId} {v : Value} (ht : P.underlying t = some (.array n e)) (hv : Value.okWide P W .any base t v) : v = .agg v.cells := by
  unfold Value.okWide at hv
  rw [ht] at hv
  obtain ⟨cs, e, _⟩ := hv
  rw [e]
  rfl
end
end Go.Proofs.Ytchjhcgkfglgiaa
