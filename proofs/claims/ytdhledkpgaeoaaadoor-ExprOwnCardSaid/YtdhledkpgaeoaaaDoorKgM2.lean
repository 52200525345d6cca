/- Facts of this claim: M2. -/
import Derived.Test.YtdhledkpgaeoaaaDoorKgM1
namespace Go.Proofs.YtdhledkpgaeoaaaDoor
open Go

def doesL : List (Int × (DValue → DValue → Option (DValue × Int))) := (expr_does).getD []
theorem expr_does_eq : expr_does = some doesL := rfl
def dzF (tag : Int) : DValue → DValue → Option (DValue × Int) := (mget doesL tag).getD (fun _ _ => none)
theorem dz4 : dzF 4 = expr_first_1 arith_Neg := rfl
theorem dz5 : dzF 5 = expr_first_1 value_Not := rfl
theorem dz6 : dzF 6 = expr_null_1 true := rfl
theorem dz7 : dzF 7 = expr_null_1 false := rfl
theorem dz20 : dzF 20 = expr_turned_1 value_Less := rfl
theorem dz22 : dzF 22 = value_And := rfl
theorem dz23 : dzF 23 = value_Or := rfl
def arP (tag x y : Int) : Int × Bool := (if tag = 12 then arith_Add_1 x y else if tag = 13 then arith_Sub_1 x y else if tag = 14 then arith_Mul_1 x y else arith_Div_1 x y).getD (0, false)
theorem r64_wrap (n : Int) : r64 (IntKind.i64.wrap n) := by rw [IntKind.wrap_i64]; unfold r64; omega
theorem size_eq (n : Int) (h : r64 n) : arith_size n = some (n.natAbs : Int) := by
  unfold r64 at h
  unfold arith_size
  by_cases hn : n < 0
  · rw [if_pos (by simpa using hn), IntKind.wrap_u64, IntKind.wrap_u64]
    congr 1; omega
  · rw [if_neg (by simpa using hn), IntKind.wrap_u64]
    congr 1; omega
theorem ar_ok (tag x y : Int) (hx : r64 x) (hy : r64 y) : (if tag = 12 then arith_Add_1 x y else if tag = 13 then arith_Sub_1 x y else if tag = 14 then arith_Mul_1 x y else arith_Div_1 x y) = some (arP tag x y) ∧ r64 (arP tag x y).1 := by
  unfold arP
  split
  · exact ⟨rfl, r64_wrap _⟩
  · split
    · exact ⟨rfl, r64_wrap _⟩
    · split
      · unfold arith_Mul_1 math_bits_Mul64 arith_signed
        simp only [size_eq x hx, size_eq y hy, Option.bind_some]
        split
        · exact ⟨rfl, r64_wrap _⟩
        · exact ⟨rfl, r64_wrap _⟩
      · unfold arith_Div_1
        by_cases h0 : y = 0
        · subst h0; exact ⟨rfl, show r64 0 from ⟨by decide, by decide⟩⟩
        · rw [if_neg (by simpa using h0)]
          simp only [size_eq x hx, size_eq y hy, Option.bind_some]
          have hn : nz ((y.natAbs : Nat) : Int) = some () := by
            unfold nz
            rw [if_neg (by omega)]
          rw [hn]
          unfold arith_signed
          simp only [Option.bind_some]
          split
          · exact ⟨rfl, r64_wrap _⟩
          · exact ⟨rfl, r64_wrap _⟩
def arV (tag : Int) (a b : DValue) : DValue × Int :=
  if (a.Kind = 0 ∨ a.Kind = 2) ∧ (b.Kind = 0 ∨ b.Kind = 2) then (if a.Kind = 0 ∨ b.Kind = 0 then (zV, 0) else if (arP tag a.N b.N).2 then (iV (arP tag a.N b.N).1, 0) else (zV, 140)) else (zV, 2)
def heldV (f : Int → Bool) (a b : DValue) : DValue × Int := if a.Kind = 0 ∨ b.Kind = 0 then (zV, 0) else if a.Kind = b.Kind then (bV (f (cmpV a b)), 0) else (zV, 2)
def noV (q : DValue × Int) : DValue × Int := if q.2 = 0 then (notV q.1, 0) else q
def raw (tag : Int) (a b : DValue) : DValue × Int :=
  if tag = 4 then arV 13 (iV 0) a else
  if tag = 5 then (if a.Kind ≤ 1 then (notV a, 0) else (zV, 2)) else
  if tag = 6 then (bV (a.Kind == 0), 0) else
  if tag = 7 then (bV (a.Kind != 0), 0) else
  if tag ≤ 15 then arV tag a b else
  if tag = 16 then heldV (fun c => c == 0) a b else
  if tag = 17 then noV (heldV (fun c => c == 0) a b) else
  if tag = 18 then heldV (fun c => decide (c < 0)) a b else
  if tag = 19 then noV (heldV (fun c => decide (c < 0)) b a) else
  if tag = 20 then heldV (fun c => decide (c < 0)) b a else
  if tag = 21 then noV (heldV (fun c => decide (c < 0)) a b) else
  if tag = 22 then (if a.Kind ≤ 1 ∧ b.Kind ≤ 1 then (andV a b, 0) else (zV, 2)) else
  (if a.Kind ≤ 1 ∧ b.Kind ≤ 1 then (orV a b, 0) else (zV, 2))
theorem heldV_tu (f : Int → Bool) (a b : DValue) : (heldV f a b).2 = 0 → Tu (heldV f a b).1 := by
  unfold heldV
  split
  · intro _; exact .z
  · split
    · intro _; exact .b _
    · intro h; cases h
theorem heldV_err (f : Int → Bool) (a b : DValue) : (heldV f a b).2 ≠ 0 → heldV f a b = (zV, 2) := by
  unfold heldV
  split
  · intro h; exact absurd rfl h
  · split
    · intro h; exact absurd rfl h
    · intro _; rfl
theorem not_held {do1 : DValue → DValue → Option (DValue × Int)} {a b : DValue} {f : Int → Bool} {x y : DValue} (h : do1 a b = some (heldV f x y)) : expr_not_1 do1 a b = some (noV (heldV f x y)) := by
  unfold expr_not_1 noV
  rw [h]
  simp only [Option.bind_some]
  by_cases h0 : (heldV f x y).2 = 0
  · rw [if_neg (by simp [h0]), if_pos h0, value_Not_tu (heldV_tu f x y h0)]; rfl
  · rw [if_pos (by simpa using h0), if_neg h0]
theorem ari_eq {a b : DValue} (ha : Pl a) (hb : Pl b) {tag : Int} {to : Int → Int → Option (Int × Bool)} (h : ∀ x y, to x y = if tag = 12 then arith_Add_1 x y else if tag = 13 then arith_Sub_1 x y else if tag = 14 then arith_Mul_1 x y else arith_Div_1 x y) :
    (arith_do a b to).bind (fun r => some (r.1, r.2)) = some (arV tag a b) := by
  rw [arith_do_pl ha hb]
  unfold arV
  split
  · split
    · rfl
    · rw [h, (ar_ok tag a.N b.N ha.r64 hb.r64).1]
      simp only [Option.bind_some]
      split <;> rfl
  · rfl
theorem held_bind {a b : DValue} (ha : Pl a) (hb : Pl b) {is : Int → Option Bool} {f : Int → Bool} (hf : ∀ c, is c = some (f c)) : (value_held a b is).bind (fun r => some (r.1, r.2)) = some (heldV f a b) := by
  rw [held_eq ha hb hf]; rfl
theorem value_Equal_eq {a b : DValue} (ha : Pl a) (hb : Pl b) : value_Equal a b = some (heldV (fun c => c == 0) a b) := held_bind ha hb fun _ => rfl
theorem value_Less_eq {a b : DValue} (ha : Pl a) (hb : Pl b) : value_Less a b = some (heldV (fun c => decide (c < 0)) a b) := held_bind ha hb fun _ => rfl
theorem pk12 {tag : Int} {k : Nat} (h : pk tag = some k) (hk : k ≠ 0) : tag = 4 ∨ tag = 5 ∨ tag = 6 ∨ tag = 7 ∨ tag = 12 ∨ tag = 13 ∨ tag = 14 ∨ tag = 15 ∨ tag = 16 ∨ tag = 17 ∨ tag = 18 ∨ tag = 19 ∨ tag = 20 ∨ tag = 21 ∨ tag = 22 ∨ tag = 23 := by
  unfold pk at h
  repeat' split at h
  all_goals simp at h
  · exact absurd h.symm hk
  all_goals omega
theorem dzF_eq {tag : Int} {k : Nat} (h : pk tag = some k) (hk : k ≠ 0) {a b : DValue} (ha : Pl a) (hb : Pl b) : dzF tag a b = some (raw tag a b) := by
  have hbv : ∀ x, value_Bool x = some (bV x) := fun x => by cases x <;> rfl
  rcases pk12 h hk with rfl | rfl | rfl | rfl | rfl | rfl | rfl | rfl | rfl | rfl | rfl | rfl | rfl | rfl | rfl | rfl
  · rw [dz4]; unfold expr_first_1 arith_Neg value_Int
    simp only [Option.bind_some]
    have := ari_eq (tag := 13) (Pl.i 0 ⟨by decide, by decide⟩) ha (to := arith_Sub_1) (fun _ _ => rfl)
    have h2 : arith_Sub (iV 0) a = some (arV 13 (iV 0) a) := this
    rw [show (⟨2, 0, 0, []⟩ : DValue) = iV 0 from rfl, h2]; rfl
  · rw [dz5]; unfold expr_first_1 raw
    rw [if_neg (by decide), if_pos rfl]
    by_cases ht : Tu a
    · rw [value_Not_tu ht, if_pos ((tu_iff ha).1 ht)]; rfl
    · rw [value_Not_bad ha ht, if_neg (fun h => ht ((tu_iff ha).2 h))]; rfl
  · rw [dz6]; unfold expr_null_1
    rw [hbv]
    simp only [Option.bind_some]
    unfold raw
    rw [if_neg (by decide), if_neg (by decide), if_pos rfl]
    cases hx : (a.Kind == 0) <;> rfl
  · rw [dz7]; unfold expr_null_1
    rw [hbv]
    simp only [Option.bind_some]
    unfold raw
    rw [if_neg (by decide), if_neg (by decide), if_neg (by decide), if_pos rfl]
    simp only [bne]
    cases hx : (a.Kind == 0) <;> rfl
  · exact ari_eq (tag := 12) ha hb fun _ _ => rfl
  · exact ari_eq (tag := 13) ha hb fun _ _ => rfl
  · exact ari_eq (tag := 14) ha hb fun _ _ => rfl
  · exact ari_eq (tag := 15) ha hb fun _ _ => rfl
  · exact value_Equal_eq ha hb
  · exact not_held (value_Equal_eq ha hb)
  · exact value_Less_eq ha hb
  · exact not_held (do1 := expr_turned_1 value_Less) (by unfold expr_turned_1; rw [value_Less_eq hb ha]; rfl)
  · rw [dz20]; unfold expr_turned_1; rw [value_Less_eq hb ha]; rfl
  · exact not_held (value_Less_eq ha hb)
  · rw [dz22]
    show _ = some (if a.Kind ≤ 1 ∧ b.Kind ≤ 1 then (andV a b, 0) else (zV, 2))
    by_cases ht : Tu a ∧ Tu b
    · rw [value_And_tu ht.1 ht.2, if_pos ⟨(tu_iff ha).1 ht.1, (tu_iff hb).1 ht.2⟩]
    · rw [if_neg (fun h => ht ⟨(tu_iff ha).2 h.1, (tu_iff hb).2 h.2⟩)]
      unfold value_And
      rw [logic2_bad ha hb ht]; rfl
  · rw [dz23]
    show _ = some (if a.Kind ≤ 1 ∧ b.Kind ≤ 1 then (orV a b, 0) else (zV, 2))
    by_cases ht : Tu a ∧ Tu b
    · rw [value_Or_tu ht.1 ht.2, if_pos ⟨(tu_iff ha).1 ht.1, (tu_iff hb).1 ht.2⟩]
    · rw [if_neg (fun h => ht ⟨(tu_iff ha).2 h.1, (tu_iff hb).2 h.2⟩)]
      unfold value_Or
      rw [logic2_bad ha hb ht]; rfl
theorem arV_pl {tag : Int} {a b : DValue} (ha : Pl a) (hb : Pl b) : (arV tag a b).2 = 0 → Pl (arV tag a b).1 := by
  unfold arV
  split
  · split
    · intro _; exact .z
    · split
      · intro _; exact .i _ (ar_ok tag a.N b.N ha.r64 hb.r64).2
      · intro h; cases h
  · intro h; cases h
theorem arV_err (tag : Int) (a b : DValue) : (arV tag a b).2 ≠ 0 → arV tag a b = (zV, 140) ∨ arV tag a b = (zV, 2) := by
  unfold arV
  split
  · split
    · intro h; exact absurd rfl h
    · split
      · intro h; exact absurd rfl h
      · intro _; exact .inl rfl
  · intro _; exact .inr rfl
theorem notV_tu {a : DValue} (h : Tu a) : Tu (notV a) := by
  unfold notV
  apply tu_tv
  have := tn_3 h; omega
theorem andV_tu {a b : DValue} (h : Tu a) (k : Tu b) : Tu (andV a b) := by
  apply tu_tv
  have := tn_3 h; have := tn_3 k; omega
theorem orV_tu {a b : DValue} (h : Tu a) (k : Tu b) : Tu (orV a b) := by
  apply tu_tv
  have := tn_3 h; have := tn_3 k; omega
theorem noV_tu (f : Int → Bool) (a b : DValue) : (noV (heldV f a b)).2 = 0 → Tu (noV (heldV f a b)).1 := by
  unfold noV
  split
  · rename_i h; intro _; exact notV_tu (heldV_tu f a b h)
  · rename_i h; intro k; exact absurd k h
theorem noV_err (f : Int → Bool) (a b : DValue) : (noV (heldV f a b)).2 ≠ 0 → noV (heldV f a b) = (zV, 2) := by
  unfold noV
  split
  · intro h; exact absurd rfl h
  · rename_i h; intro _; exact heldV_err f a b h
theorem raw_cases {tag : Int} {k : Nat} (h : pk tag = some k) (hk : k ≠ 0) {a b : DValue} (ha : Pl a) (hb : Pl b) :
    ((raw tag a b).2 = 0 ∧ Pl (raw tag a b).1) ∨ raw tag a b = (zV, 2) ∨ (raw tag a b = (zV, 140) ∧ (tag = 4 ∨ (12 ≤ tag ∧ tag ≤ 15))) := by
  have har : ∀ t x y, Pl x → Pl y → ((arV t x y).2 = 0 ∧ Pl (arV t x y).1) ∨ arV t x y = (zV, 2) ∨ arV t x y = (zV, 140) := by
    intro t x y hx hy
    by_cases h0 : (arV t x y).2 = 0
    · exact .inl ⟨h0, arV_pl hx hy h0⟩
    · rcases arV_err t x y h0 with h | h
      · exact .inr (.inr h)
      · exact .inr (.inl h)
  have hh : ∀ f x y, ((heldV f x y).2 = 0 ∧ Pl (heldV f x y).1) ∨ heldV f x y = (zV, 2) := by
    intro f x y
    by_cases h0 : (heldV f x y).2 = 0
    · exact .inl ⟨h0, (heldV_tu f x y h0).pl⟩
    · exact .inr (heldV_err f x y h0)
  have hn : ∀ f x y, ((noV (heldV f x y)).2 = 0 ∧ Pl (noV (heldV f x y)).1) ∨ noV (heldV f x y) = (zV, 2) := by
    intro f x y
    by_cases h0 : (noV (heldV f x y)).2 = 0
    · exact .inl ⟨h0, (noV_tu f x y h0).pl⟩
    · exact .inr (noV_err f x y h0)
  rcases pk12 h hk with rfl | rfl | rfl | rfl | rfl | rfl | rfl | rfl | rfl | rfl | rfl | rfl | rfl | rfl | rfl | rfl
  · rcases har 13 (iV 0) a (.i 0 ⟨by decide, by decide⟩) ha with h | h | h
    · exact .inl h
    · exact .inr (.inl h)
    · exact .inr (.inr ⟨h, .inl rfl⟩)
  · show _ ∨ _ ∨ _
    unfold raw
    rw [if_neg (by decide), if_pos rfl]
    split
    · rename_i hk; exact .inl ⟨rfl, (notV_tu ((tu_iff ha).2 hk)).pl⟩
    · exact .inr (.inl rfl)
  · exact .inl ⟨rfl, .b _⟩
  · exact .inl ⟨rfl, .b _⟩
  · rcases har 12 a b ha hb with h | h | h
    · exact .inl h
    · exact .inr (.inl h)
    · exact .inr (.inr ⟨h, by decide⟩)
  · rcases har 13 a b ha hb with h | h | h
    · exact .inl h
    · exact .inr (.inl h)
    · exact .inr (.inr ⟨h, by decide⟩)
  · rcases har 14 a b ha hb with h | h | h
    · exact .inl h
    · exact .inr (.inl h)
    · exact .inr (.inr ⟨h, by decide⟩)
  · rcases har 15 a b ha hb with h | h | h
    · exact .inl h
    · exact .inr (.inl h)
    · exact .inr (.inr ⟨h, by decide⟩)
  · exact (hh (fun c => c == 0) a b).imp_right .inl
  · exact (hn (fun c => c == 0) a b).imp_right .inl
  · exact (hh (fun c => decide (c < 0)) a b).imp_right .inl
  · exact (hn (fun c => decide (c < 0)) b a).imp_right .inl
  · exact (hh (fun c => decide (c < 0)) b a).imp_right .inl
  · exact (hn (fun c => decide (c < 0)) a b).imp_right .inl
  · show _ ∨ _ ∨ _
    rw [show raw 22 a b = if a.Kind ≤ 1 ∧ b.Kind ≤ 1 then (andV a b, 0) else (zV, 2) from rfl]
    split
    · rename_i h; exact .inl ⟨rfl, (andV_tu ((tu_iff ha).2 h.1) ((tu_iff hb).2 h.2)).pl⟩
    · exact .inr (.inl rfl)
  · show _ ∨ _ ∨ _
    rw [show raw 23 a b = if a.Kind ≤ 1 ∧ b.Kind ≤ 1 then (orV a b, 0) else (zV, 2) from rfl]
    split
    · rename_i h; exact .inl ⟨rfl, (orV_tu ((tu_iff ha).2 h.1) ((tu_iff hb).2 h.2)).pl⟩
    · exact .inr (.inl rfl)
end Go.Proofs.YtdhledkpgaeoaaaDoor

