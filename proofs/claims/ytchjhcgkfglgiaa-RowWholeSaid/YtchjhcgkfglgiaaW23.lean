/- A small logic over the walk's rules: functions that turn what is the caller's own. It states nothing of any program. -/
import Derived.Test.YtchjhcgkfglgiaaW22
namespace Go.Proofs.Ytchjhcgkfglgiaa
open Go

section
variable {E : En} {O : List OE} {G : Ctx} {Q : Exit → Act → World → Prop} {ops : Array Oper} {rest : List Oper} {c : Code} {e : Exit}
theorem Own.front5 {base : Nat} {B : Nat → Prop} {w : World} {S : SH} {x0 x1 x2 x3 x4 x5 : OE} {O : List OE} (h : Own base B w S (x0 :: x1 :: x2 :: x3 :: x4 :: x5 :: O)) : Own base B w S (x5 :: x0 :: x1 :: x2 :: x3 :: x4 :: O) :=
  (Own.cong h Own.front4 (fun f hf => by simp only [List.mem_cons] at hf ⊢; rcases hf with h | h | h | h | h | h <;> simp [h])).swap
theorem RG.front5 {x0 x1 x2 x3 x4 x5 : OE} (h : RG E ops Q rest (x5 :: x0 :: x1 :: x2 :: x3 :: x4 :: O) G) : RG E ops Q rest (x0 :: x1 :: x2 :: x3 :: x4 :: x5 :: O) G := fun a w S st => h a w S (st.own_map Own.front5)
theorem CG.front5 {x0 x1 x2 x3 x4 x5 : OE} (h : CG E Q c (x5 :: x0 :: x1 :: x2 :: x3 :: x4 :: O) G) : CG E Q c (x0 :: x1 :: x2 :: x3 :: x4 :: x5 :: O) G := fun a w S st => h a w S (st.own_map Own.front5)
theorem AT.front5 {x0 x1 x2 x3 x4 x5 : OE} (h : AT E Q e (x5 :: x0 :: x1 :: x2 :: x3 :: x4 :: O) G) : AT E Q e (x0 :: x1 :: x2 :: x3 :: x4 :: x5 :: O) G := fun a w S st => h a w S (st.own_map Own.front5)
theorem LG.front5 {x0 x1 x2 x3 x4 x5 : OE} (h : LG E Q c (x5 :: x0 :: x1 :: x2 :: x3 :: x4 :: O) G) : LG E Q c (x0 :: x1 :: x2 :: x3 :: x4 :: x5 :: O) G := fun a w S st => h a w S (st.own_map Own.front5)
theorem Own.front6 {base : Nat} {B : Nat → Prop} {w : World} {S : SH} {x0 x1 x2 x3 x4 x5 x6 : OE} {O : List OE} (h : Own base B w S (x0 :: x1 :: x2 :: x3 :: x4 :: x5 :: x6 :: O)) : Own base B w S (x6 :: x0 :: x1 :: x2 :: x3 :: x4 :: x5 :: O) :=
  (Own.cong h Own.front5 (fun f hf => by simp only [List.mem_cons] at hf ⊢; rcases hf with h | h | h | h | h | h | h <;> simp [h])).swap
theorem RG.front6 {x0 x1 x2 x3 x4 x5 x6 : OE} (h : RG E ops Q rest (x6 :: x0 :: x1 :: x2 :: x3 :: x4 :: x5 :: O) G) : RG E ops Q rest (x0 :: x1 :: x2 :: x3 :: x4 :: x5 :: x6 :: O) G := fun a w S st => h a w S (st.own_map Own.front6)
theorem CG.front6 {x0 x1 x2 x3 x4 x5 x6 : OE} (h : CG E Q c (x6 :: x0 :: x1 :: x2 :: x3 :: x4 :: x5 :: O) G) : CG E Q c (x0 :: x1 :: x2 :: x3 :: x4 :: x5 :: x6 :: O) G := fun a w S st => h a w S (st.own_map Own.front6)
theorem AT.front6 {x0 x1 x2 x3 x4 x5 x6 : OE} (h : AT E Q e (x6 :: x0 :: x1 :: x2 :: x3 :: x4 :: x5 :: O) G) : AT E Q e (x0 :: x1 :: x2 :: x3 :: x4 :: x5 :: x6 :: O) G := fun a w S st => h a w S (st.own_map Own.front6)
theorem LG.front6 {x0 x1 x2 x3 x4 x5 x6 : OE} (h : LG E Q c (x6 :: x0 :: x1 :: x2 :: x3 :: x4 :: x5 :: O) G) : LG E Q c (x0 :: x1 :: x2 :: x3 :: x4 :: x5 :: x6 :: O) G := fun a w S st => h a w S (st.own_map Own.front6)
theorem Own.front7 {base : Nat} {B : Nat → Prop} {w : World} {S : SH} {x0 x1 x2 x3 x4 x5 x6 x7 : OE} {O : List OE} (h : Own base B w S (x0 :: x1 :: x2 :: x3 :: x4 :: x5 :: x6 :: x7 :: O)) : Own base B w S (x7 :: x0 :: x1 :: x2 :: x3 :: x4 :: x5 :: x6 :: O) :=
  (Own.cong h Own.front6 (fun f hf => by simp only [List.mem_cons] at hf ⊢; rcases hf with h | h | h | h | h | h | h | h <;> simp [h])).swap
theorem RG.front7 {x0 x1 x2 x3 x4 x5 x6 x7 : OE} (h : RG E ops Q rest (x7 :: x0 :: x1 :: x2 :: x3 :: x4 :: x5 :: x6 :: O) G) : RG E ops Q rest (x0 :: x1 :: x2 :: x3 :: x4 :: x5 :: x6 :: x7 :: O) G := fun a w S st => h a w S (st.own_map Own.front7)
theorem CG.front7 {x0 x1 x2 x3 x4 x5 x6 x7 : OE} (h : CG E Q c (x7 :: x0 :: x1 :: x2 :: x3 :: x4 :: x5 :: x6 :: O) G) : CG E Q c (x0 :: x1 :: x2 :: x3 :: x4 :: x5 :: x6 :: x7 :: O) G := fun a w S st => h a w S (st.own_map Own.front7)
theorem AT.front7 {x0 x1 x2 x3 x4 x5 x6 x7 : OE} (h : AT E Q e (x7 :: x0 :: x1 :: x2 :: x3 :: x4 :: x5 :: x6 :: O) G) : AT E Q e (x0 :: x1 :: x2 :: x3 :: x4 :: x5 :: x6 :: x7 :: O) G := fun a w S st => h a w S (st.own_map Own.front7)
theorem LG.front7 {x0 x1 x2 x3 x4 x5 x6 x7 : OE} (h : LG E Q c (x7 :: x0 :: x1 :: x2 :: x3 :: x4 :: x5 :: x6 :: O) G) : LG E Q c (x0 :: x1 :: x2 :: x3 :: x4 :: x5 :: x6 :: x7 :: O) G := fun a w S st => h a w S (st.own_map Own.front7)
theorem Own.front8 {base : Nat} {B : Nat → Prop} {w : World} {S : SH} {x0 x1 x2 x3 x4 x5 x6 x7 x8 : OE} {O : List OE} (h : Own base B w S (x0 :: x1 :: x2 :: x3 :: x4 :: x5 :: x6 :: x7 :: x8 :: O)) : Own base B w S (x8 :: x0 :: x1 :: x2 :: x3 :: x4 :: x5 :: x6 :: x7 :: O) :=
  (Own.cong h Own.front7 (fun f hf => by simp only [List.mem_cons] at hf ⊢; rcases hf with h | h | h | h | h | h | h | h | h <;> simp [h])).swap
theorem RG.front8 {x0 x1 x2 x3 x4 x5 x6 x7 x8 : OE} (h : RG E ops Q rest (x8 :: x0 :: x1 :: x2 :: x3 :: x4 :: x5 :: x6 :: x7 :: O) G) : RG E ops Q rest (x0 :: x1 :: x2 :: x3 :: x4 :: x5 :: x6 :: x7 :: x8 :: O) G := fun a w S st => h a w S (st.own_map Own.front8)
theorem CG.front8 {x0 x1 x2 x3 x4 x5 x6 x7 x8 : OE} (h : CG E Q c (x8 :: x0 :: x1 :: x2 :: x3 :: x4 :: x5 :: x6 :: x7 :: O) G) : CG E Q c (x0 :: x1 :: x2 :: x3 :: x4 :: x5 :: x6 :: x7 :: x8 :: O) G := fun a w S st => h a w S (st.own_map Own.front8)
theorem AT.front8 {x0 x1 x2 x3 x4 x5 x6 x7 x8 : OE} (h : AT E Q e (x8 :: x0 :: x1 :: x2 :: x3 :: x4 :: x5 :: x6 :: x7 :: O) G) : AT E Q e (x0 :: x1 :: x2 :: x3 :: x4 :: x5 :: x6 :: x7 :: x8 :: O) G := fun a w S st => h a w S (st.own_map Own.front8)
theorem LG.front8 {x0 x1 x2 x3 x4 x5 x6 x7 x8 : OE} (h : LG E Q c (x8 :: x0 :: x1 :: x2 :: x3 :: x4 :: x5 :: x6 :: x7 :: O) G) : LG E Q c (x0 :: x1 :: x2 :: x3 :: x4 :: x5 :: x6 :: x7 :: x8 :: O) G := fun a w S st => h a w S (st.own_map Own.front8)
theorem Own.front9 {base : Nat} {B : Nat → Prop} {w : World} {S : SH} {x0 x1 x2 x3 x4 x5 x6 x7 x8 x9 : OE} {O : List OE} (h : Own base B w S (x0 :: x1 :: x2 :: x3 :: x4 :: x5 :: x6 :: x7 :: x8 :: x9 :: O)) : Own base B w S (x9 :: x0 :: x1 :: x2 :: x3 :: x4 :: x5 :: x6 :: x7 :: x8 :: O) :=
  (Own.cong h Own.front8 (fun f hf => by simp only [List.mem_cons] at hf ⊢; rcases hf with h | h | h | h | h | h | h | h | h | h <;> simp [h])).swap
theorem RG.front9 {x0 x1 x2 x3 x4 x5 x6 x7 x8 x9 : OE} (h : RG E ops Q rest (x9 :: x0 :: x1 :: x2 :: x3 :: x4 :: x5 :: x6 :: x7 :: x8 :: O) G) : RG E ops Q rest (x0 :: x1 :: x2 :: x3 :: x4 :: x5 :: x6 :: x7 :: x8 :: x9 :: O) G := fun a w S st => h a w S (st.own_map Own.front9)
theorem CG.front9 {x0 x1 x2 x3 x4 x5 x6 x7 x8 x9 : OE} (h : CG E Q c (x9 :: x0 :: x1 :: x2 :: x3 :: x4 :: x5 :: x6 :: x7 :: x8 :: O) G) : CG E Q c (x0 :: x1 :: x2 :: x3 :: x4 :: x5 :: x6 :: x7 :: x8 :: x9 :: O) G := fun a w S st => h a w S (st.own_map Own.front9)
theorem AT.front9 {x0 x1 x2 x3 x4 x5 x6 x7 x8 x9 : OE} (h : AT E Q e (x9 :: x0 :: x1 :: x2 :: x3 :: x4 :: x5 :: x6 :: x7 :: x8 :: O) G) : AT E Q e (x0 :: x1 :: x2 :: x3 :: x4 :: x5 :: x6 :: x7 :: x8 :: x9 :: O) G := fun a w S st => h a w S (st.own_map Own.front9)
theorem LG.front9 {x0 x1 x2 x3 x4 x5 x6 x7 x8 x9 : OE} (h : LG E Q c (x9 :: x0 :: x1 :: x2 :: x3 :: x4 :: x5 :: x6 :: x7 :: x8 :: O) G) : LG E Q c (x0 :: x1 :: x2 :: x3 :: x4 :: x5 :: x6 :: x7 :: x8 :: x9 :: O) G := fun a w S st => h a w S (st.own_map Own.front9)
theorem Own.front10 {base : Nat} {B : Nat → Prop} {w : World} {S : SH} {x0 x1 x2 x3 x4 x5 x6 x7 x8 x9 x10 : OE} {O : List OE} (h : Own base B w S (x0 :: x1 :: x2 :: x3 :: x4 :: x5 :: x6 :: x7 :: x8 :: x9 :: x10 :: O)) : Own base B w S (x10 :: x0 :: x1 :: x2 :: x3 :: x4 :: x5 :: x6 :: x7 :: x8 :: x9 :: O) :=
  (Own.cong h Own.front9 (fun f hf => by simp only [List.mem_cons] at hf ⊢; rcases hf with h | h | h | h | h | h | h | h | h | h | h <;> simp [h])).swap
theorem RG.front10 {x0 x1 x2 x3 x4 x5 x6 x7 x8 x9 x10 : OE} (h : RG E ops Q rest (x10 :: x0 :: x1 :: x2 :: x3 :: x4 :: x5 :: x6 :: x7 :: x8 :: x9 :: O) G) : RG E ops Q rest (x0 :: x1 :: x2 :: x3 :: x4 :: x5 :: x6 :: x7 :: x8 :: x9 :: x10 :: O) G := fun a w S st => h a w S (st.own_map Own.front10)
theorem CG.front10 {x0 x1 x2 x3 x4 x5 x6 x7 x8 x9 x10 : OE} (h : CG E Q c (x10 :: x0 :: x1 :: x2 :: x3 :: x4 :: x5 :: x6 :: x7 :: x8 :: x9 :: O) G) : CG E Q c (x0 :: x1 :: x2 :: x3 :: x4 :: x5 :: x6 :: x7 :: x8 :: x9 :: x10 :: O) G := fun a w S st => h a w S (st.own_map Own.front10)
theorem AT.front10 {x0 x1 x2 x3 x4 x5 x6 x7 x8 x9 x10 : OE} (h : AT E Q e (x10 :: x0 :: x1 :: x2 :: x3 :: x4 :: x5 :: x6 :: x7 :: x8 :: x9 :: O) G) : AT E Q e (x0 :: x1 :: x2 :: x3 :: x4 :: x5 :: x6 :: x7 :: x8 :: x9 :: x10 :: O) G := fun a w S st => h a w S (st.own_map Own.front10)
theorem LG.front10 {x0 x1 x2 x3 x4 x5 x6 x7 x8 x9 x10 : OE} (h : LG E Q c (x10 :: x0 :: x1 :: x2 :: x3 :: x4 :: x5 :: x6 :: x7 :: x8 :: x9 :: O) G) : LG E Q c (x0 :: x1 :: x2 :: x3 :: x4 :: x5 :: x6 :: x7 :: x8 :: x9 :: x10 :: O) G := fun a w S st => h a w S (st.own_map Own.front10)
theorem Own.front11 {base : Nat} {B : Nat → Prop} {w : World} {S : SH} {x0 x1 x2 x3 x4 x5 x6 x7 x8 x9 x10 x11 : OE} {O : List OE} (h : Own base B w S (x0 :: x1 :: x2 :: x3 :: x4 :: x5 :: x6 :: x7 :: x8 :: x9 :: x10 :: x11 :: O)) : Own base B w S (x11 :: x0 :: x1 :: x2 :: x3 :: x4 :: x5 :: x6 :: x7 :: x8 :: x9 :: x10 :: O) :=
  (Own.cong h Own.front10 (fun f hf => by simp only [List.mem_cons] at hf ⊢; rcases hf with h | h | h | h | h | h | h | h | h | h | h | h <;> simp [h])).swap
theorem RG.front11 {x0 x1 x2 x3 x4 x5 x6 x7 x8 x9 x10 x11 : OE} (h : RG E ops Q rest (x11 :: x0 :: x1 :: x2 :: x3 :: x4 :: x5 :: x6 :: x7 :: x8 :: x9 :: x10 :: O) G) : RG E ops Q rest (x0 :: x1 :: x2 :: x3 :: x4 :: x5 :: x6 :: x7 :: x8 :: x9 :: x10 :: x11 :: O) G := fun a w S st => h a w S (st.own_map Own.front11)
theorem CG.front11 {x0 x1 x2 x3 x4 x5 x6 x7 x8 x9 x10 x11 : OE} (h : CG E Q c (x11 :: x0 :: x1 :: x2 :: x3 :: x4 :: x5 :: x6 :: x7 :: x8 :: x9 :: x10 :: O) G) : CG E Q c (x0 :: x1 :: x2 :: x3 :: x4 :: x5 :: x6 :: x7 :: x8 :: x9 :: x10 :: x11 :: O) G := fun a w S st => h a w S (st.own_map Own.front11)
theorem AT.front11 {x0 x1 x2 x3 x4 x5 x6 x7 x8 x9 x10 x11 : OE} (h : AT E Q e (x11 :: x0 :: x1 :: x2 :: x3 :: x4 :: x5 :: x6 :: x7 :: x8 :: x9 :: x10 :: O) G) : AT E Q e (x0 :: x1 :: x2 :: x3 :: x4 :: x5 :: x6 :: x7 :: x8 :: x9 :: x10 :: x11 :: O) G := fun a w S st => h a w S (st.own_map Own.front11)
theorem LG.front11 {x0 x1 x2 x3 x4 x5 x6 x7 x8 x9 x10 x11 : OE} (h : LG E Q c (x11 :: x0 :: x1 :: x2 :: x3 :: x4 :: x5 :: x6 :: x7 :: x8 :: x9 :: x10 :: O) G) : LG E Q c (x0 :: x1 :: x2 :: x3 :: x4 :: x5 :: x6 :: x7 :: x8 :: x9 :: x10 :: x11 :: O) G := fun a w S st => h a w S (st.own_map Own.front11)
theorem Own.front12 {base : Nat} {B : Nat → Prop} {w : World} {S : SH} {x0 x1 x2 x3 x4 x5 x6 x7 x8 x9 x10 x11 x12 : OE} {O : List OE} (h : Own base B w S (x0 :: x1 :: x2 :: x3 :: x4 :: x5 :: x6 :: x7 :: x8 :: x9 :: x10 :: x11 :: x12 :: O)) : Own base B w S (x12 :: x0 :: x1 :: x2 :: x3 :: x4 :: x5 :: x6 :: x7 :: x8 :: x9 :: x10 :: x11 :: O) :=
  (Own.cong h Own.front11 (fun f hf => by simp only [List.mem_cons] at hf ⊢; rcases hf with h | h | h | h | h | h | h | h | h | h | h | h | h <;> simp [h])).swap
theorem RG.front12 {x0 x1 x2 x3 x4 x5 x6 x7 x8 x9 x10 x11 x12 : OE} (h : RG E ops Q rest (x12 :: x0 :: x1 :: x2 :: x3 :: x4 :: x5 :: x6 :: x7 :: x8 :: x9 :: x10 :: x11 :: O) G) : RG E ops Q rest (x0 :: x1 :: x2 :: x3 :: x4 :: x5 :: x6 :: x7 :: x8 :: x9 :: x10 :: x11 :: x12 :: O) G := fun a w S st => h a w S (st.own_map Own.front12)
theorem CG.front12 {x0 x1 x2 x3 x4 x5 x6 x7 x8 x9 x10 x11 x12 : OE} (h : CG E Q c (x12 :: x0 :: x1 :: x2 :: x3 :: x4 :: x5 :: x6 :: x7 :: x8 :: x9 :: x10 :: x11 :: O) G) : CG E Q c (x0 :: x1 :: x2 :: x3 :: x4 :: x5 :: x6 :: x7 :: x8 :: x9 :: x10 :: x11 :: x12 :: O) G := fun a w S st => h a w S (st.own_map Own.front12)
theorem AT.front12 {x0 x1 x2 x3 x4 x5 x6 x7 x8 x9 x10 x11 x12 : OE} (h : AT E Q e (x12 :: x0 :: x1 :: x2 :: x3 :: x4 :: x5 :: x6 :: x7 :: x8 :: x9 :: x10 :: x11 :: O) G) : AT E Q e (x0 :: x1 :: x2 :: x3 :: x4 :: x5 :: x6 :: x7 :: x8 :: x9 :: x10 :: x11 :: x12 :: O) G := fun a w S st => h a w S (st.own_map Own.front12)
theorem LG.front12 {x0 x1 x2 x3 x4 x5 x6 x7 x8 x9 x10 x11 x12 : OE} (h : LG E Q c (x12 :: x0 :: x1 :: x2 :: x3 :: x4 :: x5 :: x6 :: x7 :: x8 :: x9 :: x10 :: x11 :: O) G) : LG E Q c (x0 :: x1 :: x2 :: x3 :: x4 :: x5 :: x6 :: x7 :: x8 :: x9 :: x10 :: x11 :: x12 :: O) G := fun a w S st => h a w S (st.own_map Own.front12)
end

theorem set_len {α : Type} {xs zs : List α} {i : Nat} {y : α} (h : xs.set i y = zs) : zs.length = xs.length := by rw [← h, List.length_set]
section
variable {E : En} {O : List OE} {G : Ctx} {Q : Exit → Act → World → Prop} {ops : Array Oper} {rest : List Oper}
theorem RG.relen2 {n m : Nat} {l : Option Nat} {cap : Nat} (hl : m = n) (s : Nat) (hs : look G s = some (tV (oslV l cap n))) (k : RG E ops Q rest O ((s, tV (oslV l cap m)) :: G)) : RG E ops Q rest O G := by
  subst hl
  exact fun a w S st => k a w S (st.cons (st.facts.at_ s _ hs))
end

/-! ### Fields of fields -/
theorem fld_comp {α β γ : Type} {r : Rp α} {q : Rp β} {s : Rp γ} {o1 o2 : Nat} {g1 : α → β} {g2 : β → γ} (h1 : Fld r o1 q g1) (h2 : Fld q o2 s g2) (hb : Nat.ble (o2 + s.sz) q.sz = true := by rfl) : Fld r (o1 + o2) s (fun x => g2 (g1 x)) := fun S cs x h => by
  have h3 := h2 S _ _ (h1 S cs x h)
  have hb' := Nat.le_of_ble_eq_true hb
  rwa [List.drop_take, List.take_take, List.drop_drop, Nat.min_eq_left (by omega)] at h3
theorem sfld_comp {α β γ : Type} {r : Rp α} {q : Rp β} {s : Rp γ} {o1 o2 : Nat} {g1 : α → β} {u1 : α → β → α} {u2 : β → γ → β} (h1 : Fld r o1 q g1) (k1 : SFld r o1 q u1) (k2 : SFld q o2 s u2) (hb : Nat.ble (o2 + s.sz) q.sz = true := by rfl) (hc : Nat.ble (o1 + q.sz) r.sz = true := by rfl) :
    SFld r (o1 + o2) s (fun x y => u1 x (u2 (g1 x) y)) := fun S cs x ds y h hy => by
  have hb' := Nat.le_of_ble_eq_true hb
  have hc' := Nat.le_of_ble_eq_true hc
  have hl := r.len h
  have h3 := k1 S cs x _ _ h (k2 S _ _ ds y (h1 S cs x h) hy)
  have e : cs.take (o1 + o2) ++ ds ++ cs.drop (o1 + o2 + s.sz) = cs.take o1 ++ (((cs.drop o1).take q.sz).take o2 ++ ds ++ ((cs.drop o1).take q.sz).drop (o2 + s.sz)) ++ cs.drop (o1 + q.sz) := by
    rw [List.take_take, Nat.min_eq_left (by omega), List.drop_take, List.drop_drop, List.take_add, show o1 + (o2 + s.sz) = o1 + o2 + s.sz from by omega]
    simp only [List.append_assoc]
    congr 3
    have e2 : cs.drop (o1 + q.sz) = (cs.drop (o1 + o2 + s.sz)).drop (q.sz - (o2 + s.sz)) := by rw [List.drop_drop]; congr 1; omega
    rw [e2, List.take_append_drop]
  rw [e]; exact h3

/-! ### Functions over what is the caller's own -/
/-- A function that is handed what is the caller's own (O1), and leaves it turned (O2). -/
def SpecM (P : Program) (f : FuncId) (ts : List Ty) (O1 : List OE) {ι : Type} (t : ι → Ty) (O2 : ι → List OE) : Prop :=
  ∀ w S vs, Sat w S → Tys S ts vs → Own 0 noB w S O1 → Calls P f vs.toArray w fun en w' => ∃ i v S', en = .returned v ∧ (t i).p S' v ∧ Ext (fun k => ∃ f ∈ O1, f.fp k) w S w' S' ∧ Sat w' S' ∧ Own 0 noB w' S' (O2 i) ∧ ∀ k, (∃ f ∈ O2 i, f.fp k) → (∃ f ∈ O1, f.fp k) ∨ w.heap.size ≤ k
def endM (E : En) (O1 : List OE) {ι : Type} (t : ι → Ty) (O2 : ι → List OE) : Ending → World → Prop := fun en w' =>
  ∃ i v S', en = .returned v ∧ (t i).p S' v ∧ Ext E.B E.w0 E.S0 w' S' ∧ Sat w' S' ∧ Own 0 noB w' S' (O2 i) ∧ ∀ k, (∃ f ∈ O2 i, f.fp k) → (∃ f ∈ O1, f.fp k) ∨ E.w0.heap.size ≤ k
def fpB (O1 : List OE) : Nat → Prop := fun k => ∃ f ∈ O1, f.fp k
theorem SpecM.of {P : Program} {f : FuncId} {fn : Func} {c : Code} {ts : List Ty} {N : Nat} {O1 : List OE} {ι : Type} {t : ι → Ty} {O2 : ι → List OE} (hf : P.funcs[f]? = some fn) (hb : fn.body = some c) (hN : fn.ntmps = N) (hn : Nat.ble ts.length N = true)
    (h : ∀ w0 S0, CG ⟨P, ⟨N, []⟩, fpB O1, w0, S0, none⟩ (bodyPost P fn (endM ⟨P, ⟨N, []⟩, fpB O1, w0, S0, none⟩ O1 t O2)) c O1 (initG 0 ts)) : SpecM P f ts O1 t O2 := by
  subst hN
  intro w S vs hs hv ho
  exact callsIn_fw.1 (callsIn_of_wp (F := fw none) (n := 0) hf hb trivial (h w S _ w S ⟨Ext.refl _ _ _, hs, Own.based ho fun f hf k hk => .inr ⟨f, hf, hk⟩, facts_init hv _ (Nat.le_of_ble_eq_true hn)⟩))
theorem endM_of {E : En} {O1 O : List OE} {ι : Type} {t : ι → Ty} {O2 : ι → List OE} {G : Ctx} {a : Act} {w : World} {S : SH} {v : Value} (st : St E O G a w S) (hB : E.B = fpB O1) (i : ι) (hO : O = O2 i) (hv : (t i).p S v) : endM E O1 t O2 (.returned v) w := by
  subst hO
  refine ⟨i, v, S, rfl, hv, st.ext, st.sat, st.own.weak, fun k ⟨f, hf, hk⟩ => ?_⟩
  rcases (Own.mem st.own f hf).2 k hk with h | h
  · exact .inr h
  · rw [hB] at h; exact .inl h
section
variable {P : Program} {N : Nat} {w0 : World} {S0 : SH} {fn : Func} {O1 O : List OE} {G : Ctx} {ι : Type} {t : ι → Ty} {O2 : ι → List OE}
theorem AT.retM1 {k : Nat} {u : Ty} (hr : fn.results = #[.tmp k]) (i : ι) (hO : O = O2 i) (hk : look G k = some u) (hu : ∀ S v, u.p S v → (t i).p S v) :
    AT ⟨P, ⟨N, []⟩, fpB O1, w0, S0, none⟩ (bodyPost P fn (endM ⟨P, ⟨N, []⟩, fpB O1, w0, S0, none⟩ O1 t O2)) .ret O G := fun _ _ S st =>
  ⟨st.facts.defers, _, run_results_one P fn k hr _ _, endM_of st rfl i hO (hu S _ (st.facts.at_ k u hk))⟩
theorem AT.retM0 (hr : fn.results = #[]) (i : ι) (hO : O = O2 i) (ht : t i = tT []) :
    AT ⟨P, ⟨N, []⟩, fpB O1, w0, S0, none⟩ (bodyPost P fn (endM ⟨P, ⟨N, []⟩, fpB O1, w0, S0, none⟩ O1 t O2)) .ret O G := fun _ _ S st =>
  ⟨st.facts.defers, _, run_results_none P fn hr _ _, endM_of st rfl i hO (by rw [ht]; exact ⟨[], rfl, trivial⟩)⟩
theorem AT.normM0 (hr : fn.results = #[]) (i : ι) (hO : O = O2 i) (ht : t i = tT []) :
    AT ⟨P, ⟨N, []⟩, fpB O1, w0, S0, none⟩ (bodyPost P fn (endM ⟨P, ⟨N, []⟩, fpB O1, w0, S0, none⟩ O1 t O2)) .normal O G := fun _ _ S st =>
  ⟨st.facts.defers, _, run_results_none P fn hr _ _, endM_of st rfl i hO (by rw [ht]; exact ⟨[], rfl, trivial⟩)⟩
theorem AT.retM2 {j k : Nat} {u1 u2 : Ty} (hr : fn.results = #[.tmp j, .tmp k]) (i : ι) (hO : O = O2 i) (hj : look G j = some u1) (hk : look G k = some u2) (hu : ∀ S v1 v2, u1.p S v1 → u2.p S v2 → (t i).p S (.tuple #[v1, v2])) :
    AT ⟨P, ⟨N, []⟩, fpB O1, w0, S0, none⟩ (bodyPost P fn (endM ⟨P, ⟨N, []⟩, fpB O1, w0, S0, none⟩ O1 t O2)) .ret O G := fun _ _ S st =>
  ⟨st.facts.defers, _, run_results_two P fn j k hr _ _, endM_of st rfl i hO (hu S _ _ (st.facts.at_ j u1 hj) (st.facts.at_ k u2 hk))⟩
end
theorem Own.join {base : Nat} {B : Nat → Prop} {w : World} {S : SH} : ∀ {O1 O2 : List OE}, Own base B w S O1 → Own base B w S O2 → (∀ e ∈ O1, ∀ f ∈ O2, e.apart f) → Own base B w S (O1 ++ O2)
  | [], _, _, h, _ => h
  | e :: O1, O2, ⟨h1, h2, h3⟩, h, ha => ⟨h1, fun f hf => (List.mem_append.1 hf).elim (h2 f) (ha e (List.mem_cons_self ..) f), Own.join h3 h fun g hg f hf => ha g (List.mem_cons_of_mem _ hg) f hf⟩
section
variable {E : En} {O : List OE} {G : Ctx} {Q : Exit → Act → World → Prop} {ops : Array Oper} {rest : List Oper} {d : Nat} {ty : TypeId} {pos : String} {after : Array Edge}
theorem St.turn {a : Act} {w w' : World} {S S' : SH} {O1 Or O2 : List OE} (st : St E (O1 ++ Or) G a w S) (hx : Ext (fun k => ∃ f ∈ O1, f.fp k) w S w' S') (hs : Sat w' S') (ho : Own 0 noB w' S' O2) (hn : ∀ k, (∃ f ∈ O2, f.fp k) → (∃ f ∈ O1, f.fp k) ∨ w.heap.size ≤ k) : St E (O2 ++ Or) G a w' S' := by
  obtain ⟨h1, h2, h3⟩ := Own.split st.own
  have hbl := st.base_le
  refine ⟨st.ext.step hx (fun b ⟨f, hf, hb⟩ => (Own.mem h1 f hf).2 b hb), hs, Own.join (Own.based ho fun f hf k hk => ?_) (h2.ext hx fun f hf b hb ⟨g, hg, hgb⟩ => h3 g hg f hf b hgb hb) (fun e he f hf b heb hfb => ?_), st.facts.mono hx.keep⟩
  · rcases hn k ⟨f, hf, hk⟩ with ⟨g, hg, hgk⟩ | h
    · exact (Own.mem h1 g hg).2 k hgk
    · exact .inl (Nat.le_trans hbl h)
  · rcases hn b ⟨e, he, heb⟩ with ⟨g, hg, hgb⟩ | h
    · exact h3 g hg f hf b hgb hfb
    · have := f.here (Own.mem h2 f hf).1 b hfb
      omega
/-- A call of such a function. -/
theorem RG.callM {f : FuncId} {xs : List Operand} {ats : Array TypeId} {ts : List Ty} (O1 Or : List OE) {ι : Type} {t : ι → Ty} {O2 : ι → List OE} (hO : O = O1 ++ Or) (hc : callableB E.P f = true) (hs : SpecM E.P f ts O1 t O2) (hx : HasTys E.N G xs ts) (hd : Nat.blt d E.N.n = true)
    (k : ∀ i, RG E ops Q rest (O2 i ++ Or) ((d, t i) :: G)) :
    RG E ops Q (⟨some d, .call ⟨.value (.func f), xs.toArray, ats⟩, ty, pos, after, none⟩ :: rest) O G := .of rfl fun a w S st => by
  subst hO
  have hr : (execOp a.eval ⟨some d, .call ⟨.value (.func f), xs.toArray, ats⟩, ty, pos, after, none⟩).run E.P w = .ok (.enter f (xs.map a.eval).toArray) w := by
    simp [execOp, resolve, Act.eval, Deferred.ofValue, invoke, run_callFunc hc]
  refine ⟨fun c h => (by cases h), ?_⟩
  rw [hr]
  refine (hs w S _ st.sat (hx.tys st.facts) (Own.split st.own).1.weak).mono fun en w' ⟨i, v, S', he, hv, h1, h2, h3, h4⟩ => ⟨_, he, ?_⟩
  exact k i _ _ S' ((st.turn h1 h2 h3 h4).put hd hv)
end
end Go.Proofs.Ytchjhcgkfglgiaa
