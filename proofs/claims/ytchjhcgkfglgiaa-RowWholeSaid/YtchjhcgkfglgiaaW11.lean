/- A small logic over the walk's rules: equality of rows of fields. It states nothing of any program. -/
import Derived.Test.YtchjhcgkfglgiaaW10
namespace Go.Proofs.Ytchjhcgkfglgiaa
open Go

structure EqD (P : Program) {α : Type} [DecidableEq α] (t : TypeId) (r : Rp α) : Prop where
  guard : P.eqGuardType P.depth t = false
  run : ∀ (S : SH) (cs ds : List Value) (x y : α) (d : Nat) (w : World), r.rc S cs x → r.rc S ds y → (Op.equalIn (d + 20) t (r.val cs) (r.val ds)).run P w = .ok (decide (x = y)) w
section
variable {E : En} {O : List OE} {G : Ctx} {dst : Option Tmp} {ty : TypeId} {pos : String} {after : Array Edge} {g : Option (Nat × Bool)}
theorem eqGuard_agg {P : Program} {t : TypeId} (h : P.eqGuardType P.depth t = false) {op : BinOp} {x y : Operand} {u v : Array Value} {w : World} : (eqGuard op t x y (.agg u) (.agg v)).run P w = .ok () w := by
  unfold eqGuard
  cases op <;> first | rfl | simp [h]
theorem val_agg {α : Type} {r : Rp α} (h : r.agg = true) (cs : List Value) : r.val cs = .agg cs.toArray := by unfold Rp.val; rw [if_pos h]
theorem ok_eqlD {α : Type} [DecidableEq α] {r : Rp α} {xt yt : TypeId} {x y : Operand} {m n : α} (he : EqD E.P xt r) (hx : HasTy E.N G x (tD r m)) (hy : HasTy E.N G y (tD r n)) (ha : r.agg = true := by rfl) : OpOK E O G ⟨dst, .binOp .eql xt x y yt, ty, pos, after, g⟩ (tD rB (decide (m = n))) :=
  .of_pure fun a w S _ _ hf => by
    obtain ⟨cs, h1, h2⟩ := hx S a hf
    obtain ⟨ds, h3, h4⟩ := hy S a hf
    refine ⟨.bool (decide (m = n)), ?_, tB_iff.2 rfl⟩
    have hr := he.run S cs ds m n 9980 w h2 h4
    have hg := @eqGuard_agg E.P xt he.guard .eql x y cs.toArray ds.toArray w
    rw [val_agg ha, val_agg ha] at hr
    simp only [execOp, h1, h3, val_agg ha, Sem.run_bind, hg, Result.andThen_ok, binOp, Op.equal, Op.maxDepth]
    rw [show (10000 : Nat) = 9980 + 20 from rfl, hr]
    simp
theorem ok_neqD {α : Type} [DecidableEq α] {r : Rp α} {xt yt : TypeId} {x y : Operand} {m n : α} (he : EqD E.P xt r) (hx : HasTy E.N G x (tD r m)) (hy : HasTy E.N G y (tD r n)) (ha : r.agg = true := by rfl) : OpOK E O G ⟨dst, .binOp .neq xt x y yt, ty, pos, after, g⟩ (tD rB (!decide (m = n))) :=
  .of_pure fun a w S _ _ hf => by
    obtain ⟨cs, h1, h2⟩ := hx S a hf
    obtain ⟨ds, h3, h4⟩ := hy S a hf
    refine ⟨.bool (!decide (m = n)), ?_, tB_iff.2 rfl⟩
    have hr := he.run S cs ds m n 9980 w h2 h4
    have hg := @eqGuard_agg E.P xt he.guard .neq x y cs.toArray ds.toArray w
    rw [val_agg ha, val_agg ha] at hr
    simp only [execOp, h1, h3, val_agg ha, Sem.run_bind, hg, Result.andThen_ok, binOp, Op.equal, Op.maxDepth]
    rw [show (10000 : Nat) = 9980 + 20 from rfl, hr]
    simp
end
end Go.Proofs.Ytchjhcgkfglgiaa
