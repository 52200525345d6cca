/- Facts that every law's last step wants. -/
import Derived.Test.YtchjhcgkfglgiaaRows
import Derived.Test.YtchjhcgkfglgiaaT
import Derived.Test.YtchjhcgkfglgiaaW27
namespace Go.Proofs.Ytchjhcgkfglgiaa
open Go Go.ChangeShapes Go.WideShapes Go.ChangeAt Go.RowKit

theorem own_ok : ownKnob Try.prog.godebug = none := by kernel_rfl
theorem laid_ok : laidOutB Try.prog = true := by kernel_rfl
theorem toR3 {H : Type} (enc : TypeId × Value → H) (W : World) : ToR enc Try.prog W 3 (rOk (rI .i64) (inK .i64)) := toR_intO Try.underlying3 (by kernel_rfl)
theorem toR2 {H : Type} (enc : TypeId × Value → H) (W : World) : ToR enc Try.prog W 2 (rOk (rI .i64) (inK .i64)) := toR_intO Try.underlying2 (by kernel_rfl)
theorem toR31 {H : Type} (enc : TypeId × Value → H) (W : World) : ToR enc Try.prog W 31 (rOk (rI .u64) (inK .u64)) := toR_intO Try.underlying31 (by kernel_rfl)
theorem toR9 {H : Type} (enc : TypeId × Value → H) (W : World) : ToR enc Try.prog W 9 (rOk rS inS) := toR_strO Try.underlying9 (by kernel_rfl)
def okDValue (x : DValue) : Prop := (inK .i64) x.Kind ∧ (inK .i64) x.N ∧ (inK .u64) x.U ∧ inS x.S
def roDValue : Rp DValue := rMap (rPair (rOk (rI .i64) (inK .i64)) (rPair (rOk (rI .i64) (inK .i64)) (rPair (rOk (rI .u64) (inK .u64)) (rOk rS inS)))) (fun x => (x.Kind, x.N, x.U, x.S))
theorem refDValue : Ref roDValue rpDValue okDValue := ref_map (ref_pair ref_ok (ref_pair ref_ok (ref_pair ref_ok ref_ok)))
theorem toR33 {H : Type} (enc : TypeId × Value → H) (W : World) : ToR enc Try.prog W 33 roDValue := toR_struct (l := [(3, 0), (2, 1), (31, 2), (9, 3)]) (by kernel_rfl) (by kernel_rfl) (fun y => ⟨⟨y.1, y.2.1, y.2.2.1, y.2.2.2⟩, rfl⟩) (frep_cons (toR3 enc W) rfl (frep_cons (toR2 enc W) rfl (frep_cons (toR31 enc W) rfl (frep_one (toR9 enc W)))))
theorem toR26 {H : Type} (enc : TypeId × Value → H) (W : World) : ToR enc Try.prog W 26 (rSl roDValue) := toR_slice Try.underlying26 (by kernel_rfl) rfl (toR33 enc W)
theorem toR37 {H : Type} (enc : TypeId × Value → H) (W : World) : ToR enc Try.prog W 37 (rSl (rOk (rI .i64) (inK .i64))) := toR_slice Try.underlying37 (by kernel_rfl) rfl (toR3 enc W)
theorem toR22 {H : Type} (enc : TypeId × Value → H) (W : World) : ToR enc Try.prog W 22 (rSl (rSl roDValue)) := toR_slice Try.underlying22 (by kernel_rfl) rfl (toR26 enc W)
end Go.Proofs.Ytchjhcgkfglgiaa
