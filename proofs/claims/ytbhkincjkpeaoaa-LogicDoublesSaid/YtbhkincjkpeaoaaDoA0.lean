/- Facts of this claim: A0. -/
import Derived.Test.YtbhkincjkpeaoaaRows
import Derived.Test.YtbhkincjkpeaoaaDoT
import Derived.Test.YtbhkincjkpeaoaaDoV3
namespace Go.Proofs.Ytbhkincjkpeaoaa
open Go Go.ChangeShapes Go.WideShapes Go.ChangeAt Go.RowKit

theorem own_ok : ownKnob Try.prog.godebug = none := by kernel_rfl
theorem laid_ok : laidOutB Try.prog = true := by kernel_rfl
theorem toR3 {H : Type} (enc : TypeId × Value → H) (W : World) : ToR enc Try.prog W 3 (rOk (rI .i64) (inK .i64)) := toR_intO Try.underlying3 (by kernel_rfl)
theorem toR25 {H : Type} (enc : TypeId × Value → H) (W : World) : ToR enc Try.prog W 25 (rSl (rOk (rI .i64) (inK .i64))) := toR_slice Try.underlying25 (by kernel_rfl) rfl (toR3 enc W)
theorem toR4 {H : Type} (enc : TypeId × Value → H) (W : World) : ToR enc Try.prog W 4 (rOk rB inT) := toR_boolO Try.underlying4 (by kernel_rfl)
theorem toR2 {H : Type} (enc : TypeId × Value → H) (W : World) : ToR enc Try.prog W 2 (rOk (rI .i64) (inK .i64)) := toR_intO Try.underlying2 (by kernel_rfl)
theorem toR60 {H : Type} (enc : TypeId × Value → H) (W : World) : ToR enc Try.prog W 60 (rOk (rI .u64) (inK .u64)) := toR_intO Try.underlying60 (by kernel_rfl)
theorem toR9 {H : Type} (enc : TypeId × Value → H) (W : World) : ToR enc Try.prog W 9 (rOk rS inS) := toR_strO Try.underlying9 (by kernel_rfl)
def okDValue (x : DValue) : Prop := (inK .i64) x.Kind ∧ (inK .i64) x.N ∧ (inK .u64) x.U ∧ inS x.S
def roDValue : Rp DValue := rMap (rPair (rOk (rI .i64) (inK .i64)) (rPair (rOk (rI .i64) (inK .i64)) (rPair (rOk (rI .u64) (inK .u64)) (rOk rS inS)))) (fun x => (x.Kind, x.N, x.U, x.S))
theorem refDValue : Ref roDValue rpDValue okDValue := ref_map (ref_pair ref_ok (ref_pair ref_ok (ref_pair ref_ok ref_ok)))
theorem toR62 {H : Type} (enc : TypeId × Value → H) (W : World) : ToR enc Try.prog W 62 roDValue := toR_struct (l := [(3, 0), (2, 1), (60, 2), (9, 3)]) (by kernel_rfl) (by kernel_rfl) (fun y => ⟨⟨y.1, y.2.1, y.2.2.1, y.2.2.2⟩, rfl⟩) (frep_cons (toR3 enc W) rfl (frep_cons (toR2 enc W) rfl (frep_cons (toR60 enc W) rfl (frep_one (toR9 enc W)))))
def okDENode (x : DENode) : Prop := (inK .i64) x.Tag ∧ (inK .i64) x.L ∧ (inK .i64) x.R ∧ (inK .i64) x.Col ∧ okDValue x.Value
def roDENode : Rp DENode := rMap (rPair (rOk (rI .i64) (inK .i64)) (rPair (rOk (rI .i64) (inK .i64)) (rPair (rOk (rI .i64) (inK .i64)) (rPair (rOk (rI .i64) (inK .i64)) roDValue)))) (fun x => (x.Tag, x.L, x.R, x.Col, x.Value))
theorem refDENode : Ref roDENode rpDENode okDENode := ref_map (ref_pair ref_ok (ref_pair ref_ok (ref_pair ref_ok (ref_pair ref_ok refDValue))))
theorem toR64 {H : Type} (enc : TypeId × Value → H) (W : World) : ToR enc Try.prog W 64 roDENode := toR_struct (l := [(3, 0), (3, 1), (3, 2), (3, 3), (62, 4)]) (by kernel_rfl) (by kernel_rfl) (fun y => ⟨⟨y.1, y.2.1, y.2.2.1, y.2.2.2.1, y.2.2.2.2⟩, rfl⟩) (frep_cons (toR3 enc W) rfl (frep_cons (toR3 enc W) rfl (frep_cons (toR3 enc W) rfl (frep_cons (toR3 enc W) rfl (frep_one (toR62 enc W))))))
theorem toR26 {H : Type} (enc : TypeId × Value → H) (W : World) : ToR enc Try.prog W 26 (rSl roDENode) := toR_slice Try.underlying26 (by kernel_rfl) rfl (toR64 enc W)
def okDExpr (x : DExpr) : Prop := (inL okDENode) x.Nodes
def roDExpr : Rp DExpr := rMap (rSl roDENode) (fun x => (x.Nodes))
theorem refDExpr : Ref roDExpr rpDExpr okDExpr := ref_map (ref_sl refDENode)
theorem toR28 {H : Type} (enc : TypeId × Value → H) (W : World) : ToR enc Try.prog W 28 roDExpr := toR_struct (l := [(26, 0)]) (by kernel_rfl) (by kernel_rfl) (fun y => ⟨⟨y⟩, rfl⟩) (frep_one (toR26 enc W))
def okDAgg (x : DAgg) : Prop := (inK .i64) x.Tag ∧ okDExpr x.Arg
def roDAgg : Rp DAgg := rMap (rPair (rOk (rI .i64) (inK .i64)) roDExpr) (fun x => (x.Tag, x.Arg))
theorem refDAgg : Ref roDAgg rpDAgg okDAgg := ref_map (ref_pair ref_ok refDExpr)
theorem toR51 {H : Type} (enc : TypeId × Value → H) (W : World) : ToR enc Try.prog W 51 roDAgg := toR_struct (l := [(3, 0), (28, 1)]) (by kernel_rfl) (by kernel_rfl) (fun y => ⟨⟨y.1, y.2⟩, rfl⟩) (frep_cons (toR3 enc W) rfl (frep_one (toR28 enc W)))
theorem toR29 {H : Type} (enc : TypeId × Value → H) (W : World) : ToR enc Try.prog W 29 (rSl roDAgg) := toR_slice Try.underlying29 (by kernel_rfl) rfl (toR51 enc W)
theorem toR30 {H : Type} (enc : TypeId × Value → H) (W : World) : ToR enc Try.prog W 30 (rSl roDExpr) := toR_slice Try.underlying30 (by kernel_rfl) rfl (toR28 enc W)
def okDOrd (x : DOrd) : Prop := (inK .i64) x.Col ∧ inT x.Desc
def roDOrd : Rp DOrd := rMap (rPair (rOk (rI .i64) (inK .i64)) (rOk rB inT)) (fun x => (x.Col, x.Desc))
theorem refDOrd : Ref roDOrd rpDOrd okDOrd := ref_map (ref_pair ref_ok ref_ok)
theorem toR95 {H : Type} (enc : TypeId × Value → H) (W : World) : ToR enc Try.prog W 95 roDOrd := toR_struct (l := [(3, 0), (4, 1)]) (by kernel_rfl) (by kernel_rfl) (fun y => ⟨⟨y.1, y.2⟩, rfl⟩) (frep_cons (toR3 enc W) rfl (frep_one (toR4 enc W)))
theorem toR31 {H : Type} (enc : TypeId × Value → H) (W : World) : ToR enc Try.prog W 31 (rSl roDOrd) := toR_slice Try.underlying31 (by kernel_rfl) rfl (toR95 enc W)
def okDLNode (x : DLNode) : Prop := (inK .i64) x.Op ∧ (inK .i64) x.A ∧ (inK .i64) x.B ∧ (inK .i64) x.Table ∧ (inL (inK .i64)) x.Kinds ∧ inT x.Left ∧ okDExpr x.Cond ∧ (inL (inK .i64)) x.Keys ∧ (inL okDAgg) x.Aggs ∧ (inL okDExpr) x.Items ∧ (inL okDOrd) x.Order ∧ (inK .i64) x.Limit
def roDLNode : Rp DLNode := rMap (rPair (rOk (rI .i64) (inK .i64)) (rPair (rOk (rI .i64) (inK .i64)) (rPair (rOk (rI .i64) (inK .i64)) (rPair (rOk (rI .i64) (inK .i64)) (rPair (rSl (rOk (rI .i64) (inK .i64))) (rPair (rOk rB inT) (rPair roDExpr (rPair (rSl (rOk (rI .i64) (inK .i64))) (rPair (rSl roDAgg) (rPair (rSl roDExpr) (rPair (rSl roDOrd) (rOk (rI .i64) (inK .i64))))))))))))) (fun x => (x.Op, x.A, x.B, x.Table, x.Kinds, x.Left, x.Cond, x.Keys, x.Aggs, x.Items, x.Order, x.Limit))
theorem refDLNode : Ref roDLNode rpDLNode okDLNode := ref_map (ref_pair ref_ok (ref_pair ref_ok (ref_pair ref_ok (ref_pair ref_ok (ref_pair (ref_sl ref_ok) (ref_pair ref_ok (ref_pair refDExpr (ref_pair (ref_sl ref_ok) (ref_pair (ref_sl refDAgg) (ref_pair (ref_sl refDExpr) (ref_pair (ref_sl refDOrd) ref_ok)))))))))))
theorem toR33 {H : Type} (enc : TypeId × Value → H) (W : World) : ToR enc Try.prog W 33 roDLNode := toR_struct (l := [(3, 0), (3, 1), (3, 2), (3, 3), (25, 4), (4, 5), (28, 6), (25, 7), (29, 8), (30, 9), (31, 10), (3, 11)]) (by kernel_rfl) (by kernel_rfl) (fun y => ⟨⟨y.1, y.2.1, y.2.2.1, y.2.2.2.1, y.2.2.2.2.1, y.2.2.2.2.2.1, y.2.2.2.2.2.2.1, y.2.2.2.2.2.2.2.1, y.2.2.2.2.2.2.2.2.1, y.2.2.2.2.2.2.2.2.2.1, y.2.2.2.2.2.2.2.2.2.2.1, y.2.2.2.2.2.2.2.2.2.2.2⟩, rfl⟩) (frep_cons (toR3 enc W) rfl (frep_cons (toR3 enc W) rfl (frep_cons (toR3 enc W) rfl (frep_cons (toR3 enc W) rfl (frep_cons (toR25 enc W) rfl (frep_cons (toR4 enc W) rfl (frep_cons (toR28 enc W) rfl (frep_cons (toR25 enc W) rfl (frep_cons (toR29 enc W) rfl (frep_cons (toR30 enc W) rfl (frep_cons (toR31 enc W) rfl (frep_one (toR3 enc W)))))))))))))
theorem toR22 {H : Type} (enc : TypeId × Value → H) (W : World) : ToR enc Try.prog W 22 (rSl roDLNode) := toR_slice Try.underlying22 (by kernel_rfl) rfl (toR33 enc W)
def okDLogic (x : DLogic) : Prop := (inL okDLNode) x.Nodes
def roDLogic : Rp DLogic := rMap (rSl roDLNode) (fun x => (x.Nodes))
theorem refDLogic : Ref roDLogic rpDLogic okDLogic := ref_map (ref_sl refDLNode)
theorem toR24 {H : Type} (enc : TypeId × Value → H) (W : World) : ToR enc Try.prog W 24 roDLogic := toR_struct (l := [(22, 0)]) (by kernel_rfl) (by kernel_rfl) (fun y => ⟨⟨y⟩, rfl⟩) (frep_one (toR22 enc W))
end Go.Proofs.Ytbhkincjkpeaoaa

