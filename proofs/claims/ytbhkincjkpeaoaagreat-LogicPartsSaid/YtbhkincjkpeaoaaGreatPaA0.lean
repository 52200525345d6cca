/- Facts of this claim: A0. -/
import Derived.Test.YtbhkincjkpeaoaaGreatRows
import Derived.Test.YtbhkincjkpeaoaaGreatPaT
import Derived.Test.YtbhkincjkpeaoaaGreatPaV3
namespace Go.Proofs.YtbhkincjkpeaoaaGreat
open Go Go.ChangeShapes Go.WideShapes Go.ChangeAt Go.RowKit

theorem own_ok : ownKnob Tryz.prog.godebug = none := by kernel_rfl
theorem laid_ok : laidOutB Tryz.prog = true := by kernel_rfl
theorem toR3 {H : Type} (enc : TypeId × Value → H) (W : World) : ToR enc Tryz.prog W 3 (rOk (rI .i64) (inK .i64)) := toR_intO Tryz.underlying3 (by kernel_rfl)
theorem toR22 {H : Type} (enc : TypeId × Value → H) (W : World) : ToR enc Tryz.prog W 22 (rSl (rOk (rI .i64) (inK .i64))) := toR_slice Tryz.underlying22 (by kernel_rfl) rfl (toR3 enc W)
theorem toR4 {H : Type} (enc : TypeId × Value → H) (W : World) : ToR enc Tryz.prog W 4 (rOk rB inT) := toR_boolO Tryz.underlying4 (by kernel_rfl)
theorem toR2 {H : Type} (enc : TypeId × Value → H) (W : World) : ToR enc Tryz.prog W 2 (rOk (rI .i64) (inK .i64)) := toR_intO Tryz.underlying2 (by kernel_rfl)
theorem toR79 {H : Type} (enc : TypeId × Value → H) (W : World) : ToR enc Tryz.prog W 79 (rOk (rI .u64) (inK .u64)) := toR_intO Tryz.underlying79 (by kernel_rfl)
theorem toR9 {H : Type} (enc : TypeId × Value → H) (W : World) : ToR enc Tryz.prog W 9 (rOk rS inS) := toR_strO Tryz.underlying9 (by kernel_rfl)
def okDValue (x : DValue) : Prop := (inK .i64) x.Kind ∧ (inK .i64) x.N ∧ (inK .u64) x.U ∧ inS x.S
def roDValue : Rp DValue := rMap (rPair (rOk (rI .i64) (inK .i64)) (rPair (rOk (rI .i64) (inK .i64)) (rPair (rOk (rI .u64) (inK .u64)) (rOk rS inS)))) (fun x => (x.Kind, x.N, x.U, x.S))
theorem refDValue : Ref roDValue rpDValue okDValue := ref_map (ref_pair ref_ok (ref_pair ref_ok (ref_pair ref_ok ref_ok)))
theorem toR81 {H : Type} (enc : TypeId × Value → H) (W : World) : ToR enc Tryz.prog W 81 roDValue := toR_struct (l := [(3, 0), (2, 1), (79, 2), (9, 3)]) (by kernel_rfl) (by kernel_rfl) (fun y => ⟨⟨y.1, y.2.1, y.2.2.1, y.2.2.2⟩, rfl⟩) (frep_cons (toR3 enc W) rfl (frep_cons (toR2 enc W) rfl (frep_cons (toR79 enc W) rfl (frep_one (toR9 enc W)))))
def okDENode (x : DENode) : Prop := (inK .i64) x.Tag ∧ (inK .i64) x.L ∧ (inK .i64) x.R ∧ (inK .i64) x.Col ∧ okDValue x.Value
def roDENode : Rp DENode := rMap (rPair (rOk (rI .i64) (inK .i64)) (rPair (rOk (rI .i64) (inK .i64)) (rPair (rOk (rI .i64) (inK .i64)) (rPair (rOk (rI .i64) (inK .i64)) roDValue)))) (fun x => (x.Tag, x.L, x.R, x.Col, x.Value))
theorem refDENode : Ref roDENode rpDENode okDENode := ref_map (ref_pair ref_ok (ref_pair ref_ok (ref_pair ref_ok (ref_pair ref_ok refDValue))))
theorem toR83 {H : Type} (enc : TypeId × Value → H) (W : World) : ToR enc Tryz.prog W 83 roDENode := toR_struct (l := [(3, 0), (3, 1), (3, 2), (3, 3), (81, 4)]) (by kernel_rfl) (by kernel_rfl) (fun y => ⟨⟨y.1, y.2.1, y.2.2.1, y.2.2.2.1, y.2.2.2.2⟩, rfl⟩) (frep_cons (toR3 enc W) rfl (frep_cons (toR3 enc W) rfl (frep_cons (toR3 enc W) rfl (frep_cons (toR3 enc W) rfl (frep_one (toR81 enc W))))))
theorem toR23 {H : Type} (enc : TypeId × Value → H) (W : World) : ToR enc Tryz.prog W 23 (rSl roDENode) := toR_slice Tryz.underlying23 (by kernel_rfl) rfl (toR83 enc W)
def okDExpr (x : DExpr) : Prop := (inL okDENode) x.Nodes
def roDExpr : Rp DExpr := rMap (rSl roDENode) (fun x => (x.Nodes))
theorem refDExpr : Ref roDExpr rpDExpr okDExpr := ref_map (ref_sl refDENode)
theorem toR25 {H : Type} (enc : TypeId × Value → H) (W : World) : ToR enc Tryz.prog W 25 roDExpr := toR_struct (l := [(23, 0)]) (by kernel_rfl) (by kernel_rfl) (fun y => ⟨⟨y⟩, rfl⟩) (frep_one (toR23 enc W))
def okDAgg (x : DAgg) : Prop := (inK .i64) x.Tag ∧ okDExpr x.Arg
def roDAgg : Rp DAgg := rMap (rPair (rOk (rI .i64) (inK .i64)) roDExpr) (fun x => (x.Tag, x.Arg))
theorem refDAgg : Ref roDAgg rpDAgg okDAgg := ref_map (ref_pair ref_ok refDExpr)
theorem toR61 {H : Type} (enc : TypeId × Value → H) (W : World) : ToR enc Tryz.prog W 61 roDAgg := toR_struct (l := [(3, 0), (25, 1)]) (by kernel_rfl) (by kernel_rfl) (fun y => ⟨⟨y.1, y.2⟩, rfl⟩) (frep_cons (toR3 enc W) rfl (frep_one (toR25 enc W)))
theorem toR26 {H : Type} (enc : TypeId × Value → H) (W : World) : ToR enc Tryz.prog W 26 (rSl roDAgg) := toR_slice Tryz.underlying26 (by kernel_rfl) rfl (toR61 enc W)
theorem toR27 {H : Type} (enc : TypeId × Value → H) (W : World) : ToR enc Tryz.prog W 27 (rSl roDExpr) := toR_slice Tryz.underlying27 (by kernel_rfl) rfl (toR25 enc W)
def okDOrd (x : DOrd) : Prop := (inK .i64) x.Col ∧ inT x.Desc
def roDOrd : Rp DOrd := rMap (rPair (rOk (rI .i64) (inK .i64)) (rOk rB inT)) (fun x => (x.Col, x.Desc))
theorem refDOrd : Ref roDOrd rpDOrd okDOrd := ref_map (ref_pair ref_ok ref_ok)
theorem toR86 {H : Type} (enc : TypeId × Value → H) (W : World) : ToR enc Tryz.prog W 86 roDOrd := toR_struct (l := [(3, 0), (4, 1)]) (by kernel_rfl) (by kernel_rfl) (fun y => ⟨⟨y.1, y.2⟩, rfl⟩) (frep_cons (toR3 enc W) rfl (frep_one (toR4 enc W)))
theorem toR28 {H : Type} (enc : TypeId × Value → H) (W : World) : ToR enc Tryz.prog W 28 (rSl roDOrd) := toR_slice Tryz.underlying28 (by kernel_rfl) rfl (toR86 enc W)
def okDLNode (x : DLNode) : Prop := (inK .i64) x.Op ∧ (inK .i64) x.A ∧ (inK .i64) x.B ∧ (inK .i64) x.Table ∧ (inL (inK .i64)) x.Kinds ∧ inT x.Left ∧ okDExpr x.Cond ∧ (inL (inK .i64)) x.Keys ∧ (inL okDAgg) x.Aggs ∧ (inL okDExpr) x.Items ∧ (inL okDOrd) x.Order ∧ (inK .i64) x.Limit
def roDLNode : Rp DLNode := rMap (rPair (rOk (rI .i64) (inK .i64)) (rPair (rOk (rI .i64) (inK .i64)) (rPair (rOk (rI .i64) (inK .i64)) (rPair (rOk (rI .i64) (inK .i64)) (rPair (rSl (rOk (rI .i64) (inK .i64))) (rPair (rOk rB inT) (rPair roDExpr (rPair (rSl (rOk (rI .i64) (inK .i64))) (rPair (rSl roDAgg) (rPair (rSl roDExpr) (rPair (rSl roDOrd) (rOk (rI .i64) (inK .i64))))))))))))) (fun x => (x.Op, x.A, x.B, x.Table, x.Kinds, x.Left, x.Cond, x.Keys, x.Aggs, x.Items, x.Order, x.Limit))
theorem refDLNode : Ref roDLNode rpDLNode okDLNode := ref_map (ref_pair ref_ok (ref_pair ref_ok (ref_pair ref_ok (ref_pair ref_ok (ref_pair (ref_sl ref_ok) (ref_pair ref_ok (ref_pair refDExpr (ref_pair (ref_sl ref_ok) (ref_pair (ref_sl refDAgg) (ref_pair (ref_sl refDExpr) (ref_pair (ref_sl refDOrd) ref_ok)))))))))))
theorem toR30 {H : Type} (enc : TypeId × Value → H) (W : World) : ToR enc Tryz.prog W 30 roDLNode := toR_struct (l := [(3, 0), (3, 1), (3, 2), (3, 3), (22, 4), (4, 5), (25, 6), (22, 7), (26, 8), (27, 9), (28, 10), (3, 11)]) (by kernel_rfl) (by kernel_rfl) (fun y => ⟨⟨y.1, y.2.1, y.2.2.1, y.2.2.2.1, y.2.2.2.2.1, y.2.2.2.2.2.1, y.2.2.2.2.2.2.1, y.2.2.2.2.2.2.2.1, y.2.2.2.2.2.2.2.2.1, y.2.2.2.2.2.2.2.2.2.1, y.2.2.2.2.2.2.2.2.2.2.1, y.2.2.2.2.2.2.2.2.2.2.2⟩, rfl⟩) (frep_cons (toR3 enc W) rfl (frep_cons (toR3 enc W) rfl (frep_cons (toR3 enc W) rfl (frep_cons (toR3 enc W) rfl (frep_cons (toR22 enc W) rfl (frep_cons (toR4 enc W) rfl (frep_cons (toR25 enc W) rfl (frep_cons (toR22 enc W) rfl (frep_cons (toR26 enc W) rfl (frep_cons (toR27 enc W) rfl (frep_cons (toR28 enc W) rfl (frep_one (toR3 enc W)))))))))))))
theorem toR31 {H : Type} (enc : TypeId × Value → H) (W : World) : ToR enc Tryz.prog W 31 (rSl roDLNode) := toR_slice Tryz.underlying31 (by kernel_rfl) rfl (toR30 enc W)
def okDLogic (x : DLogic) : Prop := (inL okDLNode) x.Nodes
def roDLogic : Rp DLogic := rMap (rSl roDLNode) (fun x => (x.Nodes))
theorem refDLogic : Ref roDLogic rpDLogic okDLogic := ref_map (ref_sl refDLNode)
theorem toR33 {H : Type} (enc : TypeId × Value → H) (W : World) : ToR enc Tryz.prog W 33 roDLogic := toR_struct (l := [(31, 0)]) (by kernel_rfl) (by kernel_rfl) (fun y => ⟨⟨y⟩, rfl⟩) (frep_one (toR31 enc W))
end Go.Proofs.YtbhkincjkpeaoaaGreat

