/- Facts of this claim: A0. -/
import Derived.Test.YtdhledkpgaeoaaaDoorRows
import Derived.Test.YtdhledkpgaeoaaaDoorKgT
import Derived.Test.YtdhledkpgaeoaaaDoorKgV3
import Derived.ProofKit
namespace Go.Proofs.YtdhledkpgaeoaaaDoor
open Go Go.ChangeShapes Go.WideShapes Go.ChangeAt Go.RowKit

theorem own_ok : ownKnob Tryd.prog.godebug = none := by kernel_rfl
theorem laid_ok : laidOutB Tryd.prog = true := by kernel_rfl
theorem toR3 {H : Type} (enc : TypeId × Value → H) (W : World) : ToR enc Tryd.prog W 3 (rOk (rI .i64) (inK .i64)) := toR_intO Tryd.underlying3 (by kernel_rfl)
theorem toR2 {H : Type} (enc : TypeId × Value → H) (W : World) : ToR enc Tryd.prog W 2 (rOk (rI .i64) (inK .i64)) := toR_intO Tryd.underlying2 (by kernel_rfl)
theorem toR35 {H : Type} (enc : TypeId × Value → H) (W : World) : ToR enc Tryd.prog W 35 (rOk (rI .u64) (inK .u64)) := toR_intO Tryd.underlying35 (by kernel_rfl)
theorem toR9 {H : Type} (enc : TypeId × Value → H) (W : World) : ToR enc Tryd.prog W 9 (rOk rS inS) := toR_strO Tryd.underlying9 (by kernel_rfl)
def okDValue (x : DValue) : Prop := (inK .i64) x.Kind ∧ (inK .i64) x.N ∧ (inK .u64) x.U ∧ inS x.S
def roDValue : Rp DValue := rMap (rPair (rOk (rI .i64) (inK .i64)) (rPair (rOk (rI .i64) (inK .i64)) (rPair (rOk (rI .u64) (inK .u64)) (rOk rS inS)))) (fun x => (x.Kind, x.N, x.U, x.S))
theorem refDValue : Ref roDValue rpDValue okDValue := ref_map (ref_pair ref_ok (ref_pair ref_ok (ref_pair ref_ok ref_ok)))
theorem toR37 {H : Type} (enc : TypeId × Value → H) (W : World) : ToR enc Tryd.prog W 37 roDValue := toR_struct (l := [(3, 0), (2, 1), (35, 2), (9, 3)]) (by kernel_rfl) (by kernel_rfl) (fun y => ⟨⟨y.1, y.2.1, y.2.2.1, y.2.2.2⟩, rfl⟩) (frep_cons (toR3 enc W) rfl (frep_cons (toR2 enc W) rfl (frep_cons (toR35 enc W) rfl (frep_one (toR9 enc W)))))
def okDENode (x : DENode) : Prop := (inK .i64) x.Tag ∧ (inK .i64) x.L ∧ (inK .i64) x.R ∧ (inK .i64) x.Col ∧ okDValue x.Value
def roDENode : Rp DENode := rMap (rPair (rOk (rI .i64) (inK .i64)) (rPair (rOk (rI .i64) (inK .i64)) (rPair (rOk (rI .i64) (inK .i64)) (rPair (rOk (rI .i64) (inK .i64)) roDValue)))) (fun x => (x.Tag, x.L, x.R, x.Col, x.Value))
theorem refDENode : Ref roDENode rpDENode okDENode := ref_map (ref_pair ref_ok (ref_pair ref_ok (ref_pair ref_ok (ref_pair ref_ok refDValue))))
theorem toR49 {H : Type} (enc : TypeId × Value → H) (W : World) : ToR enc Tryd.prog W 49 roDENode := toR_struct (l := [(3, 0), (3, 1), (3, 2), (3, 3), (37, 4)]) (by kernel_rfl) (by kernel_rfl) (fun y => ⟨⟨y.1, y.2.1, y.2.2.1, y.2.2.2.1, y.2.2.2.2⟩, rfl⟩) (frep_cons (toR3 enc W) rfl (frep_cons (toR3 enc W) rfl (frep_cons (toR3 enc W) rfl (frep_cons (toR3 enc W) rfl (frep_one (toR37 enc W))))))
theorem toR22 {H : Type} (enc : TypeId × Value → H) (W : World) : ToR enc Tryd.prog W 22 (rSl roDENode) := toR_slice Tryd.underlying22 (by kernel_rfl) rfl (toR49 enc W)
def okDExpr (x : DExpr) : Prop := (inL okDENode) x.Nodes
def roDExpr : Rp DExpr := rMap (rSl roDENode) (fun x => (x.Nodes))
theorem refDExpr : Ref roDExpr rpDExpr okDExpr := ref_map (ref_sl refDENode)
theorem toR24 {H : Type} (enc : TypeId × Value → H) (W : World) : ToR enc Tryd.prog W 24 roDExpr := toR_struct (l := [(22, 0)]) (by kernel_rfl) (by kernel_rfl) (fun y => ⟨⟨y⟩, rfl⟩) (frep_one (toR22 enc W))
theorem toR26 {H : Type} (enc : TypeId × Value → H) (W : World) : ToR enc Tryd.prog W 26 (rSl roDValue) := toR_slice Tryd.underlying26 (by kernel_rfl) rfl (toR37 enc W)
def laidL : List (String × DataW Unit) := [("bowsprit/value.truths", Rows.laid_bowsprit_value_truths)]
theorem gat0 : Tryd.prog.globalNamed "bowsprit/value.truths" = some 0 := by kernel_rfl
theorem gty0 : (Tryd.prog.globals[0]?).map (·.type) = some 118 := by kernel_rfl
set_option maxRecDepth 100000 in
theorem gtc0 (W : World) : ToC Tryd.prog W false 118 Rows.laid_bowsprit_value_truths [.int .i64 (1), .int .i64 (0), .int .u64 (0), .string ⟨([] : List UInt8).toArray⟩, .int .i64 (0), .int .i64 (0), .int .u64 (0), .string ⟨([] : List UInt8).toArray⟩, .int .i64 (1), .int .i64 (1), .int .u64 (0), .string ⟨([] : List UInt8).toArray⟩] := toC_arr Tryd.underlying118 (by kernel_rfl) (by rw [show Tryd.prog.cellsOf 37 = 4 from by kernel_rfl]; exact (show FC _ _ _ 0 [(37, 0), (37, 4), (37, 8)] _ _ from fc_cons (toC_struct (l := [(3, 0), (2, 1), (35, 2), (9, 3)]) (by kernel_rfl) (by kernel_rfl) (fc_cons (toC_int Tryd.underlying3 (by kernel_rfl)) rfl (fc_cons (toC_int Tryd.underlying2 (by kernel_rfl)) rfl (fc_cons (toC_int Tryd.underlying35 (by kernel_rfl)) rfl (fc_cons (toC_str Tryd.underlying9 (by kernel_rfl)) rfl (fc_nil)))))) rfl (fc_cons (toC_struct (l := [(3, 0), (2, 1), (35, 2), (9, 3)]) (by kernel_rfl) (by kernel_rfl) (fc_cons (toC_int Tryd.underlying3 (by kernel_rfl)) rfl (fc_cons (toC_int Tryd.underlying2 (by kernel_rfl)) rfl (fc_cons (toC_int Tryd.underlying35 (by kernel_rfl)) rfl (fc_cons (toC_str Tryd.underlying9 (by kernel_rfl)) rfl (fc_nil)))))) rfl (fc_cons (toC_struct (l := [(3, 0), (2, 1), (35, 2), (9, 3)]) (by kernel_rfl) (by kernel_rfl) (fc_cons (toC_int Tryd.underlying3 (by kernel_rfl)) rfl (fc_cons (toC_int Tryd.underlying2 (by kernel_rfl)) rfl (fc_cons (toC_int Tryd.underlying35 (by kernel_rfl)) rfl (fc_cons (toC_str Tryd.underlying9 (by kernel_rfl)) rfl (fc_nil)))))) rfl (fc_nil)))))
set_option maxRecDepth 100000 in
theorem door_met (os : Os) (args : Array Value) : laidMetH Tryd.prog laidL ((World.doorLaid Tryd.prog 400 os).forCall (fun _ _ => 0) ⟨#[], args, []⟩).memory :=
  laidMetH_of_parts3 (fuel := 8) (laidMet_of_run' 8 (by kernel_rfl) (by kernel_rfl)) (by kernel_rfl) (by kernel_rfl)
theorem glob_laid {W : World} (h : laidMetH Tryd.prog laidL W) : ∀ p ∈ glob, ∃ c T fr, W.heap[p.1]? = some (.cells c T fr) ∧ c.toList.take p.2.length = p.2 := by
  rw [MakeChecks.laidMetH_plain _ _ _ (by kernel_rfl)] at h
  intro p hp
  simp only [glob, List.mem_cons, List.not_mem_nil, or_false] at hp
  rcases hp with rfl
  · exact glob_of_laid h (List.mem_cons_self ..) gat0 gty0 (gtc0 W)
end Go.Proofs.YtdhledkpgaeoaaaDoor

