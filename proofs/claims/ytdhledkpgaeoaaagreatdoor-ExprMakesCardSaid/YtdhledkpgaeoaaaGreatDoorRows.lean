/-
  NARROWER THAN 'FOR EVERY INPUT', by the rows' own cells (each row's printed sentence says how): ExprEvals: laid · ExprMakes: laid · ExprThrough: laid · ExprKinds: laid · ExprParts: laid · ExprTells: laid.
  DERIVED. THE GIVEN ROWS OF THIS SEAT. 6 by the template 'for every input the law returns true; each argument reads behind the call as it read before'; 0 by the template 'total and deterministic' (their statements: YtdhledkpgaeoaaaGreatDoorTotals.lean).
  GIVEN WITH THE SEED: the statements are not yours to turn. If you find one false, say at which input.
  Laid BY PROGRAM, IN A SANDBOX (cutbox-rows.mjs): the forced cells as the released guide's own fill.sh prints them over the translation 447430b02e807687… (all of the seat's roots in one cut). By AI agents, Wed Nov 11 2026. No macro, syntax, notation, axiom, sorry.
-/
import Derived.Test.YtdhledkpgaeoaaaGreatDoorChecked
import GoSem.Claim
import GoSem.ClaimJoined
import GoSem.ClaimMapViews
import Derived.JoinedTies
import Derived.KernelRfl
namespace Go.Proofs.YtdhledkpgaeoaaaGreatDoor
/- THE CELL 'sum', in the pinned program and in every row, IS THE sha256 OF THE DUMP (.gsa) THAT YtdhledkpgaeoaaaGreatDoorProg.lean LOADS. Nothing in Lean hashes anything: it is a label: what it is worth is what the hold of that sum in a sandbox is worth. -/
noncomputable def Tryz.pinned : Pinned := { name := "ytdhledkpgaeoaaagreatdoor", sum := "447430b02e807687191fae631f774ec8bbcb43748adc569ec13e4b6e30896e1b", checked := Tryz.checked }
namespace Rows
def none {H : Type} : Left H := { results := [], args := [] }

/- WHAT THE LISTED PACKAGE-LEVEL VARIABLES READ AS WHEN THE CALL BEGINS. Each datum BY PROGRAM (the guide's laid-datum.mjs) off the statement by which the dump's own 'gosem.cut.vars' lays the variable. In a bare row this is a premise. The card (YtdhledkpgaeoaaaGreatDoorCards.lean) ties it to the program's text. -/
def laid_bowsprit_value_truths {H : Type} : DataW H := .agg [.agg [.lit (.int .i64 1), .lit (.int .i64 0), .lit (.int .u64 0), .lit (.string [])], .agg [.lit (.int .i64 0), .lit (.int .i64 0), .lit (.int .u64 0), .lit (.string [])], .agg [.lit (.int .i64 1), .lit (.int .i64 1), .lit (.int .u64 0), .lit (.string [])]]

/-- 'bowspritlaw10.ExprEvals': WHATEVER THE INPUT: true; the input reads as it did. -/
def exprEvalsSpec : ChangeSpec := { name := "exprEvals", fn := fun _ => fun
  | [d1, d2] => { results := [.lit (.bool true)], args := [d1, d2] }
  | _ => none }
def exprEvalsRow : OpenClaim := { program := "ytdhledkpgaeoaaagreatdoor", sum := "447430b02e807687191fae631f774ec8bbcb43748adc569ec13e4b6e30896e1b", func := "bowsprit/bowspritlaw10.ExprEvals", spec := "exprEvals", inPlace := ["internal/bytealg.abigen_runtime_cmpstring"], unfollowed := true, recurses := true, named := ["bowsprit/value.truths"], apart := false, laid := [("bowsprit/value.truths", laid_bowsprit_value_truths)] }
def ExprEvalsSaid : Prop := exprEvalsRow.holds Tryz.pinned (OpenSpec.ofChange exprEvalsSpec)

/-- ITS FALSE NEIGHBOUR: 'it returns false'. Refute it at one input. -/
def exprEvalsWrong : ChangeSpec := { name := "exprEvals", fn := fun _ => fun
  | [d1, d2] => { results := [.lit (.bool false)], args := [d1, d2] }
  | _ => none }
def ExprEvalsWrongFalsely : Prop := exprEvalsRow.holds Tryz.pinned (OpenSpec.ofChange exprEvalsWrong)

/-- 'bowspritlaw10.ExprMakes': WHATEVER THE INPUT: true; the input reads as it did. -/
def exprMakesSpec : ChangeSpec := { name := "exprMakes", fn := fun _ => fun
  | [d1, d2, d3] => { results := [.lit (.bool true)], args := [d1, d2, d3] }
  | _ => none }
def exprMakesRow : OpenClaim := { program := "ytdhledkpgaeoaaagreatdoor", sum := "447430b02e807687191fae631f774ec8bbcb43748adc569ec13e4b6e30896e1b", func := "bowsprit/bowspritlaw10.ExprMakes", spec := "exprMakes", inPlace := ["internal/bytealg.abigen_runtime_cmpstring"], unfollowed := true, recurses := true, named := ["bowsprit/value.truths"], apart := false, laid := [("bowsprit/value.truths", laid_bowsprit_value_truths)] }
def ExprMakesSaid : Prop := exprMakesRow.holds Tryz.pinned (OpenSpec.ofChange exprMakesSpec)

/-- ITS FALSE NEIGHBOUR: 'it returns false'. Refute it at one input. -/
def exprMakesWrong : ChangeSpec := { name := "exprMakes", fn := fun _ => fun
  | [d1, d2, d3] => { results := [.lit (.bool false)], args := [d1, d2, d3] }
  | _ => none }
def ExprMakesWrongFalsely : Prop := exprMakesRow.holds Tryz.pinned (OpenSpec.ofChange exprMakesWrong)

/-- 'bowspritlaw10.ExprThrough': WHATEVER THE INPUT: true; the input reads as it did. -/
def exprThroughSpec : ChangeSpec := { name := "exprThrough", fn := fun _ => fun
  | [d1, d2, d3] => { results := [.lit (.bool true)], args := [d1, d2, d3] }
  | _ => none }
def exprThroughRow : OpenClaim := { program := "ytdhledkpgaeoaaagreatdoor", sum := "447430b02e807687191fae631f774ec8bbcb43748adc569ec13e4b6e30896e1b", func := "bowsprit/bowspritlaw10.ExprThrough", spec := "exprThrough", inPlace := ["internal/bytealg.abigen_runtime_cmpstring"], unfollowed := true, recurses := true, named := ["bowsprit/value.truths"], apart := false, laid := [("bowsprit/value.truths", laid_bowsprit_value_truths)] }
def ExprThroughSaid : Prop := exprThroughRow.holds Tryz.pinned (OpenSpec.ofChange exprThroughSpec)

/-- ITS FALSE NEIGHBOUR: 'it returns false'. Refute it at one input. -/
def exprThroughWrong : ChangeSpec := { name := "exprThrough", fn := fun _ => fun
  | [d1, d2, d3] => { results := [.lit (.bool false)], args := [d1, d2, d3] }
  | _ => none }
def ExprThroughWrongFalsely : Prop := exprThroughRow.holds Tryz.pinned (OpenSpec.ofChange exprThroughWrong)

/-- 'bowspritlaw10.ExprKinds': WHATEVER THE INPUT: true; the input reads as it did. -/
def exprKindsSpec : ChangeSpec := { name := "exprKinds", fn := fun _ => fun
  | [d1, d2, d3] => { results := [.lit (.bool true)], args := [d1, d2, d3] }
  | _ => none }
def exprKindsRow : OpenClaim := { program := "ytdhledkpgaeoaaagreatdoor", sum := "447430b02e807687191fae631f774ec8bbcb43748adc569ec13e4b6e30896e1b", func := "bowsprit/bowspritlaw10.ExprKinds", spec := "exprKinds", inPlace := ["internal/bytealg.abigen_runtime_cmpstring"], unfollowed := true, recurses := true, named := ["bowsprit/value.truths"], apart := false, laid := [("bowsprit/value.truths", laid_bowsprit_value_truths)] }
def ExprKindsSaid : Prop := exprKindsRow.holds Tryz.pinned (OpenSpec.ofChange exprKindsSpec)

/-- ITS FALSE NEIGHBOUR: 'it returns false'. Refute it at one input. -/
def exprKindsWrong : ChangeSpec := { name := "exprKinds", fn := fun _ => fun
  | [d1, d2, d3] => { results := [.lit (.bool false)], args := [d1, d2, d3] }
  | _ => none }
def ExprKindsWrongFalsely : Prop := exprKindsRow.holds Tryz.pinned (OpenSpec.ofChange exprKindsWrong)

/-- 'bowspritlaw10.ExprParts': WHATEVER THE INPUT: true; the input reads as it did. -/
def exprPartsSpec : ChangeSpec := { name := "exprParts", fn := fun _ => fun
  | [d1, d2] => { results := [.lit (.bool true)], args := [d1, d2] }
  | _ => none }
def exprPartsRow : OpenClaim := { program := "ytdhledkpgaeoaaagreatdoor", sum := "447430b02e807687191fae631f774ec8bbcb43748adc569ec13e4b6e30896e1b", func := "bowsprit/bowspritlaw10.ExprParts", spec := "exprParts", inPlace := ["internal/bytealg.abigen_runtime_cmpstring"], unfollowed := true, recurses := true, named := ["bowsprit/value.truths"], apart := false, laid := [("bowsprit/value.truths", laid_bowsprit_value_truths)] }
def ExprPartsSaid : Prop := exprPartsRow.holds Tryz.pinned (OpenSpec.ofChange exprPartsSpec)

/-- ITS FALSE NEIGHBOUR: 'it returns false'. Refute it at one input. -/
def exprPartsWrong : ChangeSpec := { name := "exprParts", fn := fun _ => fun
  | [d1, d2] => { results := [.lit (.bool false)], args := [d1, d2] }
  | _ => none }
def ExprPartsWrongFalsely : Prop := exprPartsRow.holds Tryz.pinned (OpenSpec.ofChange exprPartsWrong)

/-- 'bowspritlaw10.ExprTells': WHATEVER THE INPUT: true; the input reads as it did. -/
def exprTellsSpec : ChangeSpec := { name := "exprTells", fn := fun _ => fun
  | [d1, d2, d3] => { results := [.lit (.bool true)], args := [d1, d2, d3] }
  | _ => none }
def exprTellsRow : OpenClaim := { program := "ytdhledkpgaeoaaagreatdoor", sum := "447430b02e807687191fae631f774ec8bbcb43748adc569ec13e4b6e30896e1b", func := "bowsprit/bowspritlaw10.ExprTells", spec := "exprTells", inPlace := ["internal/bytealg.abigen_runtime_cmpstring"], unfollowed := true, recurses := true, named := ["bowsprit/value.truths"], apart := false, laid := [("bowsprit/value.truths", laid_bowsprit_value_truths)] }
def ExprTellsSaid : Prop := exprTellsRow.holds Tryz.pinned (OpenSpec.ofChange exprTellsSpec)

/-- ITS FALSE NEIGHBOUR: 'it returns false'. Refute it at one input. -/
def exprTellsWrong : ChangeSpec := { name := "exprTells", fn := fun _ => fun
  | [d1, d2, d3] => { results := [.lit (.bool false)], args := [d1, d2, d3] }
  | _ => none }
def ExprTellsWrongFalsely : Prop := exprTellsRow.holds Tryz.pinned (OpenSpec.ofChange exprTellsWrong)

/- THE SECOND FORM. 'bulk': how many values and letters a reading holds, each counted each time it is reached (what is shared counts as often as it is met; a slice's spare places count too). A statement '..UptoSaid' is the law's where the arguments, and the package variables that the reading takes, are together of bulk at most 1048576: NARROWER than '..Said'. Prove '..Said' where nothing that the law and all that it calls make is longer than what came in: it says more and counts as full. Else prove '..UptoSaid'. A law counts once. -/
mutual
def uptoBulk {H : Type} : DataW H → Nat
  | .lit (.string bytes) => bytes.length + 1
  | .lit _ => 1
  | .nil => 1
  | .ptr d => uptoBulk d + 1
  | .slice elems spare => uptoBulkAll elems + uptoBulkAll spare + 1
  | .agg parts => uptoBulkAll parts + 1
  | .iface _ d => uptoBulk d + 1
  | .map entries => uptoBulkEntries entries + 1
  | .held _ => 1
def uptoBulkAll {H : Type} : List (DataW H) → Nat
  | [] => 0
  | d :: r => uptoBulk d + uptoBulkAll r
def uptoBulkEntries {H : Type} : List (Lit × DataW H) → Nat
  | [] => 0
  | x :: r => uptoBulkEntry x + uptoBulkEntries r
def uptoBulkEntry {H : Type} : Lit × DataW H → Nat
  | (.string bytes, d) => bytes.length + uptoBulk d + 1
  | (_, d) => uptoBulk d + 1
 end
def uptoSmall : (H : Type) → List (DataW H) → Bool := fun _ ds => decide (uptoBulkAll ds ≤ 1048576)
def OpenSpec.upto (s : _root_.Go.ChangeSpec) : _root_.Go.OpenSpec := { _root_.Go.OpenSpec.ofChange s with cond := some uptoSmall }

/-- 'bowspritlaw10.ExprEvals', WHERE WHAT IT READS IS OF BULK AT MOST 1048576: true; the input reads as it did. -/
def exprEvalsUptoRow : OpenClaim := { program := "ytdhledkpgaeoaaagreatdoor", sum := "447430b02e807687191fae631f774ec8bbcb43748adc569ec13e4b6e30896e1b", func := "bowsprit/bowspritlaw10.ExprEvals", spec := "exprEvals", inPlace := ["internal/bytealg.abigen_runtime_cmpstring"], unfollowed := true, recurses := true, named := ["bowsprit/value.truths"], apart := false, laid := [("bowsprit/value.truths", laid_bowsprit_value_truths)], narrowed := true }
def ExprEvalsUptoSaid : Prop := exprEvalsUptoRow.holds Tryz.pinned (OpenSpec.upto exprEvalsSpec)

/-- 'bowspritlaw10.ExprMakes', WHERE WHAT IT READS IS OF BULK AT MOST 1048576: true; the input reads as it did. -/
def exprMakesUptoRow : OpenClaim := { program := "ytdhledkpgaeoaaagreatdoor", sum := "447430b02e807687191fae631f774ec8bbcb43748adc569ec13e4b6e30896e1b", func := "bowsprit/bowspritlaw10.ExprMakes", spec := "exprMakes", inPlace := ["internal/bytealg.abigen_runtime_cmpstring"], unfollowed := true, recurses := true, named := ["bowsprit/value.truths"], apart := false, laid := [("bowsprit/value.truths", laid_bowsprit_value_truths)], narrowed := true }
def ExprMakesUptoSaid : Prop := exprMakesUptoRow.holds Tryz.pinned (OpenSpec.upto exprMakesSpec)

/-- 'bowspritlaw10.ExprThrough', WHERE WHAT IT READS IS OF BULK AT MOST 1048576: true; the input reads as it did. -/
def exprThroughUptoRow : OpenClaim := { program := "ytdhledkpgaeoaaagreatdoor", sum := "447430b02e807687191fae631f774ec8bbcb43748adc569ec13e4b6e30896e1b", func := "bowsprit/bowspritlaw10.ExprThrough", spec := "exprThrough", inPlace := ["internal/bytealg.abigen_runtime_cmpstring"], unfollowed := true, recurses := true, named := ["bowsprit/value.truths"], apart := false, laid := [("bowsprit/value.truths", laid_bowsprit_value_truths)], narrowed := true }
def ExprThroughUptoSaid : Prop := exprThroughUptoRow.holds Tryz.pinned (OpenSpec.upto exprThroughSpec)

/-- 'bowspritlaw10.ExprKinds', WHERE WHAT IT READS IS OF BULK AT MOST 1048576: true; the input reads as it did. -/
def exprKindsUptoRow : OpenClaim := { program := "ytdhledkpgaeoaaagreatdoor", sum := "447430b02e807687191fae631f774ec8bbcb43748adc569ec13e4b6e30896e1b", func := "bowsprit/bowspritlaw10.ExprKinds", spec := "exprKinds", inPlace := ["internal/bytealg.abigen_runtime_cmpstring"], unfollowed := true, recurses := true, named := ["bowsprit/value.truths"], apart := false, laid := [("bowsprit/value.truths", laid_bowsprit_value_truths)], narrowed := true }
def ExprKindsUptoSaid : Prop := exprKindsUptoRow.holds Tryz.pinned (OpenSpec.upto exprKindsSpec)

/-- 'bowspritlaw10.ExprParts', WHERE WHAT IT READS IS OF BULK AT MOST 1048576: true; the input reads as it did. -/
def exprPartsUptoRow : OpenClaim := { program := "ytdhledkpgaeoaaagreatdoor", sum := "447430b02e807687191fae631f774ec8bbcb43748adc569ec13e4b6e30896e1b", func := "bowsprit/bowspritlaw10.ExprParts", spec := "exprParts", inPlace := ["internal/bytealg.abigen_runtime_cmpstring"], unfollowed := true, recurses := true, named := ["bowsprit/value.truths"], apart := false, laid := [("bowsprit/value.truths", laid_bowsprit_value_truths)], narrowed := true }
def ExprPartsUptoSaid : Prop := exprPartsUptoRow.holds Tryz.pinned (OpenSpec.upto exprPartsSpec)

/-- 'bowspritlaw10.ExprTells', WHERE WHAT IT READS IS OF BULK AT MOST 1048576: true; the input reads as it did. -/
def exprTellsUptoRow : OpenClaim := { program := "ytdhledkpgaeoaaagreatdoor", sum := "447430b02e807687191fae631f774ec8bbcb43748adc569ec13e4b6e30896e1b", func := "bowsprit/bowspritlaw10.ExprTells", spec := "exprTells", inPlace := ["internal/bytealg.abigen_runtime_cmpstring"], unfollowed := true, recurses := true, named := ["bowsprit/value.truths"], apart := false, laid := [("bowsprit/value.truths", laid_bowsprit_value_truths)], narrowed := true }
def ExprTellsUptoSaid : Prop := exprTellsUptoRow.holds Tryz.pinned (OpenSpec.upto exprTellsSpec)

end Rows
end Go.Proofs.YtdhledkpgaeoaaaGreatDoor
