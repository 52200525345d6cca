/-
  No cell of these rows narrows 'for every input' (looked for: loops, veiled, ifaces, maps, wideKeys, modest, calm, conditions, laid).
  DERIVED. THE GIVEN ROWS OF THIS SEAT. 3 by the template 'for every input the law returns true; each argument reads behind the call as it read before'; 0 by the template 'total and deterministic' (their statements: YtbhkincjkpeaoaaGreatTotals.lean).
  GIVEN WITH THE SEED: the statements are not yours to turn. If you find one false, say at which input.
  Laid BY PROGRAM, IN A SANDBOX (cutbox-rows.mjs): the forced cells as the released guide's own fill.sh prints them over the translation cdfdd531eca52752… (all of the seat's roots in one cut). By AI agents, Wed Nov 11 2026. No macro, syntax, notation, axiom, sorry.
-/
import Derived.Test.YtbhkincjkpeaoaaGreatChecked
import GoSem.Claim
import GoSem.ClaimJoined
import GoSem.ClaimMapViews
import Derived.JoinedTies
import Derived.KernelRfl
namespace Go.Proofs.YtbhkincjkpeaoaaGreat
/- THE CELL 'sum', in the pinned program and in every row, IS THE sha256 OF THE DUMP (.gsa) THAT YtbhkincjkpeaoaaGreatProg.lean LOADS. Nothing in Lean hashes anything: it is a label: what it is worth is what the hold of that sum in a sandbox is worth. -/
noncomputable def Tryz.pinned : Pinned := { name := "ytbhkincjkpeaoaagreat", sum := "cdfdd531eca5275263acb700895875db3ccf574f66cb9162b4d9616a0a89b2a1", checked := Tryz.checked }
namespace Rows
def none {H : Type} : Left H := { results := [], args := [] }

/-- 'bowspritlaw13.LogicMakes': WHATEVER THE INPUT: true; the input reads as it did. -/
def logicMakesSpec : ChangeSpec := { name := "logicMakes", fn := fun _ => fun
  | [d1, d2, d3] => { results := [.lit (.bool true)], args := [d1, d2, d3] }
  | _ => none }
def logicMakesRow : OpenClaim := { program := "ytbhkincjkpeaoaagreat", sum := "cdfdd531eca5275263acb700895875db3ccf574f66cb9162b4d9616a0a89b2a1", func := "bowsprit/bowspritlaw13.LogicMakes", spec := "logicMakes", unfollowed := true, recurses := true, apart := false }
def LogicMakesSaid : Prop := logicMakesRow.holds Tryz.pinned (OpenSpec.ofChange logicMakesSpec)

/-- ITS FALSE NEIGHBOUR: 'it returns false'. Refute it at one input. -/
def logicMakesWrong : ChangeSpec := { name := "logicMakes", fn := fun _ => fun
  | [d1, d2, d3] => { results := [.lit (.bool false)], args := [d1, d2, d3] }
  | _ => none }
def LogicMakesWrongFalsely : Prop := logicMakesRow.holds Tryz.pinned (OpenSpec.ofChange logicMakesWrong)

/-- 'bowspritlaw13.LogicTells': WHATEVER THE INPUT: true; the input reads as it did. -/
def logicTellsSpec : ChangeSpec := { name := "logicTells", fn := fun _ => fun
  | [d1, d2] => { results := [.lit (.bool true)], args := [d1, d2] }
  | _ => none }
def logicTellsRow : OpenClaim := { program := "ytbhkincjkpeaoaagreat", sum := "cdfdd531eca5275263acb700895875db3ccf574f66cb9162b4d9616a0a89b2a1", func := "bowsprit/bowspritlaw13.LogicTells", spec := "logicTells", unfollowed := true, recurses := true, apart := false }
def LogicTellsSaid : Prop := logicTellsRow.holds Tryz.pinned (OpenSpec.ofChange logicTellsSpec)

/-- ITS FALSE NEIGHBOUR: 'it returns false'. Refute it at one input. -/
def logicTellsWrong : ChangeSpec := { name := "logicTells", fn := fun _ => fun
  | [d1, d2] => { results := [.lit (.bool false)], args := [d1, d2] }
  | _ => none }
def LogicTellsWrongFalsely : Prop := logicTellsRow.holds Tryz.pinned (OpenSpec.ofChange logicTellsWrong)

/-- 'bowspritlaw13.LogicParts': WHATEVER THE INPUT: true; the input reads as it did. -/
def logicPartsSpec : ChangeSpec := { name := "logicParts", fn := fun _ => fun
  | [d] => { results := [.lit (.bool true)], args := [d] }
  | _ => none }
def logicPartsRow : OpenClaim := { program := "ytbhkincjkpeaoaagreat", sum := "cdfdd531eca5275263acb700895875db3ccf574f66cb9162b4d9616a0a89b2a1", func := "bowsprit/bowspritlaw13.LogicParts", spec := "logicParts", unfollowed := true, recurses := true, apart := false }
def LogicPartsSaid : Prop := logicPartsRow.holds Tryz.pinned (OpenSpec.ofChange logicPartsSpec)

/-- ITS FALSE NEIGHBOUR: 'it returns false'. Refute it at one input. -/
def logicPartsWrong : ChangeSpec := { name := "logicParts", fn := fun _ => fun
  | [d] => { results := [.lit (.bool false)], args := [d] }
  | _ => none }
def LogicPartsWrongFalsely : Prop := logicPartsRow.holds Tryz.pinned (OpenSpec.ofChange logicPartsWrong)

/- THE SECOND FORM. 'bulk': how many values and letters a reading holds, each counted each time it is reached (what is shared counts as often as it is met; a slice's spare places count too). A statement '..UptoSaid' is the law's where the arguments, and the package variables that the reading takes, are together of bulk at most 1048576: NARROWER than '..Said'. Prove '..Said' where nothing that the law and all that it calls make is longer than what came in: it says more and counts as full. Else prove '..UptoSaid'. A law counts once. -/
mutual
def uptoBulk {H : Type} : DataW H → Nat
  | .lit (.string bytes) => bytes.length + 1
  | .lit _ => 1
  | .nil => 1
  | .ptr d => uptoBulk d + 1
  | .slice elems spare => uptoBulkAll elems + uptoBulkAll spare + 1
  | .agg parts => uptoBulkAll parts + 1
  | .iface _ d => uptoBulk d + 1
  | .map entries => uptoBulkEntries entries + 1
  | .held _ => 1
def uptoBulkAll {H : Type} : List (DataW H) → Nat
  | [] => 0
  | d :: r => uptoBulk d + uptoBulkAll r
def uptoBulkEntries {H : Type} : List (Lit × DataW H) → Nat
  | [] => 0
  | x :: r => uptoBulkEntry x + uptoBulkEntries r
def uptoBulkEntry {H : Type} : Lit × DataW H → Nat
  | (.string bytes, d) => bytes.length + uptoBulk d + 1
  | (_, d) => uptoBulk d + 1
 end
def uptoSmall : (H : Type) → List (DataW H) → Bool := fun _ ds => decide (uptoBulkAll ds ≤ 1048576)
def OpenSpec.upto (s : _root_.Go.ChangeSpec) : _root_.Go.OpenSpec := { _root_.Go.OpenSpec.ofChange s with cond := some uptoSmall }

/-- 'bowspritlaw13.LogicMakes', WHERE WHAT IT READS IS OF BULK AT MOST 1048576: true; the input reads as it did. -/
def logicMakesUptoRow : OpenClaim := { program := "ytbhkincjkpeaoaagreat", sum := "cdfdd531eca5275263acb700895875db3ccf574f66cb9162b4d9616a0a89b2a1", func := "bowsprit/bowspritlaw13.LogicMakes", spec := "logicMakes", unfollowed := true, recurses := true, apart := false, narrowed := true }
def LogicMakesUptoSaid : Prop := logicMakesUptoRow.holds Tryz.pinned (OpenSpec.upto logicMakesSpec)

/-- 'bowspritlaw13.LogicTells', WHERE WHAT IT READS IS OF BULK AT MOST 1048576: true; the input reads as it did. -/
def logicTellsUptoRow : OpenClaim := { program := "ytbhkincjkpeaoaagreat", sum := "cdfdd531eca5275263acb700895875db3ccf574f66cb9162b4d9616a0a89b2a1", func := "bowsprit/bowspritlaw13.LogicTells", spec := "logicTells", unfollowed := true, recurses := true, apart := false, narrowed := true }
def LogicTellsUptoSaid : Prop := logicTellsUptoRow.holds Tryz.pinned (OpenSpec.upto logicTellsSpec)

/-- 'bowspritlaw13.LogicParts', WHERE WHAT IT READS IS OF BULK AT MOST 1048576: true; the input reads as it did. -/
def logicPartsUptoRow : OpenClaim := { program := "ytbhkincjkpeaoaagreat", sum := "cdfdd531eca5275263acb700895875db3ccf574f66cb9162b4d9616a0a89b2a1", func := "bowsprit/bowspritlaw13.LogicParts", spec := "logicParts", unfollowed := true, recurses := true, apart := false, narrowed := true }
def LogicPartsUptoSaid : Prop := logicPartsUptoRow.holds Tryz.pinned (OpenSpec.upto logicPartsSpec)

end Rows
end Go.Proofs.YtbhkincjkpeaoaaGreat
