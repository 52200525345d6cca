/-
  No cell of these rows narrows 'for every input' (looked for: loops, veiled, ifaces, maps, wideKeys, modest, calm, conditions, laid).
  DERIVED. THE GIVEN ROWS OF THIS SEAT. 3 by the template 'for every input the law returns true; each argument reads behind the call as it read before'; 0 by the template 'total and deterministic' (their statements: YtbmmihfagmchaaaGreatTotals.lean).
  GIVEN WITH THE SEED: the statements are not yours to turn. If you find one false, say at which input.
  Laid BY PROGRAM, IN A SANDBOX (cutbox-rows.mjs): the forced cells as the released guide's own fill.sh prints them over the translation bee3838385dccb44… (all of the seat's roots in one cut). By AI agents, Wed Nov 11 2026. No macro, syntax, notation, axiom, sorry.
-/
import Derived.Test.YtbmmihfagmchaaaGreatChecked
import GoSem.Claim
import GoSem.ClaimJoined
import GoSem.ClaimMapViews
import Derived.JoinedTies
import Derived.KernelRfl
namespace Go.Proofs.YtbmmihfagmchaaaGreat
/- THE CELL 'sum', in the pinned program and in every row, IS THE sha256 OF THE DUMP (.gsa) THAT YtbmmihfagmchaaaGreatProg.lean LOADS. Nothing in Lean hashes anything: it is a label: what it is worth is what the hold of that sum in a sandbox is worth. -/
noncomputable def Tryz.pinned : Pinned := { name := "ytbmmihfagmchaaagreat", sum := "bee3838385dccb44690d84c55551327a0690e9b5861c3f7ed25e8fa81d857a8f", checked := Tryz.checked }
namespace Rows
def none {H : Type} : Left H := { results := [], args := [] }

/-- 'bowspritlaw16.RewriteSides': WHATEVER THE INPUT: true; the input reads as it did. -/
def rewriteSidesSpec : ChangeSpec := { name := "rewriteSides", fn := fun _ => fun
  | [d1, d2, d3] => { results := [.lit (.bool true)], args := [d1, d2, d3] }
  | _ => none }
def rewriteSidesRow : OpenClaim := { program := "ytbmmihfagmchaaagreat", sum := "bee3838385dccb44690d84c55551327a0690e9b5861c3f7ed25e8fa81d857a8f", func := "bowsprit/bowspritlaw16.RewriteSides", spec := "rewriteSides", unfollowed := true, recurses := true, apart := false }
def RewriteSidesSaid : Prop := rewriteSidesRow.holds Tryz.pinned (OpenSpec.ofChange rewriteSidesSpec)

/-- ITS FALSE NEIGHBOUR: 'it returns false'. Refute it at one input. -/
def rewriteSidesWrong : ChangeSpec := { name := "rewriteSides", fn := fun _ => fun
  | [d1, d2, d3] => { results := [.lit (.bool false)], args := [d1, d2, d3] }
  | _ => none }
def RewriteSidesWrongFalsely : Prop := rewriteSidesRow.holds Tryz.pinned (OpenSpec.ofChange rewriteSidesWrong)

/-- 'bowspritlaw16.RewriteTwice': WHATEVER THE INPUT: true; the input reads as it did. -/
def rewriteTwiceSpec : ChangeSpec := { name := "rewriteTwice", fn := fun _ => fun
  | [d] => { results := [.lit (.bool true)], args := [d] }
  | _ => none }
def rewriteTwiceRow : OpenClaim := { program := "ytbmmihfagmchaaagreat", sum := "bee3838385dccb44690d84c55551327a0690e9b5861c3f7ed25e8fa81d857a8f", func := "bowsprit/bowspritlaw16.RewriteTwice", spec := "rewriteTwice", unfollowed := true, recurses := true, apart := false }
def RewriteTwiceSaid : Prop := rewriteTwiceRow.holds Tryz.pinned (OpenSpec.ofChange rewriteTwiceSpec)

/-- ITS FALSE NEIGHBOUR: 'it returns false'. Refute it at one input. -/
def rewriteTwiceWrong : ChangeSpec := { name := "rewriteTwice", fn := fun _ => fun
  | [d] => { results := [.lit (.bool false)], args := [d] }
  | _ => none }
def RewriteTwiceWrongFalsely : Prop := rewriteTwiceRow.holds Tryz.pinned (OpenSpec.ofChange rewriteTwiceWrong)

/-- 'bowspritlaw16.RewriteKinds': WHATEVER THE INPUT: true; the input reads as it did. -/
def rewriteKindsSpec : ChangeSpec := { name := "rewriteKinds", fn := fun _ => fun
  | [d] => { results := [.lit (.bool true)], args := [d] }
  | _ => none }
def rewriteKindsRow : OpenClaim := { program := "ytbmmihfagmchaaagreat", sum := "bee3838385dccb44690d84c55551327a0690e9b5861c3f7ed25e8fa81d857a8f", func := "bowsprit/bowspritlaw16.RewriteKinds", spec := "rewriteKinds", unfollowed := true, recurses := true, apart := false }
def RewriteKindsSaid : Prop := rewriteKindsRow.holds Tryz.pinned (OpenSpec.ofChange rewriteKindsSpec)

/-- ITS FALSE NEIGHBOUR: 'it returns false'. Refute it at one input. -/
def rewriteKindsWrong : ChangeSpec := { name := "rewriteKinds", fn := fun _ => fun
  | [d] => { results := [.lit (.bool false)], args := [d] }
  | _ => none }
def RewriteKindsWrongFalsely : Prop := rewriteKindsRow.holds Tryz.pinned (OpenSpec.ofChange rewriteKindsWrong)

/- THE SECOND FORM. 'bulk': how many values and letters a reading holds, each counted each time it is reached (what is shared counts as often as it is met; a slice's spare places count too). A statement '..UptoSaid' is the law's where the arguments, and the package variables that the reading takes, are together of bulk at most 1048576: NARROWER than '..Said'. Prove '..Said' where nothing that the law and all that it calls make is longer than what came in: it says more and counts as full. Else prove '..UptoSaid'. A law counts once. -/
mutual
def uptoBulk {H : Type} : DataW H → Nat
  | .lit (.string bytes) => bytes.length + 1
  | .lit _ => 1
  | .nil => 1
  | .ptr d => uptoBulk d + 1
  | .slice elems spare => uptoBulkAll elems + uptoBulkAll spare + 1
  | .agg parts => uptoBulkAll parts + 1
  | .iface _ d => uptoBulk d + 1
  | .map entries => uptoBulkEntries entries + 1
  | .held _ => 1
def uptoBulkAll {H : Type} : List (DataW H) → Nat
  | [] => 0
  | d :: r => uptoBulk d + uptoBulkAll r
def uptoBulkEntries {H : Type} : List (Lit × DataW H) → Nat
  | [] => 0
  | x :: r => uptoBulkEntry x + uptoBulkEntries r
def uptoBulkEntry {H : Type} : Lit × DataW H → Nat
  | (.string bytes, d) => bytes.length + uptoBulk d + 1
  | (_, d) => uptoBulk d + 1
 end
def uptoSmall : (H : Type) → List (DataW H) → Bool := fun _ ds => decide (uptoBulkAll ds ≤ 1048576)
def OpenSpec.upto (s : _root_.Go.ChangeSpec) : _root_.Go.OpenSpec := { _root_.Go.OpenSpec.ofChange s with cond := some uptoSmall }

/-- 'bowspritlaw16.RewriteSides', WHERE WHAT IT READS IS OF BULK AT MOST 1048576: true; the input reads as it did. -/
def rewriteSidesUptoRow : OpenClaim := { program := "ytbmmihfagmchaaagreat", sum := "bee3838385dccb44690d84c55551327a0690e9b5861c3f7ed25e8fa81d857a8f", func := "bowsprit/bowspritlaw16.RewriteSides", spec := "rewriteSides", unfollowed := true, recurses := true, apart := false, narrowed := true }
def RewriteSidesUptoSaid : Prop := rewriteSidesUptoRow.holds Tryz.pinned (OpenSpec.upto rewriteSidesSpec)

/-- 'bowspritlaw16.RewriteTwice', WHERE WHAT IT READS IS OF BULK AT MOST 1048576: true; the input reads as it did. -/
def rewriteTwiceUptoRow : OpenClaim := { program := "ytbmmihfagmchaaagreat", sum := "bee3838385dccb44690d84c55551327a0690e9b5861c3f7ed25e8fa81d857a8f", func := "bowsprit/bowspritlaw16.RewriteTwice", spec := "rewriteTwice", unfollowed := true, recurses := true, apart := false, narrowed := true }
def RewriteTwiceUptoSaid : Prop := rewriteTwiceUptoRow.holds Tryz.pinned (OpenSpec.upto rewriteTwiceSpec)

/-- 'bowspritlaw16.RewriteKinds', WHERE WHAT IT READS IS OF BULK AT MOST 1048576: true; the input reads as it did. -/
def rewriteKindsUptoRow : OpenClaim := { program := "ytbmmihfagmchaaagreat", sum := "bee3838385dccb44690d84c55551327a0690e9b5861c3f7ed25e8fa81d857a8f", func := "bowsprit/bowspritlaw16.RewriteKinds", spec := "rewriteKinds", unfollowed := true, recurses := true, apart := false, narrowed := true }
def RewriteKindsUptoSaid : Prop := rewriteKindsUptoRow.holds Tryz.pinned (OpenSpec.upto rewriteKindsSpec)

end Rows
end Go.Proofs.YtbmmihfagmchaaaGreat
