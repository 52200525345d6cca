/-
  No cell of these rows narrows 'for every input' (looked for: loops, veiled, ifaces, maps, wideKeys, modest, calm, conditions, laid).
  DERIVED. THE GIVEN ROWS OF THIS SEAT. 6 by the template 'for every input the law returns true; each argument reads behind the call as it read before'; 0 by the template 'total and deterministic' (their statements: YtchjhcgkfglgiaaTotals.lean).
  GIVEN WITH THE SEED: the statements are not yours to turn. If you find one false, say at which input.
  Laid BY PROGRAM, IN A SANDBOX (cutbox-rows.mjs): the forced cells as the released guide's own fill.sh prints them over the translation f91cf7e5e6c82ac1… (all of the seat's roots in one cut). By AI agents, Wed Nov 11 2026. No macro, syntax, notation, axiom, sorry.
-/
import Derived.Test.YtchjhcgkfglgiaaChecked
import GoSem.Claim
import GoSem.ClaimJoined
import GoSem.ClaimMapViews
import Derived.JoinedTies
import Derived.KernelRfl
namespace Go.Proofs.Ytchjhcgkfglgiaa
/- THE CELL 'sum', in the pinned program and in every row, IS THE sha256 OF THE DUMP (.gsa) THAT YtchjhcgkfglgiaaProg.lean LOADS. Nothing in Lean hashes anything: it is a label: what it is worth is what the hold of that sum in a sandbox is worth. -/
noncomputable def Try.pinned : Pinned := { name := "ytchjhcgkfglgiaa", sum := "f91cf7e5e6c82ac1e406fa5ed48dbf47ff48366ce3b285402a81d3b12c8d2a75", checked := Try.checked }
namespace Rows
def none {H : Type} : Left H := { results := [], args := [] }

/-- 'bowspritlaw05.RowTells': WHATEVER THE INPUT: true; the input reads as it did. -/
def rowTellsSpec : ChangeSpec := { name := "rowTells", fn := fun _ => fun
  | [d1, d2] => { results := [.lit (.bool true)], args := [d1, d2] }
  | _ => none }
def rowTellsRow : OpenClaim := { program := "ytchjhcgkfglgiaa", sum := "f91cf7e5e6c82ac1e406fa5ed48dbf47ff48366ce3b285402a81d3b12c8d2a75", func := "bowsprit/bowspritlaw05.RowTells", spec := "rowTells", unfollowed := true, recurses := true, apart := false }
def RowTellsSaid : Prop := rowTellsRow.holds Try.pinned (OpenSpec.ofChange rowTellsSpec)

/-- ITS FALSE NEIGHBOUR: 'it returns false'. Refute it at one input. -/
def rowTellsWrong : ChangeSpec := { name := "rowTells", fn := fun _ => fun
  | [d1, d2] => { results := [.lit (.bool false)], args := [d1, d2] }
  | _ => none }
def RowTellsWrongFalsely : Prop := rowTellsRow.holds Try.pinned (OpenSpec.ofChange rowTellsWrong)

/-- 'bowspritlaw05.RowOrder': WHATEVER THE INPUT: true; the input reads as it did. -/
def rowOrderSpec : ChangeSpec := { name := "rowOrder", fn := fun _ => fun
  | [d1, d2] => { results := [.lit (.bool true)], args := [d1, d2] }
  | _ => none }
def rowOrderRow : OpenClaim := { program := "ytchjhcgkfglgiaa", sum := "f91cf7e5e6c82ac1e406fa5ed48dbf47ff48366ce3b285402a81d3b12c8d2a75", func := "bowsprit/bowspritlaw05.RowOrder", spec := "rowOrder", unfollowed := true, recurses := true, apart := false }
def RowOrderSaid : Prop := rowOrderRow.holds Try.pinned (OpenSpec.ofChange rowOrderSpec)

/-- ITS FALSE NEIGHBOUR: 'it returns false'. Refute it at one input. -/
def rowOrderWrong : ChangeSpec := { name := "rowOrder", fn := fun _ => fun
  | [d1, d2] => { results := [.lit (.bool false)], args := [d1, d2] }
  | _ => none }
def RowOrderWrongFalsely : Prop := rowOrderRow.holds Try.pinned (OpenSpec.ofChange rowOrderWrong)

/-- 'bowspritlaw05.RowTakes': WHATEVER THE INPUT: true; the input reads as it did. -/
def rowTakesSpec : ChangeSpec := { name := "rowTakes", fn := fun _ => fun
  | [d1, d2] => { results := [.lit (.bool true)], args := [d1, d2] }
  | _ => none }
def rowTakesRow : OpenClaim := { program := "ytchjhcgkfglgiaa", sum := "f91cf7e5e6c82ac1e406fa5ed48dbf47ff48366ce3b285402a81d3b12c8d2a75", func := "bowsprit/bowspritlaw05.RowTakes", spec := "rowTakes", unfollowed := true, recurses := true, apart := false }
def RowTakesSaid : Prop := rowTakesRow.holds Try.pinned (OpenSpec.ofChange rowTakesSpec)

/-- ITS FALSE NEIGHBOUR: 'it returns false'. Refute it at one input. -/
def rowTakesWrong : ChangeSpec := { name := "rowTakes", fn := fun _ => fun
  | [d1, d2] => { results := [.lit (.bool false)], args := [d1, d2] }
  | _ => none }
def RowTakesWrongFalsely : Prop := rowTakesRow.holds Try.pinned (OpenSpec.ofChange rowTakesWrong)

/-- 'bowspritlaw05.RowSets': WHATEVER THE INPUT: true; the input reads as it did. -/
def rowSetsSpec : ChangeSpec := { name := "rowSets", fn := fun _ => fun
  | [d] => { results := [.lit (.bool true)], args := [d] }
  | _ => none }
def rowSetsRow : OpenClaim := { program := "ytchjhcgkfglgiaa", sum := "f91cf7e5e6c82ac1e406fa5ed48dbf47ff48366ce3b285402a81d3b12c8d2a75", func := "bowsprit/bowspritlaw05.RowSets", spec := "rowSets", unfollowed := true, recurses := true, apart := false }
def RowSetsSaid : Prop := rowSetsRow.holds Try.pinned (OpenSpec.ofChange rowSetsSpec)

/-- ITS FALSE NEIGHBOUR: 'it returns false'. Refute it at one input. -/
def rowSetsWrong : ChangeSpec := { name := "rowSets", fn := fun _ => fun
  | [d] => { results := [.lit (.bool false)], args := [d] }
  | _ => none }
def RowSetsWrongFalsely : Prop := rowSetsRow.holds Try.pinned (OpenSpec.ofChange rowSetsWrong)

/-- 'bowspritlaw05.RowSorts': WHATEVER THE INPUT: true; the input reads as it did. -/
def rowSortsSpec : ChangeSpec := { name := "rowSorts", fn := fun _ => fun
  | [d1, d2] => { results := [.lit (.bool true)], args := [d1, d2] }
  | _ => none }
def rowSortsRow : OpenClaim := { program := "ytchjhcgkfglgiaa", sum := "f91cf7e5e6c82ac1e406fa5ed48dbf47ff48366ce3b285402a81d3b12c8d2a75", func := "bowsprit/bowspritlaw05.RowSorts", spec := "rowSorts", unfollowed := true, recurses := true, apart := false }
def RowSortsSaid : Prop := rowSortsRow.holds Try.pinned (OpenSpec.ofChange rowSortsSpec)

/-- ITS FALSE NEIGHBOUR: 'it returns false'. Refute it at one input. -/
def rowSortsWrong : ChangeSpec := { name := "rowSorts", fn := fun _ => fun
  | [d1, d2] => { results := [.lit (.bool false)], args := [d1, d2] }
  | _ => none }
def RowSortsWrongFalsely : Prop := rowSortsRow.holds Try.pinned (OpenSpec.ofChange rowSortsWrong)

/-- 'bowspritlaw05.RowWhole': WHATEVER THE INPUT: true; the input reads as it did. -/
def rowWholeSpec : ChangeSpec := { name := "rowWhole", fn := fun _ => fun
  | [d1, d2, d3] => { results := [.lit (.bool true)], args := [d1, d2, d3] }
  | _ => none }
def rowWholeRow : OpenClaim := { program := "ytchjhcgkfglgiaa", sum := "f91cf7e5e6c82ac1e406fa5ed48dbf47ff48366ce3b285402a81d3b12c8d2a75", func := "bowsprit/bowspritlaw05.RowWhole", spec := "rowWhole", unfollowed := true, recurses := true, apart := false }
def RowWholeSaid : Prop := rowWholeRow.holds Try.pinned (OpenSpec.ofChange rowWholeSpec)

/-- ITS FALSE NEIGHBOUR: 'it returns false'. Refute it at one input. -/
def rowWholeWrong : ChangeSpec := { name := "rowWhole", fn := fun _ => fun
  | [d1, d2, d3] => { results := [.lit (.bool false)], args := [d1, d2, d3] }
  | _ => none }
def RowWholeWrongFalsely : Prop := rowWholeRow.holds Try.pinned (OpenSpec.ofChange rowWholeWrong)

/- THE SECOND FORM. 'bulk': how many values and letters a reading holds, each counted each time it is reached (what is shared counts as often as it is met; a slice's spare places count too). A statement '..UptoSaid' is the law's where the arguments, and the package variables that the reading takes, are together of bulk at most 1048576: NARROWER than '..Said'. Prove '..Said' where nothing that the law and all that it calls make is longer than what came in: it says more and counts as full. Else prove '..UptoSaid'. A law counts once. -/
mutual
def uptoBulk {H : Type} : DataW H → Nat
  | .lit (.string bytes) => bytes.length + 1
  | .lit _ => 1
  | .nil => 1
  | .ptr d => uptoBulk d + 1
  | .slice elems spare => uptoBulkAll elems + uptoBulkAll spare + 1
  | .agg parts => uptoBulkAll parts + 1
  | .iface _ d => uptoBulk d + 1
  | .map entries => uptoBulkEntries entries + 1
  | .held _ => 1
def uptoBulkAll {H : Type} : List (DataW H) → Nat
  | [] => 0
  | d :: r => uptoBulk d + uptoBulkAll r
def uptoBulkEntries {H : Type} : List (Lit × DataW H) → Nat
  | [] => 0
  | x :: r => uptoBulkEntry x + uptoBulkEntries r
def uptoBulkEntry {H : Type} : Lit × DataW H → Nat
  | (.string bytes, d) => bytes.length + uptoBulk d + 1
  | (_, d) => uptoBulk d + 1
 end
def uptoSmall : (H : Type) → List (DataW H) → Bool := fun _ ds => decide (uptoBulkAll ds ≤ 1048576)
def OpenSpec.upto (s : _root_.Go.ChangeSpec) : _root_.Go.OpenSpec := { _root_.Go.OpenSpec.ofChange s with cond := some uptoSmall }

/-- 'bowspritlaw05.RowTells', WHERE WHAT IT READS IS OF BULK AT MOST 1048576: true; the input reads as it did. -/
def rowTellsUptoRow : OpenClaim := { program := "ytchjhcgkfglgiaa", sum := "f91cf7e5e6c82ac1e406fa5ed48dbf47ff48366ce3b285402a81d3b12c8d2a75", func := "bowsprit/bowspritlaw05.RowTells", spec := "rowTells", unfollowed := true, recurses := true, apart := false, narrowed := true }
def RowTellsUptoSaid : Prop := rowTellsUptoRow.holds Try.pinned (OpenSpec.upto rowTellsSpec)

/-- 'bowspritlaw05.RowOrder', WHERE WHAT IT READS IS OF BULK AT MOST 1048576: true; the input reads as it did. -/
def rowOrderUptoRow : OpenClaim := { program := "ytchjhcgkfglgiaa", sum := "f91cf7e5e6c82ac1e406fa5ed48dbf47ff48366ce3b285402a81d3b12c8d2a75", func := "bowsprit/bowspritlaw05.RowOrder", spec := "rowOrder", unfollowed := true, recurses := true, apart := false, narrowed := true }
def RowOrderUptoSaid : Prop := rowOrderUptoRow.holds Try.pinned (OpenSpec.upto rowOrderSpec)

/-- 'bowspritlaw05.RowTakes', WHERE WHAT IT READS IS OF BULK AT MOST 1048576: true; the input reads as it did. -/
def rowTakesUptoRow : OpenClaim := { program := "ytchjhcgkfglgiaa", sum := "f91cf7e5e6c82ac1e406fa5ed48dbf47ff48366ce3b285402a81d3b12c8d2a75", func := "bowsprit/bowspritlaw05.RowTakes", spec := "rowTakes", unfollowed := true, recurses := true, apart := false, narrowed := true }
def RowTakesUptoSaid : Prop := rowTakesUptoRow.holds Try.pinned (OpenSpec.upto rowTakesSpec)

/-- 'bowspritlaw05.RowSets', WHERE WHAT IT READS IS OF BULK AT MOST 1048576: true; the input reads as it did. -/
def rowSetsUptoRow : OpenClaim := { program := "ytchjhcgkfglgiaa", sum := "f91cf7e5e6c82ac1e406fa5ed48dbf47ff48366ce3b285402a81d3b12c8d2a75", func := "bowsprit/bowspritlaw05.RowSets", spec := "rowSets", unfollowed := true, recurses := true, apart := false, narrowed := true }
def RowSetsUptoSaid : Prop := rowSetsUptoRow.holds Try.pinned (OpenSpec.upto rowSetsSpec)

/-- 'bowspritlaw05.RowSorts', WHERE WHAT IT READS IS OF BULK AT MOST 1048576: true; the input reads as it did. -/
def rowSortsUptoRow : OpenClaim := { program := "ytchjhcgkfglgiaa", sum := "f91cf7e5e6c82ac1e406fa5ed48dbf47ff48366ce3b285402a81d3b12c8d2a75", func := "bowsprit/bowspritlaw05.RowSorts", spec := "rowSorts", unfollowed := true, recurses := true, apart := false, narrowed := true }
def RowSortsUptoSaid : Prop := rowSortsUptoRow.holds Try.pinned (OpenSpec.upto rowSortsSpec)

/-- 'bowspritlaw05.RowWhole', WHERE WHAT IT READS IS OF BULK AT MOST 1048576: true; the input reads as it did. -/
def rowWholeUptoRow : OpenClaim := { program := "ytchjhcgkfglgiaa", sum := "f91cf7e5e6c82ac1e406fa5ed48dbf47ff48366ce3b285402a81d3b12c8d2a75", func := "bowsprit/bowspritlaw05.RowWhole", spec := "rowWhole", unfollowed := true, recurses := true, apart := false, narrowed := true }
def RowWholeUptoSaid : Prop := rowWholeUptoRow.holds Try.pinned (OpenSpec.upto rowWholeSpec)

end Rows
end Go.Proofs.Ytchjhcgkfglgiaa
