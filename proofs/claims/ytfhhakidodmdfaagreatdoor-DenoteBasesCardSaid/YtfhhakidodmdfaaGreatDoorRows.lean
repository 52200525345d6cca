/-
  NARROWER THAN 'FOR EVERY INPUT', by the rows' own cells (each row's printed sentence says how): DenoteRows: laid · DenoteKinds: laid · DenoteAggregates: laid · DenoteSorts: laid · DenoteTurns: laid · DenoteFewer: laid · DenoteTwice: laid · DenoteBases: laid.
  DERIVED. THE GIVEN ROWS OF THIS SEAT. 8 by the template 'for every input the law returns true; each argument reads behind the call as it read before'; 0 by the template 'total and deterministic' (their statements: YtfhhakidodmdfaaGreatDoorTotals.lean).
  GIVEN WITH THE SEED: the statements are not yours to turn. If you find one false, say at which input.
  Laid BY PROGRAM, IN A SANDBOX (cutbox-rows.mjs): the forced cells as the released guide's own fill.sh prints them over the translation 8d3235737c18c310… (all of the seat's roots in one cut). By AI agents, Wed Nov 11 2026. No macro, syntax, notation, axiom, sorry.
-/
import Derived.Test.YtfhhakidodmdfaaGreatDoorChecked
import GoSem.PinnedTables
import GoSem.Claim
import GoSem.ClaimJoined
import GoSem.ClaimMapViews
import Derived.JoinedTies
import Derived.KernelRfl
namespace Go.Proofs.YtfhhakidodmdfaaGreatDoor
/- THE CELL 'sum', in the pinned program and in every row, IS THE sha256 OF THE DUMP (.gsa) THAT YtfhhakidodmdfaaGreatDoorProg.lean LOADS. Nothing in Lean hashes anything: it is a label: what it is worth is what the hold of that sum in a sandbox is worth. -/
noncomputable def Tryz.pinned : Pinned := { name := "ytfhhakidodmdfaagreatdoor", sum := "8d3235737c18c31046722fea695a5be5798a489d1522c0c131cf1f53352888b2", checked := Tryz.checked }
namespace Rows
def none {H : Type} : Left H := { results := [], args := [] }

/- WHAT THE LISTED PACKAGE-LEVEL VARIABLES READ AS WHEN THE CALL BEGINS. Each datum BY PROGRAM (the guide's laid-datum.mjs) off the statement by which the dump's own 'gosem.cut.vars' lays the variable. In a bare row this is a premise. The card (YtfhhakidodmdfaaGreatDoorCards.lean) ties it to the program's text. -/
def laid_bowsprit_value_truths {H : Type} : DataW H := .agg [.agg [.lit (.int .i64 1), .lit (.int .i64 0), .lit (.int .u64 0), .lit (.string [])], .agg [.lit (.int .i64 0), .lit (.int .i64 0), .lit (.int .u64 0), .lit (.string [])], .agg [.lit (.int .i64 1), .lit (.int .i64 1), .lit (.int .u64 0), .lit (.string [])]]
def laid_unicode_utf8_acceptRanges {H : Type} : DataW H := .agg [.agg [.lit (.int .u8 128), .lit (.int .u8 191)], .agg [.lit (.int .u8 160), .lit (.int .u8 191)], .agg [.lit (.int .u8 128), .lit (.int .u8 159)], .agg [.lit (.int .u8 144), .lit (.int .u8 191)], .agg [.lit (.int .u8 128), .lit (.int .u8 143)], .agg [.lit (.int .u8 0), .lit (.int .u8 0)], .agg [.lit (.int .u8 0), .lit (.int .u8 0)], .agg [.lit (.int .u8 0), .lit (.int .u8 0)], .agg [.lit (.int .u8 0), .lit (.int .u8 0)], .agg [.lit (.int .u8 0), .lit (.int .u8 0)], .agg [.lit (.int .u8 0), .lit (.int .u8 0)], .agg [.lit (.int .u8 0), .lit (.int .u8 0)], .agg [.lit (.int .u8 0), .lit (.int .u8 0)], .agg [.lit (.int .u8 0), .lit (.int .u8 0)], .agg [.lit (.int .u8 0), .lit (.int .u8 0)], .agg [.lit (.int .u8 0), .lit (.int .u8 0)]]
def laid_bowsprit_lex_words {H : Type} : DataW H := .agg [.lit (.string [83, 69, 76, 69, 67, 84]), .lit (.string [68, 73, 83, 84, 73, 78, 67, 84]), .lit (.string [70, 82, 79, 77]), .lit (.string [76, 69, 70, 84]), .lit (.string [74, 79, 73, 78]), .lit (.string [79, 78]), .lit (.string [87, 72, 69, 82, 69]), .lit (.string [71, 82, 79, 85, 80]), .lit (.string [66, 89]), .lit (.string [72, 65, 86, 73, 78, 71]), .lit (.string [85, 78, 73, 79, 78]), .lit (.string [65, 76, 76]), .lit (.string [79, 82, 68, 69, 82]), .lit (.string [76, 73, 77, 73, 84]), .lit (.string [65, 83, 67]), .lit (.string [68, 69, 83, 67]), .lit (.string [65, 83]), .lit (.string [65, 78, 68]), .lit (.string [79, 82]), .lit (.string [78, 79, 84]), .lit (.string [73, 83]), .lit (.string [78, 85, 76, 76]), .lit (.string [84, 82, 85, 69]), .lit (.string [70, 65, 76, 83, 69]), .lit (.string [67, 79, 85, 78, 84]), .lit (.string [83, 85, 77]), .lit (.string [77, 73, 78]), .lit (.string [77, 65, 88])]
def laid_bowsprit_catalog_kinds {H : Type} : DataW H := .agg [.agg [.lit (.string [98, 111, 111, 108]), .lit (.int .i64 1)], .agg [.lit (.string [105, 110, 116]), .lit (.int .i64 2)], .agg [.lit (.string [116, 101, 120, 116]), .lit (.int .i64 3)]]
/-- One of Go's own tables, pinned by name: the form's constant. -/
def laid_unicode_CaseRanges : DataW Unit := Go.Pinned.caseRanges
/-- One of Go's own tables, pinned by name: the form's constant. -/
def laid_unicode_utf8_first : DataW Unit := Go.Pinned.utf8First

/-- 'bowspritlaw15.DenoteRows': WHATEVER THE INPUT: true; the input reads as it did. -/
def denoteRowsSpec : ChangeSpec := { name := "denoteRows", fn := fun _ => fun
  | [d1, d2] => { results := [.lit (.bool true)], args := [d1, d2] }
  | _ => none }
def denoteRowsRow : OpenClaim := { program := "ytfhhakidodmdfaagreatdoor", sum := "8d3235737c18c31046722fea695a5be5798a489d1522c0c131cf1f53352888b2", func := "bowsprit/bowspritlaw15.DenoteRows", spec := "denoteRows", inPlace := ["internal/bytealg.abigen_runtime_cmpstring", "math/bits.Add64"], unfollowed := true, recurses := true, named := ["bowsprit/value.truths"], apart := false, laid := [("bowsprit/value.truths", laid_bowsprit_value_truths)] }
def DenoteRowsSaid : Prop := denoteRowsRow.holds Tryz.pinned (OpenSpec.ofChange denoteRowsSpec)

/-- ITS FALSE NEIGHBOUR: 'it returns false'. Refute it at one input. -/
def denoteRowsWrong : ChangeSpec := { name := "denoteRows", fn := fun _ => fun
  | [d1, d2] => { results := [.lit (.bool false)], args := [d1, d2] }
  | _ => none }
def DenoteRowsWrongFalsely : Prop := denoteRowsRow.holds Tryz.pinned (OpenSpec.ofChange denoteRowsWrong)

/-- 'bowspritlaw15.DenoteKinds': WHATEVER THE INPUT: true; the input reads as it did. -/
def denoteKindsSpec : ChangeSpec := { name := "denoteKinds", fn := fun _ => fun
  | [d1, d2] => { results := [.lit (.bool true)], args := [d1, d2] }
  | _ => none }
def denoteKindsRow : OpenClaim := { program := "ytfhhakidodmdfaagreatdoor", sum := "8d3235737c18c31046722fea695a5be5798a489d1522c0c131cf1f53352888b2", func := "bowsprit/bowspritlaw15.DenoteKinds", spec := "denoteKinds", inPlace := ["internal/bytealg.abigen_runtime_cmpstring", "math/bits.Add64"], unfollowed := true, recurses := true, named := ["bowsprit/value.truths"], apart := false, laid := [("bowsprit/value.truths", laid_bowsprit_value_truths)] }
def DenoteKindsSaid : Prop := denoteKindsRow.holds Tryz.pinned (OpenSpec.ofChange denoteKindsSpec)

/-- ITS FALSE NEIGHBOUR: 'it returns false'. Refute it at one input. -/
def denoteKindsWrong : ChangeSpec := { name := "denoteKinds", fn := fun _ => fun
  | [d1, d2] => { results := [.lit (.bool false)], args := [d1, d2] }
  | _ => none }
def DenoteKindsWrongFalsely : Prop := denoteKindsRow.holds Tryz.pinned (OpenSpec.ofChange denoteKindsWrong)

/-- 'bowspritlaw15.DenoteAggregates': WHATEVER THE INPUT: true; the input reads as it did. -/
def denoteAggregatesSpec : ChangeSpec := { name := "denoteAggregates", fn := fun _ => fun
  | [d1, d2] => { results := [.lit (.bool true)], args := [d1, d2] }
  | _ => none }
def denoteAggregatesRow : OpenClaim := { program := "ytfhhakidodmdfaagreatdoor", sum := "8d3235737c18c31046722fea695a5be5798a489d1522c0c131cf1f53352888b2", func := "bowsprit/bowspritlaw15.DenoteAggregates", spec := "denoteAggregates", inPlace := ["internal/bytealg.abigen_runtime_cmpstring", "math/bits.Add64"], unfollowed := true, recurses := true, named := ["bowsprit/value.truths"], apart := false, laid := [("bowsprit/value.truths", laid_bowsprit_value_truths)] }
def DenoteAggregatesSaid : Prop := denoteAggregatesRow.holds Tryz.pinned (OpenSpec.ofChange denoteAggregatesSpec)

/-- ITS FALSE NEIGHBOUR: 'it returns false'. Refute it at one input. -/
def denoteAggregatesWrong : ChangeSpec := { name := "denoteAggregates", fn := fun _ => fun
  | [d1, d2] => { results := [.lit (.bool false)], args := [d1, d2] }
  | _ => none }
def DenoteAggregatesWrongFalsely : Prop := denoteAggregatesRow.holds Tryz.pinned (OpenSpec.ofChange denoteAggregatesWrong)

/-- 'bowspritlaw15.DenoteSorts': WHATEVER THE INPUT: true; the input reads as it did. -/
def denoteSortsSpec : ChangeSpec := { name := "denoteSorts", fn := fun _ => fun
  | [d1, d2, d3] => { results := [.lit (.bool true)], args := [d1, d2, d3] }
  | _ => none }
def denoteSortsRow : OpenClaim := { program := "ytfhhakidodmdfaagreatdoor", sum := "8d3235737c18c31046722fea695a5be5798a489d1522c0c131cf1f53352888b2", func := "bowsprit/bowspritlaw15.DenoteSorts", spec := "denoteSorts", inPlace := ["internal/bytealg.abigen_runtime_cmpstring", "math/bits.Add64"], unfollowed := true, recurses := true, named := ["bowsprit/value.truths"], apart := false, laid := [("bowsprit/value.truths", laid_bowsprit_value_truths)] }
def DenoteSortsSaid : Prop := denoteSortsRow.holds Tryz.pinned (OpenSpec.ofChange denoteSortsSpec)

/-- ITS FALSE NEIGHBOUR: 'it returns false'. Refute it at one input. -/
def denoteSortsWrong : ChangeSpec := { name := "denoteSorts", fn := fun _ => fun
  | [d1, d2, d3] => { results := [.lit (.bool false)], args := [d1, d2, d3] }
  | _ => none }
def DenoteSortsWrongFalsely : Prop := denoteSortsRow.holds Tryz.pinned (OpenSpec.ofChange denoteSortsWrong)

/-- 'bowspritlaw15.DenoteTurns': WHATEVER THE INPUT: true; the input reads as it did. -/
def denoteTurnsSpec : ChangeSpec := { name := "denoteTurns", fn := fun _ => fun
  | [d1, d2, d3] => { results := [.lit (.bool true)], args := [d1, d2, d3] }
  | _ => none }
def denoteTurnsRow : OpenClaim := { program := "ytfhhakidodmdfaagreatdoor", sum := "8d3235737c18c31046722fea695a5be5798a489d1522c0c131cf1f53352888b2", func := "bowsprit/bowspritlaw15.DenoteTurns", spec := "denoteTurns", inPlace := ["internal/bytealg.abigen_runtime_cmpstring", "math/bits.Add64"], unfollowed := true, recurses := true, named := ["bowsprit/value.truths"], apart := false, laid := [("bowsprit/value.truths", laid_bowsprit_value_truths)] }
def DenoteTurnsSaid : Prop := denoteTurnsRow.holds Tryz.pinned (OpenSpec.ofChange denoteTurnsSpec)

/-- ITS FALSE NEIGHBOUR: 'it returns false'. Refute it at one input. -/
def denoteTurnsWrong : ChangeSpec := { name := "denoteTurns", fn := fun _ => fun
  | [d1, d2, d3] => { results := [.lit (.bool false)], args := [d1, d2, d3] }
  | _ => none }
def DenoteTurnsWrongFalsely : Prop := denoteTurnsRow.holds Tryz.pinned (OpenSpec.ofChange denoteTurnsWrong)

/-- 'bowspritlaw15.DenoteFewer': WHATEVER THE INPUT: true; the input reads as it did. -/
def denoteFewerSpec : ChangeSpec := { name := "denoteFewer", fn := fun _ => fun
  | [d1, d2, d3] => { results := [.lit (.bool true)], args := [d1, d2, d3] }
  | _ => none }
def denoteFewerRow : OpenClaim := { program := "ytfhhakidodmdfaagreatdoor", sum := "8d3235737c18c31046722fea695a5be5798a489d1522c0c131cf1f53352888b2", func := "bowsprit/bowspritlaw15.DenoteFewer", spec := "denoteFewer", inPlace := ["internal/bytealg.abigen_runtime_cmpstring", "math/bits.Add64"], unfollowed := true, recurses := true, named := ["bowsprit/value.truths"], apart := false, laid := [("bowsprit/value.truths", laid_bowsprit_value_truths)] }
def DenoteFewerSaid : Prop := denoteFewerRow.holds Tryz.pinned (OpenSpec.ofChange denoteFewerSpec)

/-- ITS FALSE NEIGHBOUR: 'it returns false'. Refute it at one input. -/
def denoteFewerWrong : ChangeSpec := { name := "denoteFewer", fn := fun _ => fun
  | [d1, d2, d3] => { results := [.lit (.bool false)], args := [d1, d2, d3] }
  | _ => none }
def DenoteFewerWrongFalsely : Prop := denoteFewerRow.holds Tryz.pinned (OpenSpec.ofChange denoteFewerWrong)

/-- 'bowspritlaw15.DenoteTwice': WHATEVER THE INPUT: true; the input reads as it did. -/
def denoteTwiceSpec : ChangeSpec := { name := "denoteTwice", fn := fun _ => fun
  | [d1, d2] => { results := [.lit (.bool true)], args := [d1, d2] }
  | _ => none }
def denoteTwiceRow : OpenClaim := { program := "ytfhhakidodmdfaagreatdoor", sum := "8d3235737c18c31046722fea695a5be5798a489d1522c0c131cf1f53352888b2", func := "bowsprit/bowspritlaw15.DenoteTwice", spec := "denoteTwice", inPlace := ["internal/bytealg.abigen_runtime_cmpstring", "math/bits.Add64"], unfollowed := true, recurses := true, named := ["bowsprit/value.truths"], apart := false, laid := [("bowsprit/value.truths", laid_bowsprit_value_truths)] }
def DenoteTwiceSaid : Prop := denoteTwiceRow.holds Tryz.pinned (OpenSpec.ofChange denoteTwiceSpec)

/-- ITS FALSE NEIGHBOUR: 'it returns false'. Refute it at one input. -/
def denoteTwiceWrong : ChangeSpec := { name := "denoteTwice", fn := fun _ => fun
  | [d1, d2] => { results := [.lit (.bool false)], args := [d1, d2] }
  | _ => none }
def DenoteTwiceWrongFalsely : Prop := denoteTwiceRow.holds Tryz.pinned (OpenSpec.ofChange denoteTwiceWrong)

/-- 'bowspritlaw15.DenoteBases': WHATEVER THE INPUT: true; the input reads as it did. -/
def denoteBasesSpec : ChangeSpec := { name := "denoteBases", fn := fun _ => fun
  | [d1, d2] => { results := [.lit (.bool true)], args := [d1, d2] }
  | _ => none }
def denoteBasesRow : OpenClaim := { program := "ytfhhakidodmdfaagreatdoor", sum := "8d3235737c18c31046722fea695a5be5798a489d1522c0c131cf1f53352888b2", func := "bowsprit/bowspritlaw15.DenoteBases", spec := "denoteBases", inPlace := ["internal/bytealg.abigen_runtime_cmpstring", "math/bits.Add64", "internal/abi.NoEscape", "internal/bytealg.MakeNoZero"], unfollowed := true, recurses := true, named := ["bowsprit/value.truths", "unicode/utf8.first", "unicode/utf8.acceptRanges", "unicode.CaseRanges", "bowsprit/lex.words", "bowsprit/catalog.kinds"], apart := false, laid := [("unicode/utf8.acceptRanges", laid_unicode_utf8_acceptRanges), ("bowsprit/lex.words", laid_bowsprit_lex_words), ("bowsprit/catalog.kinds", laid_bowsprit_catalog_kinds), ("bowsprit/value.truths", laid_bowsprit_value_truths), ("unicode.CaseRanges", laid_unicode_CaseRanges), ("unicode/utf8.first", laid_unicode_utf8_first)] }
def DenoteBasesSaid : Prop := denoteBasesRow.holds Tryz.pinned (OpenSpec.ofChange denoteBasesSpec)

/-- ITS FALSE NEIGHBOUR: 'it returns false'. Refute it at one input. -/
def denoteBasesWrong : ChangeSpec := { name := "denoteBases", fn := fun _ => fun
  | [d1, d2] => { results := [.lit (.bool false)], args := [d1, d2] }
  | _ => none }
def DenoteBasesWrongFalsely : Prop := denoteBasesRow.holds Tryz.pinned (OpenSpec.ofChange denoteBasesWrong)

/- THE SECOND FORM. 'bulk': how many values and letters a reading holds, each counted each time it is reached (what is shared counts as often as it is met; a slice's spare places count too). A statement '..UptoSaid' is the law's where the arguments, and the package variables that the reading takes, are together of bulk at most 1048576: NARROWER than '..Said'. Prove '..Said' where nothing that the law and all that it calls make is longer than what came in: it says more and counts as full. Else prove '..UptoSaid'. A law counts once. -/
mutual
def uptoBulk {H : Type} : DataW H → Nat
  | .lit (.string bytes) => bytes.length + 1
  | .lit _ => 1
  | .nil => 1
  | .ptr d => uptoBulk d + 1
  | .slice elems spare => uptoBulkAll elems + uptoBulkAll spare + 1
  | .agg parts => uptoBulkAll parts + 1
  | .iface _ d => uptoBulk d + 1
  | .map entries => uptoBulkEntries entries + 1
  | .held _ => 1
def uptoBulkAll {H : Type} : List (DataW H) → Nat
  | [] => 0
  | d :: r => uptoBulk d + uptoBulkAll r
def uptoBulkEntries {H : Type} : List (Lit × DataW H) → Nat
  | [] => 0
  | x :: r => uptoBulkEntry x + uptoBulkEntries r
def uptoBulkEntry {H : Type} : Lit × DataW H → Nat
  | (.string bytes, d) => bytes.length + uptoBulk d + 1
  | (_, d) => uptoBulk d + 1
 end
def uptoSmall : (H : Type) → List (DataW H) → Bool := fun _ ds => decide (uptoBulkAll ds ≤ 1048576)
def OpenSpec.upto (s : _root_.Go.ChangeSpec) : _root_.Go.OpenSpec := { _root_.Go.OpenSpec.ofChange s with cond := some uptoSmall }

/-- 'bowspritlaw15.DenoteRows', WHERE WHAT IT READS IS OF BULK AT MOST 1048576: true; the input reads as it did. -/
def denoteRowsUptoRow : OpenClaim := { program := "ytfhhakidodmdfaagreatdoor", sum := "8d3235737c18c31046722fea695a5be5798a489d1522c0c131cf1f53352888b2", func := "bowsprit/bowspritlaw15.DenoteRows", spec := "denoteRows", inPlace := ["internal/bytealg.abigen_runtime_cmpstring", "math/bits.Add64"], unfollowed := true, recurses := true, named := ["bowsprit/value.truths"], apart := false, laid := [("bowsprit/value.truths", laid_bowsprit_value_truths)], narrowed := true }
def DenoteRowsUptoSaid : Prop := denoteRowsUptoRow.holds Tryz.pinned (OpenSpec.upto denoteRowsSpec)

/-- 'bowspritlaw15.DenoteKinds', WHERE WHAT IT READS IS OF BULK AT MOST 1048576: true; the input reads as it did. -/
def denoteKindsUptoRow : OpenClaim := { program := "ytfhhakidodmdfaagreatdoor", sum := "8d3235737c18c31046722fea695a5be5798a489d1522c0c131cf1f53352888b2", func := "bowsprit/bowspritlaw15.DenoteKinds", spec := "denoteKinds", inPlace := ["internal/bytealg.abigen_runtime_cmpstring", "math/bits.Add64"], unfollowed := true, recurses := true, named := ["bowsprit/value.truths"], apart := false, laid := [("bowsprit/value.truths", laid_bowsprit_value_truths)], narrowed := true }
def DenoteKindsUptoSaid : Prop := denoteKindsUptoRow.holds Tryz.pinned (OpenSpec.upto denoteKindsSpec)

/-- 'bowspritlaw15.DenoteAggregates', WHERE WHAT IT READS IS OF BULK AT MOST 1048576: true; the input reads as it did. -/
def denoteAggregatesUptoRow : OpenClaim := { program := "ytfhhakidodmdfaagreatdoor", sum := "8d3235737c18c31046722fea695a5be5798a489d1522c0c131cf1f53352888b2", func := "bowsprit/bowspritlaw15.DenoteAggregates", spec := "denoteAggregates", inPlace := ["internal/bytealg.abigen_runtime_cmpstring", "math/bits.Add64"], unfollowed := true, recurses := true, named := ["bowsprit/value.truths"], apart := false, laid := [("bowsprit/value.truths", laid_bowsprit_value_truths)], narrowed := true }
def DenoteAggregatesUptoSaid : Prop := denoteAggregatesUptoRow.holds Tryz.pinned (OpenSpec.upto denoteAggregatesSpec)

/-- 'bowspritlaw15.DenoteSorts', WHERE WHAT IT READS IS OF BULK AT MOST 1048576: true; the input reads as it did. -/
def denoteSortsUptoRow : OpenClaim := { program := "ytfhhakidodmdfaagreatdoor", sum := "8d3235737c18c31046722fea695a5be5798a489d1522c0c131cf1f53352888b2", func := "bowsprit/bowspritlaw15.DenoteSorts", spec := "denoteSorts", inPlace := ["internal/bytealg.abigen_runtime_cmpstring", "math/bits.Add64"], unfollowed := true, recurses := true, named := ["bowsprit/value.truths"], apart := false, laid := [("bowsprit/value.truths", laid_bowsprit_value_truths)], narrowed := true }
def DenoteSortsUptoSaid : Prop := denoteSortsUptoRow.holds Tryz.pinned (OpenSpec.upto denoteSortsSpec)

/-- 'bowspritlaw15.DenoteTurns', WHERE WHAT IT READS IS OF BULK AT MOST 1048576: true; the input reads as it did. -/
def denoteTurnsUptoRow : OpenClaim := { program := "ytfhhakidodmdfaagreatdoor", sum := "8d3235737c18c31046722fea695a5be5798a489d1522c0c131cf1f53352888b2", func := "bowsprit/bowspritlaw15.DenoteTurns", spec := "denoteTurns", inPlace := ["internal/bytealg.abigen_runtime_cmpstring", "math/bits.Add64"], unfollowed := true, recurses := true, named := ["bowsprit/value.truths"], apart := false, laid := [("bowsprit/value.truths", laid_bowsprit_value_truths)], narrowed := true }
def DenoteTurnsUptoSaid : Prop := denoteTurnsUptoRow.holds Tryz.pinned (OpenSpec.upto denoteTurnsSpec)

/-- 'bowspritlaw15.DenoteFewer', WHERE WHAT IT READS IS OF BULK AT MOST 1048576: true; the input reads as it did. -/
def denoteFewerUptoRow : OpenClaim := { program := "ytfhhakidodmdfaagreatdoor", sum := "8d3235737c18c31046722fea695a5be5798a489d1522c0c131cf1f53352888b2", func := "bowsprit/bowspritlaw15.DenoteFewer", spec := "denoteFewer", inPlace := ["internal/bytealg.abigen_runtime_cmpstring", "math/bits.Add64"], unfollowed := true, recurses := true, named := ["bowsprit/value.truths"], apart := false, laid := [("bowsprit/value.truths", laid_bowsprit_value_truths)], narrowed := true }
def DenoteFewerUptoSaid : Prop := denoteFewerUptoRow.holds Tryz.pinned (OpenSpec.upto denoteFewerSpec)

/-- 'bowspritlaw15.DenoteTwice', WHERE WHAT IT READS IS OF BULK AT MOST 1048576: true; the input reads as it did. -/
def denoteTwiceUptoRow : OpenClaim := { program := "ytfhhakidodmdfaagreatdoor", sum := "8d3235737c18c31046722fea695a5be5798a489d1522c0c131cf1f53352888b2", func := "bowsprit/bowspritlaw15.DenoteTwice", spec := "denoteTwice", inPlace := ["internal/bytealg.abigen_runtime_cmpstring", "math/bits.Add64"], unfollowed := true, recurses := true, named := ["bowsprit/value.truths"], apart := false, laid := [("bowsprit/value.truths", laid_bowsprit_value_truths)], narrowed := true }
def DenoteTwiceUptoSaid : Prop := denoteTwiceUptoRow.holds Tryz.pinned (OpenSpec.upto denoteTwiceSpec)

/-- 'bowspritlaw15.DenoteBases', WHERE WHAT IT READS IS OF BULK AT MOST 1048576: true; the input reads as it did. -/
def denoteBasesUptoRow : OpenClaim := { program := "ytfhhakidodmdfaagreatdoor", sum := "8d3235737c18c31046722fea695a5be5798a489d1522c0c131cf1f53352888b2", func := "bowsprit/bowspritlaw15.DenoteBases", spec := "denoteBases", inPlace := ["internal/bytealg.abigen_runtime_cmpstring", "math/bits.Add64", "internal/abi.NoEscape", "internal/bytealg.MakeNoZero"], unfollowed := true, recurses := true, named := ["bowsprit/value.truths", "unicode/utf8.first", "unicode/utf8.acceptRanges", "unicode.CaseRanges", "bowsprit/lex.words", "bowsprit/catalog.kinds"], apart := false, laid := [("unicode/utf8.acceptRanges", laid_unicode_utf8_acceptRanges), ("bowsprit/lex.words", laid_bowsprit_lex_words), ("bowsprit/catalog.kinds", laid_bowsprit_catalog_kinds), ("bowsprit/value.truths", laid_bowsprit_value_truths), ("unicode.CaseRanges", laid_unicode_CaseRanges), ("unicode/utf8.first", laid_unicode_utf8_first)], narrowed := true }
def DenoteBasesUptoSaid : Prop := denoteBasesUptoRow.holds Tryz.pinned (OpenSpec.upto denoteBasesSpec)

end Rows
end Go.Proofs.YtfhhakidodmdfaaGreatDoor
