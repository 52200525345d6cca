/-
  NARROWER THAN 'FOR EVERY INPUT', by the rows' own cells (each row's printed sentence says how): PropAlone: laid · PropReads: laid · PropTells: laid · PropScans: laid · PropProjects: laid.
  DERIVED. THE GIVEN ROWS OF THIS SEAT. 5 by the template 'for every input the law returns true; each argument reads behind the call as it read before'; 0 by the template 'total and deterministic' (their statements: YtmogpgcfognefaaGreatDoorTotals.lean).
  GIVEN WITH THE SEED: the statements are not yours to turn. If you find one false, say at which input.
  Laid BY PROGRAM, IN A SANDBOX (cutbox-rows.mjs): the forced cells as the released guide's own fill.sh prints them over the translation a038c7d9206ac8f2… (all of the seat's roots in one cut). By AI agents, Wed Nov 11 2026. No macro, syntax, notation, axiom, sorry.
-/
import Derived.Test.YtmogpgcfognefaaGreatDoorChecked
import GoSem.PinnedTables
import GoSem.Claim
import GoSem.ClaimJoined
import GoSem.ClaimMapViews
import Derived.JoinedTies
import Derived.KernelRfl
namespace Go.Proofs.YtmogpgcfognefaaGreatDoor
/- THE CELL 'sum', in the pinned program and in every row, IS THE sha256 OF THE DUMP (.gsa) THAT YtmogpgcfognefaaGreatDoorProg.lean LOADS. Nothing in Lean hashes anything: it is a label: what it is worth is what the hold of that sum in a sandbox is worth. -/
noncomputable def Tryz.pinned : Pinned := { name := "ytmogpgcfognefaagreatdoor", sum := "a038c7d9206ac8f290222cfcc989c1b9017b8ba54274d6b4db578f9ec6ee39a8", checked := Tryz.checked }
namespace Rows
def none {H : Type} : Left H := { results := [], args := [] }

/- WHAT THE LISTED PACKAGE-LEVEL VARIABLES READ AS WHEN THE CALL BEGINS. Each datum BY PROGRAM (the guide's laid-datum.mjs) off the statement by which the dump's own 'gosem.cut.vars' lays the variable. In a bare row this is a premise. The card (YtmogpgcfognefaaGreatDoorCards.lean) ties it to the program's text. -/
def laid_unicode_utf8_acceptRanges {H : Type} : DataW H := .agg [.agg [.lit (.int .u8 128), .lit (.int .u8 191)], .agg [.lit (.int .u8 160), .lit (.int .u8 191)], .agg [.lit (.int .u8 128), .lit (.int .u8 159)], .agg [.lit (.int .u8 144), .lit (.int .u8 191)], .agg [.lit (.int .u8 128), .lit (.int .u8 143)], .agg [.lit (.int .u8 0), .lit (.int .u8 0)], .agg [.lit (.int .u8 0), .lit (.int .u8 0)], .agg [.lit (.int .u8 0), .lit (.int .u8 0)], .agg [.lit (.int .u8 0), .lit (.int .u8 0)], .agg [.lit (.int .u8 0), .lit (.int .u8 0)], .agg [.lit (.int .u8 0), .lit (.int .u8 0)], .agg [.lit (.int .u8 0), .lit (.int .u8 0)], .agg [.lit (.int .u8 0), .lit (.int .u8 0)], .agg [.lit (.int .u8 0), .lit (.int .u8 0)], .agg [.lit (.int .u8 0), .lit (.int .u8 0)], .agg [.lit (.int .u8 0), .lit (.int .u8 0)]]
def laid_bowsprit_lex_words {H : Type} : DataW H := .agg [.lit (.string [83, 69, 76, 69, 67, 84]), .lit (.string [68, 73, 83, 84, 73, 78, 67, 84]), .lit (.string [70, 82, 79, 77]), .lit (.string [76, 69, 70, 84]), .lit (.string [74, 79, 73, 78]), .lit (.string [79, 78]), .lit (.string [87, 72, 69, 82, 69]), .lit (.string [71, 82, 79, 85, 80]), .lit (.string [66, 89]), .lit (.string [72, 65, 86, 73, 78, 71]), .lit (.string [85, 78, 73, 79, 78]), .lit (.string [65, 76, 76]), .lit (.string [79, 82, 68, 69, 82]), .lit (.string [76, 73, 77, 73, 84]), .lit (.string [65, 83, 67]), .lit (.string [68, 69, 83, 67]), .lit (.string [65, 83]), .lit (.string [65, 78, 68]), .lit (.string [79, 82]), .lit (.string [78, 79, 84]), .lit (.string [73, 83]), .lit (.string [78, 85, 76, 76]), .lit (.string [84, 82, 85, 69]), .lit (.string [70, 65, 76, 83, 69]), .lit (.string [67, 79, 85, 78, 84]), .lit (.string [83, 85, 77]), .lit (.string [77, 73, 78]), .lit (.string [77, 65, 88])]
def laid_bowsprit_catalog_kinds {H : Type} : DataW H := .agg [.agg [.lit (.string [98, 111, 111, 108]), .lit (.int .i64 1)], .agg [.lit (.string [105, 110, 116]), .lit (.int .i64 2)], .agg [.lit (.string [116, 101, 120, 116]), .lit (.int .i64 3)]]
/-- One of Go's own tables, pinned by name: the form's constant. -/
def laid_unicode_CaseRanges : DataW Unit := Go.Pinned.caseRanges
/-- One of Go's own tables, pinned by name: the form's constant. -/
def laid_unicode_utf8_first : DataW Unit := Go.Pinned.utf8First
def laid_bowsprit_value_truths {H : Type} : DataW H := .agg [.agg [.lit (.int .i64 1), .lit (.int .i64 0), .lit (.int .u64 0), .lit (.string [])], .agg [.lit (.int .i64 0), .lit (.int .i64 0), .lit (.int .u64 0), .lit (.string [])], .agg [.lit (.int .i64 1), .lit (.int .i64 1), .lit (.int .u64 0), .lit (.string [])]]

/-- 'bowspritlaw18.PropAlone': WHATEVER THE INPUT: true; the input reads as it did. -/
def propAloneSpec : ChangeSpec := { name := "propAlone", fn := fun _ => fun
  | [d1, d2] => { results := [.lit (.bool true)], args := [d1, d2] }
  | _ => none }
def propAloneRow : OpenClaim := { program := "ytmogpgcfognefaagreatdoor", sum := "a038c7d9206ac8f290222cfcc989c1b9017b8ba54274d6b4db578f9ec6ee39a8", func := "bowsprit/bowspritlaw18.PropAlone", spec := "propAlone", inPlace := ["internal/abi.NoEscape", "internal/bytealg.MakeNoZero"], unfollowed := true, recurses := true, named := ["unicode/utf8.first", "unicode/utf8.acceptRanges", "unicode.CaseRanges", "bowsprit/lex.words", "bowsprit/catalog.kinds"], plainKeys := false, apart := false, laid := [("unicode/utf8.acceptRanges", laid_unicode_utf8_acceptRanges), ("bowsprit/lex.words", laid_bowsprit_lex_words), ("bowsprit/catalog.kinds", laid_bowsprit_catalog_kinds), ("unicode.CaseRanges", laid_unicode_CaseRanges), ("unicode/utf8.first", laid_unicode_utf8_first)] }
def PropAloneSaid : Prop := propAloneRow.holds Tryz.pinned (OpenSpec.ofChange propAloneSpec)

/-- ITS FALSE NEIGHBOUR: 'it returns false'. Refute it at one input. -/
def propAloneWrong : ChangeSpec := { name := "propAlone", fn := fun _ => fun
  | [d1, d2] => { results := [.lit (.bool false)], args := [d1, d2] }
  | _ => none }
def PropAloneWrongFalsely : Prop := propAloneRow.holds Tryz.pinned (OpenSpec.ofChange propAloneWrong)

/-- 'bowspritlaw18.PropReads': WHATEVER THE INPUT: true; the input reads as it did. -/
def propReadsSpec : ChangeSpec := { name := "propReads", fn := fun _ => fun
  | [d1, d2] => { results := [.lit (.bool true)], args := [d1, d2] }
  | _ => none }
def propReadsRow : OpenClaim := { program := "ytmogpgcfognefaagreatdoor", sum := "a038c7d9206ac8f290222cfcc989c1b9017b8ba54274d6b4db578f9ec6ee39a8", func := "bowsprit/bowspritlaw18.PropReads", spec := "propReads", inPlace := ["internal/abi.NoEscape", "internal/bytealg.MakeNoZero"], unfollowed := true, recurses := true, named := ["unicode/utf8.first", "unicode/utf8.acceptRanges", "unicode.CaseRanges", "bowsprit/lex.words", "bowsprit/catalog.kinds"], plainKeys := false, apart := false, laid := [("unicode/utf8.acceptRanges", laid_unicode_utf8_acceptRanges), ("bowsprit/lex.words", laid_bowsprit_lex_words), ("bowsprit/catalog.kinds", laid_bowsprit_catalog_kinds), ("unicode.CaseRanges", laid_unicode_CaseRanges), ("unicode/utf8.first", laid_unicode_utf8_first)] }
def PropReadsSaid : Prop := propReadsRow.holds Tryz.pinned (OpenSpec.ofChange propReadsSpec)

/-- ITS FALSE NEIGHBOUR: 'it returns false'. Refute it at one input. -/
def propReadsWrong : ChangeSpec := { name := "propReads", fn := fun _ => fun
  | [d1, d2] => { results := [.lit (.bool false)], args := [d1, d2] }
  | _ => none }
def PropReadsWrongFalsely : Prop := propReadsRow.holds Tryz.pinned (OpenSpec.ofChange propReadsWrong)

/-- 'bowspritlaw18.PropTells': WHATEVER THE INPUT: true; the input reads as it did. -/
def propTellsSpec : ChangeSpec := { name := "propTells", fn := fun _ => fun
  | [d1, d2, d3] => { results := [.lit (.bool true)], args := [d1, d2, d3] }
  | _ => none }
def propTellsRow : OpenClaim := { program := "ytmogpgcfognefaagreatdoor", sum := "a038c7d9206ac8f290222cfcc989c1b9017b8ba54274d6b4db578f9ec6ee39a8", func := "bowsprit/bowspritlaw18.PropTells", spec := "propTells", inPlace := ["internal/abi.NoEscape", "internal/bytealg.MakeNoZero"], unfollowed := true, recurses := true, named := ["unicode/utf8.first", "unicode/utf8.acceptRanges", "unicode.CaseRanges", "bowsprit/lex.words", "bowsprit/catalog.kinds"], plainKeys := false, apart := false, laid := [("unicode/utf8.acceptRanges", laid_unicode_utf8_acceptRanges), ("bowsprit/lex.words", laid_bowsprit_lex_words), ("bowsprit/catalog.kinds", laid_bowsprit_catalog_kinds), ("unicode.CaseRanges", laid_unicode_CaseRanges), ("unicode/utf8.first", laid_unicode_utf8_first)] }
def PropTellsSaid : Prop := propTellsRow.holds Tryz.pinned (OpenSpec.ofChange propTellsSpec)

/-- ITS FALSE NEIGHBOUR: 'it returns false'. Refute it at one input. -/
def propTellsWrong : ChangeSpec := { name := "propTells", fn := fun _ => fun
  | [d1, d2, d3] => { results := [.lit (.bool false)], args := [d1, d2, d3] }
  | _ => none }
def PropTellsWrongFalsely : Prop := propTellsRow.holds Tryz.pinned (OpenSpec.ofChange propTellsWrong)

/-- 'bowspritlaw18.PropScans': WHATEVER THE INPUT: true; the input reads as it did. -/
def propScansSpec : ChangeSpec := { name := "propScans", fn := fun _ => fun
  | [d1, d2, d3] => { results := [.lit (.bool true)], args := [d1, d2, d3] }
  | _ => none }
def propScansRow : OpenClaim := { program := "ytmogpgcfognefaagreatdoor", sum := "a038c7d9206ac8f290222cfcc989c1b9017b8ba54274d6b4db578f9ec6ee39a8", func := "bowsprit/bowspritlaw18.PropScans", spec := "propScans", inPlace := ["internal/abi.NoEscape", "internal/bytealg.MakeNoZero"], unfollowed := true, recurses := true, named := ["unicode/utf8.first", "unicode/utf8.acceptRanges", "unicode.CaseRanges", "bowsprit/lex.words", "bowsprit/catalog.kinds"], plainKeys := false, apart := false, laid := [("unicode/utf8.acceptRanges", laid_unicode_utf8_acceptRanges), ("bowsprit/lex.words", laid_bowsprit_lex_words), ("bowsprit/catalog.kinds", laid_bowsprit_catalog_kinds), ("unicode.CaseRanges", laid_unicode_CaseRanges), ("unicode/utf8.first", laid_unicode_utf8_first)] }
def PropScansSaid : Prop := propScansRow.holds Tryz.pinned (OpenSpec.ofChange propScansSpec)

/-- ITS FALSE NEIGHBOUR: 'it returns false'. Refute it at one input. -/
def propScansWrong : ChangeSpec := { name := "propScans", fn := fun _ => fun
  | [d1, d2, d3] => { results := [.lit (.bool false)], args := [d1, d2, d3] }
  | _ => none }
def PropScansWrongFalsely : Prop := propScansRow.holds Tryz.pinned (OpenSpec.ofChange propScansWrong)

/-- 'bowspritlaw18.PropProjects': WHATEVER THE INPUT: true; the input reads as it did. -/
def propProjectsSpec : ChangeSpec := { name := "propProjects", fn := fun _ => fun
  | [d1, d2, d3] => { results := [.lit (.bool true)], args := [d1, d2, d3] }
  | _ => none }
def propProjectsRow : OpenClaim := { program := "ytmogpgcfognefaagreatdoor", sum := "a038c7d9206ac8f290222cfcc989c1b9017b8ba54274d6b4db578f9ec6ee39a8", func := "bowsprit/bowspritlaw18.PropProjects", spec := "propProjects", inPlace := ["internal/abi.NoEscape", "internal/bytealg.MakeNoZero", "internal/bytealg.abigen_runtime_cmpstring"], unfollowed := true, recurses := true, named := ["unicode/utf8.first", "unicode/utf8.acceptRanges", "unicode.CaseRanges", "bowsprit/lex.words", "bowsprit/catalog.kinds", "bowsprit/value.truths"], plainKeys := false, apart := false, laid := [("unicode/utf8.acceptRanges", laid_unicode_utf8_acceptRanges), ("bowsprit/lex.words", laid_bowsprit_lex_words), ("bowsprit/catalog.kinds", laid_bowsprit_catalog_kinds), ("bowsprit/value.truths", laid_bowsprit_value_truths), ("unicode.CaseRanges", laid_unicode_CaseRanges), ("unicode/utf8.first", laid_unicode_utf8_first)] }
def PropProjectsSaid : Prop := propProjectsRow.holds Tryz.pinned (OpenSpec.ofChange propProjectsSpec)

/-- ITS FALSE NEIGHBOUR: 'it returns false'. Refute it at one input. -/
def propProjectsWrong : ChangeSpec := { name := "propProjects", fn := fun _ => fun
  | [d1, d2, d3] => { results := [.lit (.bool false)], args := [d1, d2, d3] }
  | _ => none }
def PropProjectsWrongFalsely : Prop := propProjectsRow.holds Tryz.pinned (OpenSpec.ofChange propProjectsWrong)

/- THE SECOND FORM. 'bulk': how many values and letters a reading holds, each counted each time it is reached (what is shared counts as often as it is met; a slice's spare places count too). A statement '..UptoSaid' is the law's where the arguments, and the package variables that the reading takes, are together of bulk at most 1048576: NARROWER than '..Said'. Prove '..Said' where nothing that the law and all that it calls make is longer than what came in: it says more and counts as full. Else prove '..UptoSaid'. A law counts once. -/
mutual
def uptoBulk {H : Type} : DataW H → Nat
  | .lit (.string bytes) => bytes.length + 1
  | .lit _ => 1
  | .nil => 1
  | .ptr d => uptoBulk d + 1
  | .slice elems spare => uptoBulkAll elems + uptoBulkAll spare + 1
  | .agg parts => uptoBulkAll parts + 1
  | .iface _ d => uptoBulk d + 1
  | .map entries => uptoBulkEntries entries + 1
  | .held _ => 1
def uptoBulkAll {H : Type} : List (DataW H) → Nat
  | [] => 0
  | d :: r => uptoBulk d + uptoBulkAll r
def uptoBulkEntries {H : Type} : List (Lit × DataW H) → Nat
  | [] => 0
  | x :: r => uptoBulkEntry x + uptoBulkEntries r
def uptoBulkEntry {H : Type} : Lit × DataW H → Nat
  | (.string bytes, d) => bytes.length + uptoBulk d + 1
  | (_, d) => uptoBulk d + 1
 end
def uptoSmall : (H : Type) → List (DataW H) → Bool := fun _ ds => decide (uptoBulkAll ds ≤ 1048576)
def OpenSpec.upto (s : _root_.Go.ChangeSpec) : _root_.Go.OpenSpec := { _root_.Go.OpenSpec.ofChange s with cond := some uptoSmall }

/-- 'bowspritlaw18.PropAlone', WHERE WHAT IT READS IS OF BULK AT MOST 1048576: true; the input reads as it did. -/
def propAloneUptoRow : OpenClaim := { program := "ytmogpgcfognefaagreatdoor", sum := "a038c7d9206ac8f290222cfcc989c1b9017b8ba54274d6b4db578f9ec6ee39a8", func := "bowsprit/bowspritlaw18.PropAlone", spec := "propAlone", inPlace := ["internal/abi.NoEscape", "internal/bytealg.MakeNoZero"], unfollowed := true, recurses := true, named := ["unicode/utf8.first", "unicode/utf8.acceptRanges", "unicode.CaseRanges", "bowsprit/lex.words", "bowsprit/catalog.kinds"], plainKeys := false, apart := false, laid := [("unicode/utf8.acceptRanges", laid_unicode_utf8_acceptRanges), ("bowsprit/lex.words", laid_bowsprit_lex_words), ("bowsprit/catalog.kinds", laid_bowsprit_catalog_kinds), ("unicode.CaseRanges", laid_unicode_CaseRanges), ("unicode/utf8.first", laid_unicode_utf8_first)], narrowed := true }
def PropAloneUptoSaid : Prop := propAloneUptoRow.holds Tryz.pinned (OpenSpec.upto propAloneSpec)

/-- 'bowspritlaw18.PropReads', WHERE WHAT IT READS IS OF BULK AT MOST 1048576: true; the input reads as it did. -/
def propReadsUptoRow : OpenClaim := { program := "ytmogpgcfognefaagreatdoor", sum := "a038c7d9206ac8f290222cfcc989c1b9017b8ba54274d6b4db578f9ec6ee39a8", func := "bowsprit/bowspritlaw18.PropReads", spec := "propReads", inPlace := ["internal/abi.NoEscape", "internal/bytealg.MakeNoZero"], unfollowed := true, recurses := true, named := ["unicode/utf8.first", "unicode/utf8.acceptRanges", "unicode.CaseRanges", "bowsprit/lex.words", "bowsprit/catalog.kinds"], plainKeys := false, apart := false, laid := [("unicode/utf8.acceptRanges", laid_unicode_utf8_acceptRanges), ("bowsprit/lex.words", laid_bowsprit_lex_words), ("bowsprit/catalog.kinds", laid_bowsprit_catalog_kinds), ("unicode.CaseRanges", laid_unicode_CaseRanges), ("unicode/utf8.first", laid_unicode_utf8_first)], narrowed := true }
def PropReadsUptoSaid : Prop := propReadsUptoRow.holds Tryz.pinned (OpenSpec.upto propReadsSpec)

/-- 'bowspritlaw18.PropTells', WHERE WHAT IT READS IS OF BULK AT MOST 1048576: true; the input reads as it did. -/
def propTellsUptoRow : OpenClaim := { program := "ytmogpgcfognefaagreatdoor", sum := "a038c7d9206ac8f290222cfcc989c1b9017b8ba54274d6b4db578f9ec6ee39a8", func := "bowsprit/bowspritlaw18.PropTells", spec := "propTells", inPlace := ["internal/abi.NoEscape", "internal/bytealg.MakeNoZero"], unfollowed := true, recurses := true, named := ["unicode/utf8.first", "unicode/utf8.acceptRanges", "unicode.CaseRanges", "bowsprit/lex.words", "bowsprit/catalog.kinds"], plainKeys := false, apart := false, laid := [("unicode/utf8.acceptRanges", laid_unicode_utf8_acceptRanges), ("bowsprit/lex.words", laid_bowsprit_lex_words), ("bowsprit/catalog.kinds", laid_bowsprit_catalog_kinds), ("unicode.CaseRanges", laid_unicode_CaseRanges), ("unicode/utf8.first", laid_unicode_utf8_first)], narrowed := true }
def PropTellsUptoSaid : Prop := propTellsUptoRow.holds Tryz.pinned (OpenSpec.upto propTellsSpec)

/-- 'bowspritlaw18.PropScans', WHERE WHAT IT READS IS OF BULK AT MOST 1048576: true; the input reads as it did. -/
def propScansUptoRow : OpenClaim := { program := "ytmogpgcfognefaagreatdoor", sum := "a038c7d9206ac8f290222cfcc989c1b9017b8ba54274d6b4db578f9ec6ee39a8", func := "bowsprit/bowspritlaw18.PropScans", spec := "propScans", inPlace := ["internal/abi.NoEscape", "internal/bytealg.MakeNoZero"], unfollowed := true, recurses := true, named := ["unicode/utf8.first", "unicode/utf8.acceptRanges", "unicode.CaseRanges", "bowsprit/lex.words", "bowsprit/catalog.kinds"], plainKeys := false, apart := false, laid := [("unicode/utf8.acceptRanges", laid_unicode_utf8_acceptRanges), ("bowsprit/lex.words", laid_bowsprit_lex_words), ("bowsprit/catalog.kinds", laid_bowsprit_catalog_kinds), ("unicode.CaseRanges", laid_unicode_CaseRanges), ("unicode/utf8.first", laid_unicode_utf8_first)], narrowed := true }
def PropScansUptoSaid : Prop := propScansUptoRow.holds Tryz.pinned (OpenSpec.upto propScansSpec)

/-- 'bowspritlaw18.PropProjects', WHERE WHAT IT READS IS OF BULK AT MOST 1048576: true; the input reads as it did. -/
def propProjectsUptoRow : OpenClaim := { program := "ytmogpgcfognefaagreatdoor", sum := "a038c7d9206ac8f290222cfcc989c1b9017b8ba54274d6b4db578f9ec6ee39a8", func := "bowsprit/bowspritlaw18.PropProjects", spec := "propProjects", inPlace := ["internal/abi.NoEscape", "internal/bytealg.MakeNoZero", "internal/bytealg.abigen_runtime_cmpstring"], unfollowed := true, recurses := true, named := ["unicode/utf8.first", "unicode/utf8.acceptRanges", "unicode.CaseRanges", "bowsprit/lex.words", "bowsprit/catalog.kinds", "bowsprit/value.truths"], plainKeys := false, apart := false, laid := [("unicode/utf8.acceptRanges", laid_unicode_utf8_acceptRanges), ("bowsprit/lex.words", laid_bowsprit_lex_words), ("bowsprit/catalog.kinds", laid_bowsprit_catalog_kinds), ("bowsprit/value.truths", laid_bowsprit_value_truths), ("unicode.CaseRanges", laid_unicode_CaseRanges), ("unicode/utf8.first", laid_unicode_utf8_first)], narrowed := true }
def PropProjectsUptoSaid : Prop := propProjectsUptoRow.holds Tryz.pinned (OpenSpec.upto propProjectsSpec)

end Rows
end Go.Proofs.YtmogpgcfognefaaGreatDoor
