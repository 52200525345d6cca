/-
  DERIVED. GIVEN WITH THE SEED: THE CARDS: each row of YtmogpgcfognefaaGreatDoorRows.lean that lists a variable, with what it lists TIED to the program's text (the seventh form; the later family's looks); each row that meets fmt, with fmt's text TOLD by the authors' own Lean function (tested against real Go, not proved from fmt's source: count such statements apart). THE CARD IS WHAT COUNTS. Prove the row's statement (the work); the ties are given (YtmogpgcfognefaaGreatDoorTie.lean); close each card by the builder's one call (the guide's Derived/Test/ToyasCard.lean, 'card_holds'). Laid BY PROGRAM, IN A SANDBOX (cutbox-door.mjs). By AI agents, Wed Nov 11 2026. No macro, syntax, notation, axiom, sorry.
-/
import Derived.Test.YtmogpgcfognefaaGreatDoorRows
import GoSem.ClaimSeven
namespace Go.Proofs.YtmogpgcfognefaaGreatDoor
namespace Rows

/-- THE TIED CARD OF 'bowspritlaw18.PropAlone'. -/
def propAloneCard : Claim7 := { stood := { row := propAloneRow, standIns := [], harness := (true, "bb13d3eb1f937d7c1d6c9112fc0e8d4933c1a8b2b26744fdabef76fe234983bc"), looks := false }, kinds := [], alts := [], laidByText := true, laidKinds := [.data, .widerDeep, .data, .pinned, .pinned], laidTests := true, laidLooks := .later }
def PropAloneCardSaid : Prop := Claim7.holds Tryz.pinned (.plain (OpenSpec.ofChange propAloneSpec)) propAloneCard

/-- THE TIED CARD OF 'bowspritlaw18.PropReads'. -/
def propReadsCard : Claim7 := { stood := { row := propReadsRow, standIns := [], harness := (true, "bb13d3eb1f937d7c1d6c9112fc0e8d4933c1a8b2b26744fdabef76fe234983bc"), looks := false }, kinds := [], alts := [], laidByText := true, laidKinds := [.data, .widerDeep, .data, .pinned, .pinned], laidTests := true, laidLooks := .later }
def PropReadsCardSaid : Prop := Claim7.holds Tryz.pinned (.plain (OpenSpec.ofChange propReadsSpec)) propReadsCard

/-- THE TIED CARD OF 'bowspritlaw18.PropTells'. -/
def propTellsCard : Claim7 := { stood := { row := propTellsRow, standIns := [], harness := (true, "bb13d3eb1f937d7c1d6c9112fc0e8d4933c1a8b2b26744fdabef76fe234983bc"), looks := false }, kinds := [], alts := [], laidByText := true, laidKinds := [.data, .widerDeep, .data, .pinned, .pinned], laidTests := true, laidLooks := .later }
def PropTellsCardSaid : Prop := Claim7.holds Tryz.pinned (.plain (OpenSpec.ofChange propTellsSpec)) propTellsCard

/-- THE TIED CARD OF 'bowspritlaw18.PropScans'. -/
def propScansCard : Claim7 := { stood := { row := propScansRow, standIns := [], harness := (true, "bb13d3eb1f937d7c1d6c9112fc0e8d4933c1a8b2b26744fdabef76fe234983bc"), looks := false }, kinds := [], alts := [], laidByText := true, laidKinds := [.data, .widerDeep, .data, .pinned, .pinned], laidTests := true, laidLooks := .later }
def PropScansCardSaid : Prop := Claim7.holds Tryz.pinned (.plain (OpenSpec.ofChange propScansSpec)) propScansCard

/-- THE TIED CARD OF 'bowspritlaw18.PropProjects'. -/
def propProjectsCard : Claim7 := { stood := { row := propProjectsRow, standIns := [], harness := (true, "bb13d3eb1f937d7c1d6c9112fc0e8d4933c1a8b2b26744fdabef76fe234983bc"), looks := false }, kinds := [], alts := [], laidByText := true, laidKinds := [.data, .widerDeep, .data, .data, .pinned, .pinned], laidTests := true, laidLooks := .later }
def PropProjectsCardSaid : Prop := Claim7.holds Tryz.pinned (.plain (OpenSpec.ofChange propProjectsSpec)) propProjectsCard

/-- THE SECOND FORM's CARD OF 'bowspritlaw18.PropAlone'. -/
def propAloneUptoCard : Claim7 := { stood := { row := propAloneUptoRow, standIns := [], harness := (true, "bb13d3eb1f937d7c1d6c9112fc0e8d4933c1a8b2b26744fdabef76fe234983bc"), looks := false }, kinds := [], alts := [], laidByText := true, laidKinds := [.data, .widerDeep, .data, .pinned, .pinned], laidTests := true, laidLooks := .later }
def PropAloneUptoCardSaid : Prop := Claim7.holds Tryz.pinned (.plain (OpenSpec.upto propAloneSpec)) propAloneUptoCard

/-- THE SECOND FORM's CARD OF 'bowspritlaw18.PropReads'. -/
def propReadsUptoCard : Claim7 := { stood := { row := propReadsUptoRow, standIns := [], harness := (true, "bb13d3eb1f937d7c1d6c9112fc0e8d4933c1a8b2b26744fdabef76fe234983bc"), looks := false }, kinds := [], alts := [], laidByText := true, laidKinds := [.data, .widerDeep, .data, .pinned, .pinned], laidTests := true, laidLooks := .later }
def PropReadsUptoCardSaid : Prop := Claim7.holds Tryz.pinned (.plain (OpenSpec.upto propReadsSpec)) propReadsUptoCard

/-- THE SECOND FORM's CARD OF 'bowspritlaw18.PropTells'. -/
def propTellsUptoCard : Claim7 := { stood := { row := propTellsUptoRow, standIns := [], harness := (true, "bb13d3eb1f937d7c1d6c9112fc0e8d4933c1a8b2b26744fdabef76fe234983bc"), looks := false }, kinds := [], alts := [], laidByText := true, laidKinds := [.data, .widerDeep, .data, .pinned, .pinned], laidTests := true, laidLooks := .later }
def PropTellsUptoCardSaid : Prop := Claim7.holds Tryz.pinned (.plain (OpenSpec.upto propTellsSpec)) propTellsUptoCard

/-- THE SECOND FORM's CARD OF 'bowspritlaw18.PropScans'. -/
def propScansUptoCard : Claim7 := { stood := { row := propScansUptoRow, standIns := [], harness := (true, "bb13d3eb1f937d7c1d6c9112fc0e8d4933c1a8b2b26744fdabef76fe234983bc"), looks := false }, kinds := [], alts := [], laidByText := true, laidKinds := [.data, .widerDeep, .data, .pinned, .pinned], laidTests := true, laidLooks := .later }
def PropScansUptoCardSaid : Prop := Claim7.holds Tryz.pinned (.plain (OpenSpec.upto propScansSpec)) propScansUptoCard

/-- THE SECOND FORM's CARD OF 'bowspritlaw18.PropProjects'. -/
def propProjectsUptoCard : Claim7 := { stood := { row := propProjectsUptoRow, standIns := [], harness := (true, "bb13d3eb1f937d7c1d6c9112fc0e8d4933c1a8b2b26744fdabef76fe234983bc"), looks := false }, kinds := [], alts := [], laidByText := true, laidKinds := [.data, .widerDeep, .data, .data, .pinned, .pinned], laidTests := true, laidLooks := .later }
def PropProjectsUptoCardSaid : Prop := Claim7.holds Tryz.pinned (.plain (OpenSpec.upto propProjectsSpec)) propProjectsUptoCard
end Rows
end Go.Proofs.YtmogpgcfognefaaGreatDoor
