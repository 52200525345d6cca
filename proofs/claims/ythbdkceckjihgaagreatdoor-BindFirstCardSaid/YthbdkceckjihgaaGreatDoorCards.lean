/-
  DERIVED. GIVEN WITH THE SEED: THE CARDS: each row of YthbdkceckjihgaaGreatDoorRows.lean that lists a variable, with what it lists TIED to the program's text (the seventh form; the later family's looks); each row that meets fmt, with fmt's text TOLD by the authors' own Lean function (tested against real Go, not proved from fmt's source: count such statements apart). THE CARD IS WHAT COUNTS. Prove the row's statement (the work); the ties are given (YthbdkceckjihgaaGreatDoorTie.lean); close each card by the builder's one call (the guide's Derived/Test/ToyasCard.lean, 'card_holds'). Laid BY PROGRAM, IN A SANDBOX (cutbox-door.mjs). By AI agents, Wed Nov 11 2026. No macro, syntax, notation, axiom, sorry.
-/
import Derived.Test.YthbdkceckjihgaaGreatDoorRows
import GoSem.ClaimSeven
namespace Go.Proofs.YthbdkceckjihgaaGreatDoor
namespace Rows

/-- THE TIED CARD OF 'bowspritlaw12.BindDoes'. -/
def bindDoesCard : Claim7 := { stood := { row := bindDoesRow, standIns := [], harness := (true, "994ba46e7a82f8141f915d9f3da3b6056a2eae399341bbf3229131cb61b0b052"), looks := false }, kinds := [], alts := [], laidByText := true, laidKinds := [.data, .widerDeep, .data, .pinned, .pinned], laidTests := true, laidLooks := .later }
def BindDoesCardSaid : Prop := Claim7.holds Tryz.pinned (.plain (OpenSpec.ofChange bindDoesSpec)) bindDoesCard

/-- THE TIED CARD OF 'bowspritlaw12.BindFirst'. -/
def bindFirstCard : Claim7 := { stood := { row := bindFirstRow, standIns := [], harness := (true, "994ba46e7a82f8141f915d9f3da3b6056a2eae399341bbf3229131cb61b0b052"), looks := false }, kinds := [], alts := [], laidByText := true, laidKinds := [.data, .widerDeep, .data, .pinned, .pinned], laidTests := true, laidLooks := .later }
def BindFirstCardSaid : Prop := Claim7.holds Tryz.pinned (.plain (OpenSpec.ofChange bindFirstSpec)) bindFirstCard

/-- THE TIED CARD OF 'bowspritlaw12.BindKinds'. -/
def bindKindsCard : Claim7 := { stood := { row := bindKindsRow, standIns := [], harness := (true, "994ba46e7a82f8141f915d9f3da3b6056a2eae399341bbf3229131cb61b0b052"), looks := false }, kinds := [], alts := [], laidByText := true, laidKinds := [.data, .widerDeep, .data, .pinned, .pinned], laidTests := true, laidLooks := .later }
def BindKindsCardSaid : Prop := Claim7.holds Tryz.pinned (.plain (OpenSpec.ofChange bindKindsSpec)) bindKindsCard

/-- THE TIED CARD OF 'bowspritlaw12.BindSame'. -/
def bindSameCard : Claim7 := { stood := { row := bindSameRow, standIns := [], harness := (true, "994ba46e7a82f8141f915d9f3da3b6056a2eae399341bbf3229131cb61b0b052"), looks := false }, kinds := [], alts := [], laidByText := true, laidKinds := [.data, .widerDeep, .data, .pinned, .pinned], laidTests := true, laidLooks := .later }
def BindSameCardSaid : Prop := Claim7.holds Tryz.pinned (.plain (OpenSpec.ofChange bindSameSpec)) bindSameCard

/-- THE TIED CARD OF 'bowspritlaw12.BindCalled'. -/
def bindCalledCard : Claim7 := { stood := { row := bindCalledRow, standIns := [], harness := (true, "994ba46e7a82f8141f915d9f3da3b6056a2eae399341bbf3229131cb61b0b052"), looks := false }, kinds := [], alts := [], laidByText := true, laidKinds := [.data, .widerDeep, .data, .pinned, .pinned], laidTests := true, laidLooks := .later }
def BindCalledCardSaid : Prop := Claim7.holds Tryz.pinned (.plain (OpenSpec.ofChange bindCalledSpec)) bindCalledCard

/-- THE TIED CARD OF 'bowspritlaw12.BindTells'. -/
def bindTellsCard : Claim7 := { stood := { row := bindTellsRow, standIns := [], harness := (true, "994ba46e7a82f8141f915d9f3da3b6056a2eae399341bbf3229131cb61b0b052"), looks := false }, kinds := [], alts := [], laidByText := true, laidKinds := [.data, .widerDeep, .data, .pinned, .pinned], laidTests := true, laidLooks := .later }
def BindTellsCardSaid : Prop := Claim7.holds Tryz.pinned (.plain (OpenSpec.ofChange bindTellsSpec)) bindTellsCard

/-- THE SECOND FORM's CARD OF 'bowspritlaw12.BindDoes'. -/
def bindDoesUptoCard : Claim7 := { stood := { row := bindDoesUptoRow, standIns := [], harness := (true, "994ba46e7a82f8141f915d9f3da3b6056a2eae399341bbf3229131cb61b0b052"), looks := false }, kinds := [], alts := [], laidByText := true, laidKinds := [.data, .widerDeep, .data, .pinned, .pinned], laidTests := true, laidLooks := .later }
def BindDoesUptoCardSaid : Prop := Claim7.holds Tryz.pinned (.plain (OpenSpec.upto bindDoesSpec)) bindDoesUptoCard

/-- THE SECOND FORM's CARD OF 'bowspritlaw12.BindFirst'. -/
def bindFirstUptoCard : Claim7 := { stood := { row := bindFirstUptoRow, standIns := [], harness := (true, "994ba46e7a82f8141f915d9f3da3b6056a2eae399341bbf3229131cb61b0b052"), looks := false }, kinds := [], alts := [], laidByText := true, laidKinds := [.data, .widerDeep, .data, .pinned, .pinned], laidTests := true, laidLooks := .later }
def BindFirstUptoCardSaid : Prop := Claim7.holds Tryz.pinned (.plain (OpenSpec.upto bindFirstSpec)) bindFirstUptoCard

/-- THE SECOND FORM's CARD OF 'bowspritlaw12.BindKinds'. -/
def bindKindsUptoCard : Claim7 := { stood := { row := bindKindsUptoRow, standIns := [], harness := (true, "994ba46e7a82f8141f915d9f3da3b6056a2eae399341bbf3229131cb61b0b052"), looks := false }, kinds := [], alts := [], laidByText := true, laidKinds := [.data, .widerDeep, .data, .pinned, .pinned], laidTests := true, laidLooks := .later }
def BindKindsUptoCardSaid : Prop := Claim7.holds Tryz.pinned (.plain (OpenSpec.upto bindKindsSpec)) bindKindsUptoCard

/-- THE SECOND FORM's CARD OF 'bowspritlaw12.BindSame'. -/
def bindSameUptoCard : Claim7 := { stood := { row := bindSameUptoRow, standIns := [], harness := (true, "994ba46e7a82f8141f915d9f3da3b6056a2eae399341bbf3229131cb61b0b052"), looks := false }, kinds := [], alts := [], laidByText := true, laidKinds := [.data, .widerDeep, .data, .pinned, .pinned], laidTests := true, laidLooks := .later }
def BindSameUptoCardSaid : Prop := Claim7.holds Tryz.pinned (.plain (OpenSpec.upto bindSameSpec)) bindSameUptoCard

/-- THE SECOND FORM's CARD OF 'bowspritlaw12.BindCalled'. -/
def bindCalledUptoCard : Claim7 := { stood := { row := bindCalledUptoRow, standIns := [], harness := (true, "994ba46e7a82f8141f915d9f3da3b6056a2eae399341bbf3229131cb61b0b052"), looks := false }, kinds := [], alts := [], laidByText := true, laidKinds := [.data, .widerDeep, .data, .pinned, .pinned], laidTests := true, laidLooks := .later }
def BindCalledUptoCardSaid : Prop := Claim7.holds Tryz.pinned (.plain (OpenSpec.upto bindCalledSpec)) bindCalledUptoCard

/-- THE SECOND FORM's CARD OF 'bowspritlaw12.BindTells'. -/
def bindTellsUptoCard : Claim7 := { stood := { row := bindTellsUptoRow, standIns := [], harness := (true, "994ba46e7a82f8141f915d9f3da3b6056a2eae399341bbf3229131cb61b0b052"), looks := false }, kinds := [], alts := [], laidByText := true, laidKinds := [.data, .widerDeep, .data, .pinned, .pinned], laidTests := true, laidLooks := .later }
def BindTellsUptoCardSaid : Prop := Claim7.holds Tryz.pinned (.plain (OpenSpec.upto bindTellsSpec)) bindTellsUptoCard
end Rows
end Go.Proofs.YthbdkceckjihgaaGreatDoor
