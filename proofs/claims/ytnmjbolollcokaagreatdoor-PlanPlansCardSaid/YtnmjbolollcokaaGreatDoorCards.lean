/-
  DERIVED. GIVEN WITH THE SEED: THE CARDS: each row of YtnmjbolollcokaaGreatDoorRows.lean that lists a variable, with what it lists TIED to the program's text (the seventh form; the later family's looks); each row that meets fmt, with fmt's text TOLD by the authors' own Lean function (tested against real Go, not proved from fmt's source: count such statements apart). THE CARD IS WHAT COUNTS. Prove the row's statement (the work); the ties are given (YtnmjbolollcokaaGreatDoorTie.lean); close each card by the builder's one call (the guide's Derived/Test/ToyasCard.lean, 'card_holds'). Laid BY PROGRAM, IN A SANDBOX (cutbox-door.mjs). By AI agents, Wed Nov 11 2026. No macro, syntax, notation, axiom, sorry.
-/
import Derived.Test.YtnmjbolollcokaaGreatDoorRows
import GoSem.ClaimSeven
namespace Go.Proofs.YtnmjbolollcokaaGreatDoor
namespace Rows

/-- THE TIED CARD OF 'bowspritlaw19.PlanPlans'. -/
def planPlansCard : Claim7 := { stood := { row := planPlansRow, standIns := [], harness := (true, "2279216227f6392ae59b4ac39390836c23730c69cea3a1571a4ea39c3eac179e"), looks := false }, kinds := [], alts := [], laidByText := true, laidKinds := [.data, .widerDeep, .data, .pinned, .pinned], laidTests := true, laidLooks := .later }
def PlanPlansCardSaid : Prop := Claim7.holds Tryz.pinned (.plain (OpenSpec.ofChange planPlansSpec)) planPlansCard

/-- THE TIED CARD OF 'bowspritlaw19.PlanReaders'. -/
def planReadersCard : Claim7 := { stood := { row := planReadersRow, standIns := [], harness := (true, "2279216227f6392ae59b4ac39390836c23730c69cea3a1571a4ea39c3eac179e"), looks := false }, kinds := [], alts := [], laidByText := true, laidKinds := [.data, .widerDeep, .data, .pinned, .pinned], laidTests := true, laidLooks := .later }
def PlanReadersCardSaid : Prop := Claim7.holds Tryz.pinned (.plain (OpenSpec.ofChange planReadersSpec)) planReadersCard

/-- THE TIED CARD OF 'bowspritlaw19.PlanStreams'. -/
def planStreamsCard : Claim7 := { stood := { row := planStreamsRow, standIns := [], harness := (true, "2279216227f6392ae59b4ac39390836c23730c69cea3a1571a4ea39c3eac179e"), looks := false }, kinds := [], alts := [], laidByText := true, laidKinds := [.data, .widerDeep, .data, .pinned, .pinned], laidTests := true, laidLooks := .later }
def PlanStreamsCardSaid : Prop := Claim7.holds Tryz.pinned (.plain (OpenSpec.ofChange planStreamsSpec)) planStreamsCard

/-- THE TIED CARD OF 'bowspritlaw19.PlanTells'. -/
def planTellsCard : Claim7 := { stood := { row := planTellsRow, standIns := [], harness := (true, "2279216227f6392ae59b4ac39390836c23730c69cea3a1571a4ea39c3eac179e"), looks := false }, kinds := [], alts := [], laidByText := true, laidKinds := [.data, .widerDeep, .data, .pinned, .pinned], laidTests := true, laidLooks := .later }
def PlanTellsCardSaid : Prop := Claim7.holds Tryz.pinned (.plain (OpenSpec.ofChange planTellsSpec)) planTellsCard

/-- THE TIED CARD OF 'bowspritlaw19.PlanSound'. -/
def planSoundCard : Claim7 := { stood := { row := planSoundRow, standIns := [], harness := (true, "2279216227f6392ae59b4ac39390836c23730c69cea3a1571a4ea39c3eac179e"), looks := false }, kinds := [], alts := [], laidByText := true, laidKinds := [.data, .widerDeep, .data, .pinned, .pinned], laidTests := true, laidLooks := .later }
def PlanSoundCardSaid : Prop := Claim7.holds Tryz.pinned (.plain (OpenSpec.ofChange planSoundSpec)) planSoundCard

/-- THE SECOND FORM's CARD OF 'bowspritlaw19.PlanPlans'. -/
def planPlansUptoCard : Claim7 := { stood := { row := planPlansUptoRow, standIns := [], harness := (true, "2279216227f6392ae59b4ac39390836c23730c69cea3a1571a4ea39c3eac179e"), looks := false }, kinds := [], alts := [], laidByText := true, laidKinds := [.data, .widerDeep, .data, .pinned, .pinned], laidTests := true, laidLooks := .later }
def PlanPlansUptoCardSaid : Prop := Claim7.holds Tryz.pinned (.plain (OpenSpec.upto planPlansSpec)) planPlansUptoCard

/-- THE SECOND FORM's CARD OF 'bowspritlaw19.PlanReaders'. -/
def planReadersUptoCard : Claim7 := { stood := { row := planReadersUptoRow, standIns := [], harness := (true, "2279216227f6392ae59b4ac39390836c23730c69cea3a1571a4ea39c3eac179e"), looks := false }, kinds := [], alts := [], laidByText := true, laidKinds := [.data, .widerDeep, .data, .pinned, .pinned], laidTests := true, laidLooks := .later }
def PlanReadersUptoCardSaid : Prop := Claim7.holds Tryz.pinned (.plain (OpenSpec.upto planReadersSpec)) planReadersUptoCard

/-- THE SECOND FORM's CARD OF 'bowspritlaw19.PlanStreams'. -/
def planStreamsUptoCard : Claim7 := { stood := { row := planStreamsUptoRow, standIns := [], harness := (true, "2279216227f6392ae59b4ac39390836c23730c69cea3a1571a4ea39c3eac179e"), looks := false }, kinds := [], alts := [], laidByText := true, laidKinds := [.data, .widerDeep, .data, .pinned, .pinned], laidTests := true, laidLooks := .later }
def PlanStreamsUptoCardSaid : Prop := Claim7.holds Tryz.pinned (.plain (OpenSpec.upto planStreamsSpec)) planStreamsUptoCard

/-- THE SECOND FORM's CARD OF 'bowspritlaw19.PlanTells'. -/
def planTellsUptoCard : Claim7 := { stood := { row := planTellsUptoRow, standIns := [], harness := (true, "2279216227f6392ae59b4ac39390836c23730c69cea3a1571a4ea39c3eac179e"), looks := false }, kinds := [], alts := [], laidByText := true, laidKinds := [.data, .widerDeep, .data, .pinned, .pinned], laidTests := true, laidLooks := .later }
def PlanTellsUptoCardSaid : Prop := Claim7.holds Tryz.pinned (.plain (OpenSpec.upto planTellsSpec)) planTellsUptoCard

/-- THE SECOND FORM's CARD OF 'bowspritlaw19.PlanSound'. -/
def planSoundUptoCard : Claim7 := { stood := { row := planSoundUptoRow, standIns := [], harness := (true, "2279216227f6392ae59b4ac39390836c23730c69cea3a1571a4ea39c3eac179e"), looks := false }, kinds := [], alts := [], laidByText := true, laidKinds := [.data, .widerDeep, .data, .pinned, .pinned], laidTests := true, laidLooks := .later }
def PlanSoundUptoCardSaid : Prop := Claim7.holds Tryz.pinned (.plain (OpenSpec.upto planSoundSpec)) planSoundUptoCard
end Rows
end Go.Proofs.YtnmjbolollcokaaGreatDoor
