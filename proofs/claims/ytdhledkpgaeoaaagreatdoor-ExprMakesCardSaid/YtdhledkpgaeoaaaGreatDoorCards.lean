/-
  DERIVED. GIVEN WITH THE SEED: THE CARDS: each row of YtdhledkpgaeoaaaGreatDoorRows.lean that lists a variable, with what it lists TIED to the program's text (the seventh form; the later family's looks); each row that meets fmt, with fmt's text TOLD by the authors' own Lean function (tested against real Go, not proved from fmt's source: count such statements apart). THE CARD IS WHAT COUNTS. Prove the row's statement (the work); the ties are given (YtdhledkpgaeoaaaGreatDoorTie.lean); close each card by the builder's one call (the guide's Derived/Test/ToyasCard.lean, 'card_holds'). Laid BY PROGRAM, IN A SANDBOX (cutbox-door.mjs). By AI agents, Wed Nov 11 2026. No macro, syntax, notation, axiom, sorry.
-/
import Derived.Test.YtdhledkpgaeoaaaGreatDoorRows
import GoSem.ClaimSeven
namespace Go.Proofs.YtdhledkpgaeoaaaGreatDoor
namespace Rows

/-- THE TIED CARD OF 'bowspritlaw10.ExprEvals'. -/
def exprEvalsCard : Claim7 := { stood := { row := exprEvalsRow, standIns := [], harness := (true, "1113ed025a7775f9e1970a725b5601e14aebd3959c6e0ea433c282290d1e0f34"), looks := false }, kinds := [], alts := [], laidByText := true, laidKinds := [.data], laidTests := true, laidLooks := .later }
def ExprEvalsCardSaid : Prop := Claim7.holds Tryz.pinned (.plain (OpenSpec.ofChange exprEvalsSpec)) exprEvalsCard

/-- THE TIED CARD OF 'bowspritlaw10.ExprMakes'. -/
def exprMakesCard : Claim7 := { stood := { row := exprMakesRow, standIns := [], harness := (true, "1113ed025a7775f9e1970a725b5601e14aebd3959c6e0ea433c282290d1e0f34"), looks := false }, kinds := [], alts := [], laidByText := true, laidKinds := [.data], laidTests := true, laidLooks := .later }
def ExprMakesCardSaid : Prop := Claim7.holds Tryz.pinned (.plain (OpenSpec.ofChange exprMakesSpec)) exprMakesCard

/-- THE TIED CARD OF 'bowspritlaw10.ExprThrough'. -/
def exprThroughCard : Claim7 := { stood := { row := exprThroughRow, standIns := [], harness := (true, "1113ed025a7775f9e1970a725b5601e14aebd3959c6e0ea433c282290d1e0f34"), looks := false }, kinds := [], alts := [], laidByText := true, laidKinds := [.data], laidTests := true, laidLooks := .later }
def ExprThroughCardSaid : Prop := Claim7.holds Tryz.pinned (.plain (OpenSpec.ofChange exprThroughSpec)) exprThroughCard

/-- THE TIED CARD OF 'bowspritlaw10.ExprKinds'. -/
def exprKindsCard : Claim7 := { stood := { row := exprKindsRow, standIns := [], harness := (true, "1113ed025a7775f9e1970a725b5601e14aebd3959c6e0ea433c282290d1e0f34"), looks := false }, kinds := [], alts := [], laidByText := true, laidKinds := [.data], laidTests := true, laidLooks := .later }
def ExprKindsCardSaid : Prop := Claim7.holds Tryz.pinned (.plain (OpenSpec.ofChange exprKindsSpec)) exprKindsCard

/-- THE TIED CARD OF 'bowspritlaw10.ExprParts'. -/
def exprPartsCard : Claim7 := { stood := { row := exprPartsRow, standIns := [], harness := (true, "1113ed025a7775f9e1970a725b5601e14aebd3959c6e0ea433c282290d1e0f34"), looks := false }, kinds := [], alts := [], laidByText := true, laidKinds := [.data], laidTests := true, laidLooks := .later }
def ExprPartsCardSaid : Prop := Claim7.holds Tryz.pinned (.plain (OpenSpec.ofChange exprPartsSpec)) exprPartsCard

/-- THE TIED CARD OF 'bowspritlaw10.ExprTells'. -/
def exprTellsCard : Claim7 := { stood := { row := exprTellsRow, standIns := [], harness := (true, "1113ed025a7775f9e1970a725b5601e14aebd3959c6e0ea433c282290d1e0f34"), looks := false }, kinds := [], alts := [], laidByText := true, laidKinds := [.data], laidTests := true, laidLooks := .later }
def ExprTellsCardSaid : Prop := Claim7.holds Tryz.pinned (.plain (OpenSpec.ofChange exprTellsSpec)) exprTellsCard

/-- THE SECOND FORM's CARD OF 'bowspritlaw10.ExprEvals'. -/
def exprEvalsUptoCard : Claim7 := { stood := { row := exprEvalsUptoRow, standIns := [], harness := (true, "1113ed025a7775f9e1970a725b5601e14aebd3959c6e0ea433c282290d1e0f34"), looks := false }, kinds := [], alts := [], laidByText := true, laidKinds := [.data], laidTests := true, laidLooks := .later }
def ExprEvalsUptoCardSaid : Prop := Claim7.holds Tryz.pinned (.plain (OpenSpec.upto exprEvalsSpec)) exprEvalsUptoCard

/-- THE SECOND FORM's CARD OF 'bowspritlaw10.ExprMakes'. -/
def exprMakesUptoCard : Claim7 := { stood := { row := exprMakesUptoRow, standIns := [], harness := (true, "1113ed025a7775f9e1970a725b5601e14aebd3959c6e0ea433c282290d1e0f34"), looks := false }, kinds := [], alts := [], laidByText := true, laidKinds := [.data], laidTests := true, laidLooks := .later }
def ExprMakesUptoCardSaid : Prop := Claim7.holds Tryz.pinned (.plain (OpenSpec.upto exprMakesSpec)) exprMakesUptoCard

/-- THE SECOND FORM's CARD OF 'bowspritlaw10.ExprThrough'. -/
def exprThroughUptoCard : Claim7 := { stood := { row := exprThroughUptoRow, standIns := [], harness := (true, "1113ed025a7775f9e1970a725b5601e14aebd3959c6e0ea433c282290d1e0f34"), looks := false }, kinds := [], alts := [], laidByText := true, laidKinds := [.data], laidTests := true, laidLooks := .later }
def ExprThroughUptoCardSaid : Prop := Claim7.holds Tryz.pinned (.plain (OpenSpec.upto exprThroughSpec)) exprThroughUptoCard

/-- THE SECOND FORM's CARD OF 'bowspritlaw10.ExprKinds'. -/
def exprKindsUptoCard : Claim7 := { stood := { row := exprKindsUptoRow, standIns := [], harness := (true, "1113ed025a7775f9e1970a725b5601e14aebd3959c6e0ea433c282290d1e0f34"), looks := false }, kinds := [], alts := [], laidByText := true, laidKinds := [.data], laidTests := true, laidLooks := .later }
def ExprKindsUptoCardSaid : Prop := Claim7.holds Tryz.pinned (.plain (OpenSpec.upto exprKindsSpec)) exprKindsUptoCard

/-- THE SECOND FORM's CARD OF 'bowspritlaw10.ExprParts'. -/
def exprPartsUptoCard : Claim7 := { stood := { row := exprPartsUptoRow, standIns := [], harness := (true, "1113ed025a7775f9e1970a725b5601e14aebd3959c6e0ea433c282290d1e0f34"), looks := false }, kinds := [], alts := [], laidByText := true, laidKinds := [.data], laidTests := true, laidLooks := .later }
def ExprPartsUptoCardSaid : Prop := Claim7.holds Tryz.pinned (.plain (OpenSpec.upto exprPartsSpec)) exprPartsUptoCard

/-- THE SECOND FORM's CARD OF 'bowspritlaw10.ExprTells'. -/
def exprTellsUptoCard : Claim7 := { stood := { row := exprTellsUptoRow, standIns := [], harness := (true, "1113ed025a7775f9e1970a725b5601e14aebd3959c6e0ea433c282290d1e0f34"), looks := false }, kinds := [], alts := [], laidByText := true, laidKinds := [.data], laidTests := true, laidLooks := .later }
def ExprTellsUptoCardSaid : Prop := Claim7.holds Tryz.pinned (.plain (OpenSpec.upto exprTellsSpec)) exprTellsUptoCard
end Rows
end Go.Proofs.YtdhledkpgaeoaaaGreatDoor
