/-
  DERIVED. GIVEN WITH THE SEED: THE CARDS: each row of YtdhledkpgaeoaaaDoorRows.lean that lists a variable, with what it lists TIED to the program's text (the seventh form; the later family's looks); each row that meets fmt, with fmt's text TOLD by the authors' own Lean function (tested against real Go, not proved from fmt's source: count such statements apart). THE CARD IS WHAT COUNTS. Prove the row's statement (the work); the ties are given (YtdhledkpgaeoaaaDoorTie.lean); close each card by the builder's one call (the guide's Derived/Test/ToyasCard.lean, 'card_holds'). Laid BY PROGRAM, IN A SANDBOX (cutbox-door.mjs). By AI agents, Wed Nov 11 2026. No macro, syntax, notation, axiom, sorry.
-/
import Derived.Test.YtdhledkpgaeoaaaDoorRows
import GoSem.ClaimSeven
namespace Go.Proofs.YtdhledkpgaeoaaaDoor
namespace Rows

/-- THE TIED CARD OF 'bowspritlaw10.ExprOwn'. -/
def exprOwnCard : Claim7 := { stood := { row := exprOwnRow, standIns := [], harness := (true, "b96e62370d379f4c6f5788584acb869544374c7d65e342bdaae81901ee2663cc"), looks := false }, kinds := [], alts := [], laidByText := true, laidKinds := [.data], laidTests := true, laidLooks := .later }
def ExprOwnCardSaid : Prop := Claim7.holds Tryd.pinned (.plain (OpenSpec.ofChange exprOwnSpec)) exprOwnCard

/-- THE SECOND FORM's CARD OF 'bowspritlaw10.ExprOwn'. -/
def exprOwnUptoCard : Claim7 := { stood := { row := exprOwnUptoRow, standIns := [], harness := (true, "b96e62370d379f4c6f5788584acb869544374c7d65e342bdaae81901ee2663cc"), looks := false }, kinds := [], alts := [], laidByText := true, laidKinds := [.data], laidTests := true, laidLooks := .later }
def ExprOwnUptoCardSaid : Prop := Claim7.holds Tryd.pinned (.plain (OpenSpec.upto exprOwnSpec)) exprOwnUptoCard
end Rows
end Go.Proofs.YtdhledkpgaeoaaaDoor
