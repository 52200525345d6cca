/-
  DERIVED. GIVEN WITH THE SEED: THE CARDS: each row of YtaehdhmbgmbgiaaGreatDoorRows.lean that lists a variable, with what it lists TIED to the program's text (the seventh form; the later family's looks); each row that meets fmt, with fmt's text TOLD by the authors' own Lean function (tested against real Go, not proved from fmt's source: count such statements apart). THE CARD IS WHAT COUNTS. Prove the row's statement (the work); the ties are given (YtaehdhmbgmbgiaaGreatDoorTie.lean); close each card by the builder's one call (the guide's Derived/Test/ToyasCard.lean, 'card_holds'). Laid BY PROGRAM, IN A SANDBOX (cutbox-door.mjs). By AI agents, Wed Nov 11 2026. No macro, syntax, notation, axiom, sorry.
-/
import Derived.Test.YtaehdhmbgmbgiaaGreatDoorRows
import GoSem.ClaimSeven
namespace Go.Proofs.YtaehdhmbgmbgiaaGreatDoor
namespace Rows

/-- THE TIED CARD OF 'bowspritlaw16.RewriteKeeps'. -/
def rewriteKeepsCard : Claim7 := { stood := { row := rewriteKeepsRow, standIns := [], harness := (true, "ce64e7288fbfe5bf8a3513ab74f55f0068a4d87aee29e54981cadc758363339a"), looks := false }, kinds := [], alts := [], laidByText := true, laidKinds := [.data], laidTests := true, laidLooks := .later }
def RewriteKeepsCardSaid : Prop := Claim7.holds Tryz.pinned (.plain (OpenSpec.ofChange rewriteKeepsSpec)) rewriteKeepsCard

/-- THE SECOND FORM's CARD OF 'bowspritlaw16.RewriteKeeps'. -/
def rewriteKeepsUptoCard : Claim7 := { stood := { row := rewriteKeepsUptoRow, standIns := [], harness := (true, "ce64e7288fbfe5bf8a3513ab74f55f0068a4d87aee29e54981cadc758363339a"), looks := false }, kinds := [], alts := [], laidByText := true, laidKinds := [.data], laidTests := true, laidLooks := .later }
def RewriteKeepsUptoCardSaid : Prop := Claim7.holds Tryz.pinned (.plain (OpenSpec.upto rewriteKeepsSpec)) rewriteKeepsUptoCard
end Rows
end Go.Proofs.YtaehdhmbgmbgiaaGreatDoor
