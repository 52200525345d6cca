/-
  DERIVED. GIVEN WITH THE SEED: THE CARDS: each row of YtadeokalnbmppaaGreatDoorRows.lean that lists a variable, with what it lists TIED to the program's text (the seventh form; the later family's looks); each row that meets fmt, with fmt's text TOLD by the authors' own Lean function (tested against real Go, not proved from fmt's source: count such statements apart). THE CARD IS WHAT COUNTS. Prove the row's statement (the work); the ties are given (YtadeokalnbmppaaGreatDoorTie.lean); close each card by the builder's one call (the guide's Derived/Test/ToyasCard.lean, 'card_holds'). Laid BY PROGRAM, IN A SANDBOX (cutbox-door.mjs). By AI agents, Wed Nov 11 2026. No macro, syntax, notation, axiom, sorry.
-/
import Derived.Test.YtadeokalnbmppaaGreatDoorRows
import GoSem.ClaimSeven
namespace Go.Proofs.YtadeokalnbmppaaGreatDoor
namespace Rows

/-- THE TIED CARD OF 'bowspritlaw19.PlanSound'. -/
def planSoundCard : Claim7 := { stood := { row := planSoundRow, standIns := [], harness := (true, "579309bfe8413cd0c0326629d07b214d99b0a551d65843b62987f7107755ccd3"), looks := false }, kinds := [], alts := [], laidByText := true, laidKinds := [.data, .widerDeep, .data, .pinned, .pinned], laidTests := true, laidLooks := .later }
def PlanSoundCardSaid : Prop := Claim7.holds Tryz.pinned (.plain (OpenSpec.ofChange planSoundSpec)) planSoundCard

/-- THE SECOND FORM's CARD OF 'bowspritlaw19.PlanSound'. -/
def planSoundUptoCard : Claim7 := { stood := { row := planSoundUptoRow, standIns := [], harness := (true, "579309bfe8413cd0c0326629d07b214d99b0a551d65843b62987f7107755ccd3"), looks := false }, kinds := [], alts := [], laidByText := true, laidKinds := [.data, .widerDeep, .data, .pinned, .pinned], laidTests := true, laidLooks := .later }
def PlanSoundUptoCardSaid : Prop := Claim7.holds Tryz.pinned (.plain (OpenSpec.upto planSoundSpec)) planSoundUptoCard
end Rows
end Go.Proofs.YtadeokalnbmppaaGreatDoor
