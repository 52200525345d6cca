/-
  DERIVED. GIVEN WITH THE SEED: THE CARDS: each row of YtpgjgkdpeagjbaaGreatDoorRows.lean that lists a variable, with what it lists TIED to the program's text (the seventh form; the later family's looks); each row that meets fmt, with fmt's text TOLD by the authors' own Lean function (tested against real Go, not proved from fmt's source: count such statements apart). THE CARD IS WHAT COUNTS. Prove the row's statement (the work); the ties are given (YtpgjgkdpeagjbaaGreatDoorTie.lean); close each card by the builder's one call (the guide's Derived/Test/ToyasCard.lean, 'card_holds'). Laid BY PROGRAM, IN A SANDBOX (cutbox-door.mjs). By AI agents, Wed Nov 11 2026. No macro, syntax, notation, axiom, sorry.
-/
import Derived.Test.YtpgjgkdpeagjbaaGreatDoorRows
import GoSem.ClaimSeven
namespace Go.Proofs.YtpgjgkdpeagjbaaGreatDoor
namespace Rows

/-- THE TIED CARD OF 'bowspritlaw15.DenoteRows'. -/
def denoteRowsCard : Claim7 := { stood := { row := denoteRowsRow, standIns := [], harness := (true, "1fb035841268c28f8649a0e131a854546444998a94027221d94d03281b9c9cd6"), looks := false }, kinds := [], alts := [], laidByText := true, laidKinds := [.data], laidTests := true, laidLooks := .later }
def DenoteRowsCardSaid : Prop := Claim7.holds Tryz.pinned (.plain (OpenSpec.ofChange denoteRowsSpec)) denoteRowsCard

/-- THE SECOND FORM's CARD OF 'bowspritlaw15.DenoteRows'. -/
def denoteRowsUptoCard : Claim7 := { stood := { row := denoteRowsUptoRow, standIns := [], harness := (true, "1fb035841268c28f8649a0e131a854546444998a94027221d94d03281b9c9cd6"), looks := false }, kinds := [], alts := [], laidByText := true, laidKinds := [.data], laidTests := true, laidLooks := .later }
def DenoteRowsUptoCardSaid : Prop := Claim7.holds Tryz.pinned (.plain (OpenSpec.upto denoteRowsSpec)) denoteRowsUptoCard
end Rows
end Go.Proofs.YtpgjgkdpeagjbaaGreatDoor
