/-
  DERIVED. GIVEN WITH THE SEED: THE CARDS: each row of YtigldkegamffhaaGreatDoorRows.lean that lists a variable, with what it lists TIED to the program's text (the seventh form; the later family's looks); each row that meets fmt, with fmt's text TOLD by the authors' own Lean function (tested against real Go, not proved from fmt's source: count such statements apart). THE CARD IS WHAT COUNTS. Prove the row's statement (the work); the ties are given (YtigldkegamffhaaGreatDoorTie.lean); close each card by the builder's one call (the guide's Derived/Test/ToyasCard.lean, 'card_holds'). Laid BY PROGRAM, IN A SANDBOX (cutbox-door.mjs). By AI agents, Wed Nov 11 2026. No macro, syntax, notation, axiom, sorry.
-/
import Derived.Test.YtigldkegamffhaaGreatDoorRows
import GoSem.ClaimSeven
namespace Go.Proofs.YtigldkegamffhaaGreatDoor
namespace Rows

/-- THE TIED CARD OF 'bowspritlaw12.BindCalled'. -/
def bindCalledCard : Claim7 := { stood := { row := bindCalledRow, standIns := [], harness := (true, "843ebdf0ee695685be491856894275861c41368d91e482972085eb1289422c0d"), looks := false }, kinds := [], alts := [], laidByText := true, laidKinds := [.data, .widerDeep, .data, .pinned, .pinned], laidTests := true, laidLooks := .later }
def BindCalledCardSaid : Prop := Claim7.holds Tryz.pinned (.plain (OpenSpec.ofChange bindCalledSpec)) bindCalledCard

/-- THE SECOND FORM's CARD OF 'bowspritlaw12.BindCalled'. -/
def bindCalledUptoCard : Claim7 := { stood := { row := bindCalledUptoRow, standIns := [], harness := (true, "843ebdf0ee695685be491856894275861c41368d91e482972085eb1289422c0d"), looks := false }, kinds := [], alts := [], laidByText := true, laidKinds := [.data, .widerDeep, .data, .pinned, .pinned], laidTests := true, laidLooks := .later }
def BindCalledUptoCardSaid : Prop := Claim7.holds Tryz.pinned (.plain (OpenSpec.upto bindCalledSpec)) bindCalledUptoCard
end Rows
end Go.Proofs.YtigldkegamffhaaGreatDoor
