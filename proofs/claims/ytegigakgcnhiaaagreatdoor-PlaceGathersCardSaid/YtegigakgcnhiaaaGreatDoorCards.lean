/-
  DERIVED. GIVEN WITH THE SEED: THE CARDS: each row of YtegigakgcnhiaaaGreatDoorRows.lean that lists a variable, with what it lists TIED to the program's text (the seventh form; the later family's looks); each row that meets fmt, with fmt's text TOLD by the authors' own Lean function (tested against real Go, not proved from fmt's source: count such statements apart). THE CARD IS WHAT COUNTS. Prove the row's statement (the work); the ties are given (YtegigakgcnhiaaaGreatDoorTie.lean); close each card by the builder's one call (the guide's Derived/Test/ToyasCard.lean, 'card_holds'). Laid BY PROGRAM, IN A SANDBOX (cutbox-door.mjs). By AI agents, Wed Nov 11 2026. No macro, syntax, notation, axiom, sorry.
-/
import Derived.Test.YtegigakgcnhiaaaGreatDoorRows
import GoSem.ClaimSeven
namespace Go.Proofs.YtegigakgcnhiaaaGreatDoor
namespace Rows

/-- THE TIED CARD OF 'bowspritlaw17.PlaceLays'. -/
def placeLaysCard : Claim7 := { stood := { row := placeLaysRow, standIns := [], harness := (true, "9fe06f30064eaa4591b8584ce6b4a71622ef1bb80e1e9e5e10d551360d5da12f"), looks := false }, kinds := [], alts := [], laidByText := true, laidKinds := [.data, .widerDeep, .data, .pinned, .pinned], laidTests := true, laidLooks := .later }
def PlaceLaysCardSaid : Prop := Claim7.holds Tryz.pinned (.plain (OpenSpec.ofChange placeLaysSpec)) placeLaysCard

/-- THE TIED CARD OF 'bowspritlaw17.PlaceWhere'. -/
def placeWhereCard : Claim7 := { stood := { row := placeWhereRow, standIns := [], harness := (true, "9fe06f30064eaa4591b8584ce6b4a71622ef1bb80e1e9e5e10d551360d5da12f"), looks := false }, kinds := [], alts := [], laidByText := true, laidKinds := [.data, .widerDeep, .data, .pinned, .pinned], laidTests := true, laidLooks := .later }
def PlaceWhereCardSaid : Prop := Claim7.holds Tryz.pinned (.plain (OpenSpec.ofChange placeWhereSpec)) placeWhereCard

/-- THE TIED CARD OF 'bowspritlaw17.PlaceMoves'. -/
def placeMovesCard : Claim7 := { stood := { row := placeMovesRow, standIns := [], harness := (true, "9fe06f30064eaa4591b8584ce6b4a71622ef1bb80e1e9e5e10d551360d5da12f"), looks := false }, kinds := [], alts := [], laidByText := true, laidKinds := [.data, .widerDeep, .data, .pinned, .pinned], laidTests := true, laidLooks := .later }
def PlaceMovesCardSaid : Prop := Claim7.holds Tryz.pinned (.plain (OpenSpec.ofChange placeMovesSpec)) placeMovesCard

/-- THE TIED CARD OF 'bowspritlaw17.PlaceBack'. -/
def placeBackCard : Claim7 := { stood := { row := placeBackRow, standIns := [], harness := (true, "9fe06f30064eaa4591b8584ce6b4a71622ef1bb80e1e9e5e10d551360d5da12f"), looks := false }, kinds := [], alts := [], laidByText := true, laidKinds := [.data, .widerDeep, .data, .pinned, .pinned], laidTests := true, laidLooks := .later }
def PlaceBackCardSaid : Prop := Claim7.holds Tryz.pinned (.plain (OpenSpec.ofChange placeBackSpec)) placeBackCard

/-- THE TIED CARD OF 'bowspritlaw17.PlaceGathers'. -/
def placeGathersCard : Claim7 := { stood := { row := placeGathersRow, standIns := [], harness := (true, "9fe06f30064eaa4591b8584ce6b4a71622ef1bb80e1e9e5e10d551360d5da12f"), looks := false }, kinds := [], alts := [], laidByText := true, laidKinds := [.data, .widerDeep, .data, .pinned, .pinned], laidTests := true, laidLooks := .later }
def PlaceGathersCardSaid : Prop := Claim7.holds Tryz.pinned (.plain (OpenSpec.ofChange placeGathersSpec)) placeGathersCard

/-- THE TIED CARD OF 'bowspritlaw17.PlaceStays'. -/
def placeStaysCard : Claim7 := { stood := { row := placeStaysRow, standIns := [], harness := (true, "9fe06f30064eaa4591b8584ce6b4a71622ef1bb80e1e9e5e10d551360d5da12f"), looks := false }, kinds := [], alts := [], laidByText := true, laidKinds := [.data, .widerDeep, .data, .pinned, .pinned], laidTests := true, laidLooks := .later }
def PlaceStaysCardSaid : Prop := Claim7.holds Tryz.pinned (.plain (OpenSpec.ofChange placeStaysSpec)) placeStaysCard

/-- THE SECOND FORM's CARD OF 'bowspritlaw17.PlaceLays'. -/
def placeLaysUptoCard : Claim7 := { stood := { row := placeLaysUptoRow, standIns := [], harness := (true, "9fe06f30064eaa4591b8584ce6b4a71622ef1bb80e1e9e5e10d551360d5da12f"), looks := false }, kinds := [], alts := [], laidByText := true, laidKinds := [.data, .widerDeep, .data, .pinned, .pinned], laidTests := true, laidLooks := .later }
def PlaceLaysUptoCardSaid : Prop := Claim7.holds Tryz.pinned (.plain (OpenSpec.upto placeLaysSpec)) placeLaysUptoCard

/-- THE SECOND FORM's CARD OF 'bowspritlaw17.PlaceWhere'. -/
def placeWhereUptoCard : Claim7 := { stood := { row := placeWhereUptoRow, standIns := [], harness := (true, "9fe06f30064eaa4591b8584ce6b4a71622ef1bb80e1e9e5e10d551360d5da12f"), looks := false }, kinds := [], alts := [], laidByText := true, laidKinds := [.data, .widerDeep, .data, .pinned, .pinned], laidTests := true, laidLooks := .later }
def PlaceWhereUptoCardSaid : Prop := Claim7.holds Tryz.pinned (.plain (OpenSpec.upto placeWhereSpec)) placeWhereUptoCard

/-- THE SECOND FORM's CARD OF 'bowspritlaw17.PlaceMoves'. -/
def placeMovesUptoCard : Claim7 := { stood := { row := placeMovesUptoRow, standIns := [], harness := (true, "9fe06f30064eaa4591b8584ce6b4a71622ef1bb80e1e9e5e10d551360d5da12f"), looks := false }, kinds := [], alts := [], laidByText := true, laidKinds := [.data, .widerDeep, .data, .pinned, .pinned], laidTests := true, laidLooks := .later }
def PlaceMovesUptoCardSaid : Prop := Claim7.holds Tryz.pinned (.plain (OpenSpec.upto placeMovesSpec)) placeMovesUptoCard

/-- THE SECOND FORM's CARD OF 'bowspritlaw17.PlaceBack'. -/
def placeBackUptoCard : Claim7 := { stood := { row := placeBackUptoRow, standIns := [], harness := (true, "9fe06f30064eaa4591b8584ce6b4a71622ef1bb80e1e9e5e10d551360d5da12f"), looks := false }, kinds := [], alts := [], laidByText := true, laidKinds := [.data, .widerDeep, .data, .pinned, .pinned], laidTests := true, laidLooks := .later }
def PlaceBackUptoCardSaid : Prop := Claim7.holds Tryz.pinned (.plain (OpenSpec.upto placeBackSpec)) placeBackUptoCard

/-- THE SECOND FORM's CARD OF 'bowspritlaw17.PlaceGathers'. -/
def placeGathersUptoCard : Claim7 := { stood := { row := placeGathersUptoRow, standIns := [], harness := (true, "9fe06f30064eaa4591b8584ce6b4a71622ef1bb80e1e9e5e10d551360d5da12f"), looks := false }, kinds := [], alts := [], laidByText := true, laidKinds := [.data, .widerDeep, .data, .pinned, .pinned], laidTests := true, laidLooks := .later }
def PlaceGathersUptoCardSaid : Prop := Claim7.holds Tryz.pinned (.plain (OpenSpec.upto placeGathersSpec)) placeGathersUptoCard

/-- THE SECOND FORM's CARD OF 'bowspritlaw17.PlaceStays'. -/
def placeStaysUptoCard : Claim7 := { stood := { row := placeStaysUptoRow, standIns := [], harness := (true, "9fe06f30064eaa4591b8584ce6b4a71622ef1bb80e1e9e5e10d551360d5da12f"), looks := false }, kinds := [], alts := [], laidByText := true, laidKinds := [.data, .widerDeep, .data, .pinned, .pinned], laidTests := true, laidLooks := .later }
def PlaceStaysUptoCardSaid : Prop := Claim7.holds Tryz.pinned (.plain (OpenSpec.upto placeStaysSpec)) placeStaysUptoCard
end Rows
end Go.Proofs.YtegigakgcnhiaaaGreatDoor
