/-
  DERIVED. GIVEN WITH THE SEED: THE CARDS: each row of YtfhhakidodmdfaaGreatDoorRows.lean that lists a variable, with what it lists TIED to the program's text (the seventh form; the later family's looks); each row that meets fmt, with fmt's text TOLD by the authors' own Lean function (tested against real Go, not proved from fmt's source: count such statements apart). THE CARD IS WHAT COUNTS. Prove the row's statement (the work); the ties are given (YtfhhakidodmdfaaGreatDoorTie.lean); close each card by the builder's one call (the guide's Derived/Test/ToyasCard.lean, 'card_holds'). Laid BY PROGRAM, IN A SANDBOX (cutbox-door.mjs). By AI agents, Wed Nov 11 2026. No macro, syntax, notation, axiom, sorry.
-/
import Derived.Test.YtfhhakidodmdfaaGreatDoorRows
import GoSem.ClaimSeven
namespace Go.Proofs.YtfhhakidodmdfaaGreatDoor
namespace Rows

/-- THE TIED CARD OF 'bowspritlaw15.DenoteRows'. -/
def denoteRowsCard : Claim7 := { stood := { row := denoteRowsRow, standIns := [], harness := (true, "85db28590683e9d5afa1430223a94669cccdc8a71b628dceb05087e847db95a3"), looks := false }, kinds := [], alts := [], laidByText := true, laidKinds := [.data], laidTests := true, laidLooks := .later }
def DenoteRowsCardSaid : Prop := Claim7.holds Tryz.pinned (.plain (OpenSpec.ofChange denoteRowsSpec)) denoteRowsCard

/-- THE TIED CARD OF 'bowspritlaw15.DenoteKinds'. -/
def denoteKindsCard : Claim7 := { stood := { row := denoteKindsRow, standIns := [], harness := (true, "85db28590683e9d5afa1430223a94669cccdc8a71b628dceb05087e847db95a3"), looks := false }, kinds := [], alts := [], laidByText := true, laidKinds := [.data], laidTests := true, laidLooks := .later }
def DenoteKindsCardSaid : Prop := Claim7.holds Tryz.pinned (.plain (OpenSpec.ofChange denoteKindsSpec)) denoteKindsCard

/-- THE TIED CARD OF 'bowspritlaw15.DenoteAggregates'. -/
def denoteAggregatesCard : Claim7 := { stood := { row := denoteAggregatesRow, standIns := [], harness := (true, "85db28590683e9d5afa1430223a94669cccdc8a71b628dceb05087e847db95a3"), looks := false }, kinds := [], alts := [], laidByText := true, laidKinds := [.data], laidTests := true, laidLooks := .later }
def DenoteAggregatesCardSaid : Prop := Claim7.holds Tryz.pinned (.plain (OpenSpec.ofChange denoteAggregatesSpec)) denoteAggregatesCard

/-- THE TIED CARD OF 'bowspritlaw15.DenoteSorts'. -/
def denoteSortsCard : Claim7 := { stood := { row := denoteSortsRow, standIns := [], harness := (true, "85db28590683e9d5afa1430223a94669cccdc8a71b628dceb05087e847db95a3"), looks := false }, kinds := [], alts := [], laidByText := true, laidKinds := [.data], laidTests := true, laidLooks := .later }
def DenoteSortsCardSaid : Prop := Claim7.holds Tryz.pinned (.plain (OpenSpec.ofChange denoteSortsSpec)) denoteSortsCard

/-- THE TIED CARD OF 'bowspritlaw15.DenoteTurns'. -/
def denoteTurnsCard : Claim7 := { stood := { row := denoteTurnsRow, standIns := [], harness := (true, "85db28590683e9d5afa1430223a94669cccdc8a71b628dceb05087e847db95a3"), looks := false }, kinds := [], alts := [], laidByText := true, laidKinds := [.data], laidTests := true, laidLooks := .later }
def DenoteTurnsCardSaid : Prop := Claim7.holds Tryz.pinned (.plain (OpenSpec.ofChange denoteTurnsSpec)) denoteTurnsCard

/-- THE TIED CARD OF 'bowspritlaw15.DenoteFewer'. -/
def denoteFewerCard : Claim7 := { stood := { row := denoteFewerRow, standIns := [], harness := (true, "85db28590683e9d5afa1430223a94669cccdc8a71b628dceb05087e847db95a3"), looks := false }, kinds := [], alts := [], laidByText := true, laidKinds := [.data], laidTests := true, laidLooks := .later }
def DenoteFewerCardSaid : Prop := Claim7.holds Tryz.pinned (.plain (OpenSpec.ofChange denoteFewerSpec)) denoteFewerCard

/-- THE TIED CARD OF 'bowspritlaw15.DenoteTwice'. -/
def denoteTwiceCard : Claim7 := { stood := { row := denoteTwiceRow, standIns := [], harness := (true, "85db28590683e9d5afa1430223a94669cccdc8a71b628dceb05087e847db95a3"), looks := false }, kinds := [], alts := [], laidByText := true, laidKinds := [.data], laidTests := true, laidLooks := .later }
def DenoteTwiceCardSaid : Prop := Claim7.holds Tryz.pinned (.plain (OpenSpec.ofChange denoteTwiceSpec)) denoteTwiceCard

/-- THE TIED CARD OF 'bowspritlaw15.DenoteBases'. -/
def denoteBasesCard : Claim7 := { stood := { row := denoteBasesRow, standIns := [], harness := (true, "85db28590683e9d5afa1430223a94669cccdc8a71b628dceb05087e847db95a3"), looks := false }, kinds := [], alts := [], laidByText := true, laidKinds := [.data, .widerDeep, .data, .data, .pinned, .pinned], laidTests := true, laidLooks := .later }
def DenoteBasesCardSaid : Prop := Claim7.holds Tryz.pinned (.plain (OpenSpec.ofChange denoteBasesSpec)) denoteBasesCard

/-- THE SECOND FORM's CARD OF 'bowspritlaw15.DenoteRows'. -/
def denoteRowsUptoCard : Claim7 := { stood := { row := denoteRowsUptoRow, standIns := [], harness := (true, "85db28590683e9d5afa1430223a94669cccdc8a71b628dceb05087e847db95a3"), looks := false }, kinds := [], alts := [], laidByText := true, laidKinds := [.data], laidTests := true, laidLooks := .later }
def DenoteRowsUptoCardSaid : Prop := Claim7.holds Tryz.pinned (.plain (OpenSpec.upto denoteRowsSpec)) denoteRowsUptoCard

/-- THE SECOND FORM's CARD OF 'bowspritlaw15.DenoteKinds'. -/
def denoteKindsUptoCard : Claim7 := { stood := { row := denoteKindsUptoRow, standIns := [], harness := (true, "85db28590683e9d5afa1430223a94669cccdc8a71b628dceb05087e847db95a3"), looks := false }, kinds := [], alts := [], laidByText := true, laidKinds := [.data], laidTests := true, laidLooks := .later }
def DenoteKindsUptoCardSaid : Prop := Claim7.holds Tryz.pinned (.plain (OpenSpec.upto denoteKindsSpec)) denoteKindsUptoCard

/-- THE SECOND FORM's CARD OF 'bowspritlaw15.DenoteAggregates'. -/
def denoteAggregatesUptoCard : Claim7 := { stood := { row := denoteAggregatesUptoRow, standIns := [], harness := (true, "85db28590683e9d5afa1430223a94669cccdc8a71b628dceb05087e847db95a3"), looks := false }, kinds := [], alts := [], laidByText := true, laidKinds := [.data], laidTests := true, laidLooks := .later }
def DenoteAggregatesUptoCardSaid : Prop := Claim7.holds Tryz.pinned (.plain (OpenSpec.upto denoteAggregatesSpec)) denoteAggregatesUptoCard

/-- THE SECOND FORM's CARD OF 'bowspritlaw15.DenoteSorts'. -/
def denoteSortsUptoCard : Claim7 := { stood := { row := denoteSortsUptoRow, standIns := [], harness := (true, "85db28590683e9d5afa1430223a94669cccdc8a71b628dceb05087e847db95a3"), looks := false }, kinds := [], alts := [], laidByText := true, laidKinds := [.data], laidTests := true, laidLooks := .later }
def DenoteSortsUptoCardSaid : Prop := Claim7.holds Tryz.pinned (.plain (OpenSpec.upto denoteSortsSpec)) denoteSortsUptoCard

/-- THE SECOND FORM's CARD OF 'bowspritlaw15.DenoteTurns'. -/
def denoteTurnsUptoCard : Claim7 := { stood := { row := denoteTurnsUptoRow, standIns := [], harness := (true, "85db28590683e9d5afa1430223a94669cccdc8a71b628dceb05087e847db95a3"), looks := false }, kinds := [], alts := [], laidByText := true, laidKinds := [.data], laidTests := true, laidLooks := .later }
def DenoteTurnsUptoCardSaid : Prop := Claim7.holds Tryz.pinned (.plain (OpenSpec.upto denoteTurnsSpec)) denoteTurnsUptoCard

/-- THE SECOND FORM's CARD OF 'bowspritlaw15.DenoteFewer'. -/
def denoteFewerUptoCard : Claim7 := { stood := { row := denoteFewerUptoRow, standIns := [], harness := (true, "85db28590683e9d5afa1430223a94669cccdc8a71b628dceb05087e847db95a3"), looks := false }, kinds := [], alts := [], laidByText := true, laidKinds := [.data], laidTests := true, laidLooks := .later }
def DenoteFewerUptoCardSaid : Prop := Claim7.holds Tryz.pinned (.plain (OpenSpec.upto denoteFewerSpec)) denoteFewerUptoCard

/-- THE SECOND FORM's CARD OF 'bowspritlaw15.DenoteTwice'. -/
def denoteTwiceUptoCard : Claim7 := { stood := { row := denoteTwiceUptoRow, standIns := [], harness := (true, "85db28590683e9d5afa1430223a94669cccdc8a71b628dceb05087e847db95a3"), looks := false }, kinds := [], alts := [], laidByText := true, laidKinds := [.data], laidTests := true, laidLooks := .later }
def DenoteTwiceUptoCardSaid : Prop := Claim7.holds Tryz.pinned (.plain (OpenSpec.upto denoteTwiceSpec)) denoteTwiceUptoCard

/-- THE SECOND FORM's CARD OF 'bowspritlaw15.DenoteBases'. -/
def denoteBasesUptoCard : Claim7 := { stood := { row := denoteBasesUptoRow, standIns := [], harness := (true, "85db28590683e9d5afa1430223a94669cccdc8a71b628dceb05087e847db95a3"), looks := false }, kinds := [], alts := [], laidByText := true, laidKinds := [.data, .widerDeep, .data, .data, .pinned, .pinned], laidTests := true, laidLooks := .later }
def DenoteBasesUptoCardSaid : Prop := Claim7.holds Tryz.pinned (.plain (OpenSpec.upto denoteBasesSpec)) denoteBasesUptoCard
end Rows
end Go.Proofs.YtfhhakidodmdfaaGreatDoor
