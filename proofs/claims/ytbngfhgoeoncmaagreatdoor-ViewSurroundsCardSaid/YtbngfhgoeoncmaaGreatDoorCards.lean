/-
  DERIVED. GIVEN WITH THE SEED: THE CARDS: each row of YtbngfhgoeoncmaaGreatDoorRows.lean that lists a variable, with what it lists TIED to the program's text (the seventh form; the later family's looks); each row that meets fmt, with fmt's text TOLD by the authors' own Lean function (tested against real Go, not proved from fmt's source: count such statements apart). THE CARD IS WHAT COUNTS. Prove the row's statement (the work); the ties are given (YtbngfhgoeoncmaaGreatDoorTie.lean); close each card by the builder's one call (the guide's Derived/Test/ToyasCard.lean, 'card_holds'). Laid BY PROGRAM, IN A SANDBOX (cutbox-door.mjs). By AI agents, Wed Nov 11 2026. No macro, syntax, notation, axiom, sorry.
-/
import Derived.Test.YtbngfhgoeoncmaaGreatDoorRows
import GoSem.ClaimSeven
namespace Go.Proofs.YtbngfhgoeoncmaaGreatDoor
namespace Rows

/-- THE TIED CARD OF 'verdigrislaw28.ViewCompressed'. -/
def viewCompressedCard : Claim7 := { stood := { row := viewCompressedRow, standIns := [], harness := (true, "3ee74735aa8d378e4372b6358816111b1d932458d384b8dfcb23030fa0cb5705"), looks := true }, kinds := [], alts := [], laidByText := true, laidKinds := [.data, .data, .data, .sentinel, .sentinel, .data, .data], laidTests := true, laidLooks := .later }
def ViewCompressedCardSaid : Prop := Claim7.holds Tryz.pinned (.plain (OpenSpec.ofChange viewCompressedSpec)) viewCompressedCard

/-- THE TIED CARD OF 'verdigrislaw28.ViewLights'. -/
def viewLightsCard : Claim7 := { stood := { row := viewLightsRow, standIns := [], harness := (true, "3ee74735aa8d378e4372b6358816111b1d932458d384b8dfcb23030fa0cb5705"), looks := true }, kinds := [], alts := [], laidByText := true, laidKinds := [.data, .data, .data, .sentinel, .sentinel, .data, .data], laidTests := true, laidLooks := .later }
def ViewLightsCardSaid : Prop := Claim7.holds Tryz.pinned (.plain (OpenSpec.ofChange viewLightsSpec)) viewLightsCard

/-- THE TIED CARD OF 'verdigrislaw28.ViewSurrounds'. -/
def viewSurroundsCard : Claim7 := { stood := { row := viewSurroundsRow, standIns := [], harness := (true, "3ee74735aa8d378e4372b6358816111b1d932458d384b8dfcb23030fa0cb5705"), looks := true }, kinds := [], alts := [], laidByText := true, laidKinds := [.data, .data, .data, .sentinel, .sentinel, .data, .data], laidTests := true, laidLooks := .later }
def ViewSurroundsCardSaid : Prop := Claim7.holds Tryz.pinned (.plain (OpenSpec.ofChange viewSurroundsSpec)) viewSurroundsCard

/-- THE TIED CARD OF 'verdigrislaw28.ViewKnown'. -/
def viewKnownCard : Claim7 := { stood := { row := viewKnownRow, standIns := [], harness := (true, "3ee74735aa8d378e4372b6358816111b1d932458d384b8dfcb23030fa0cb5705"), looks := true }, kinds := [], alts := [], laidByText := true, laidKinds := [.data, .data, .data, .sentinel, .sentinel, .data, .data], laidTests := true, laidLooks := .later }
def ViewKnownCardSaid : Prop := Claim7.holds Tryz.pinned (.plain (OpenSpec.ofChange viewKnownSpec)) viewKnownCard

/-- THE SECOND FORM's CARD OF 'verdigrislaw28.ViewCompressed'. -/
def viewCompressedUptoCard : Claim7 := { stood := { row := viewCompressedUptoRow, standIns := [], harness := (true, "3ee74735aa8d378e4372b6358816111b1d932458d384b8dfcb23030fa0cb5705"), looks := true }, kinds := [], alts := [], laidByText := true, laidKinds := [.data, .data, .data, .sentinel, .sentinel, .data, .data], laidTests := true, laidLooks := .later }
def ViewCompressedUptoCardSaid : Prop := Claim7.holds Tryz.pinned (.plain (OpenSpec.upto viewCompressedSpec)) viewCompressedUptoCard

/-- THE SECOND FORM's CARD OF 'verdigrislaw28.ViewLights'. -/
def viewLightsUptoCard : Claim7 := { stood := { row := viewLightsUptoRow, standIns := [], harness := (true, "3ee74735aa8d378e4372b6358816111b1d932458d384b8dfcb23030fa0cb5705"), looks := true }, kinds := [], alts := [], laidByText := true, laidKinds := [.data, .data, .data, .sentinel, .sentinel, .data, .data], laidTests := true, laidLooks := .later }
def ViewLightsUptoCardSaid : Prop := Claim7.holds Tryz.pinned (.plain (OpenSpec.upto viewLightsSpec)) viewLightsUptoCard

/-- THE SECOND FORM's CARD OF 'verdigrislaw28.ViewSurrounds'. -/
def viewSurroundsUptoCard : Claim7 := { stood := { row := viewSurroundsUptoRow, standIns := [], harness := (true, "3ee74735aa8d378e4372b6358816111b1d932458d384b8dfcb23030fa0cb5705"), looks := true }, kinds := [], alts := [], laidByText := true, laidKinds := [.data, .data, .data, .sentinel, .sentinel, .data, .data], laidTests := true, laidLooks := .later }
def ViewSurroundsUptoCardSaid : Prop := Claim7.holds Tryz.pinned (.plain (OpenSpec.upto viewSurroundsSpec)) viewSurroundsUptoCard

/-- THE SECOND FORM's CARD OF 'verdigrislaw28.ViewKnown'. -/
def viewKnownUptoCard : Claim7 := { stood := { row := viewKnownUptoRow, standIns := [], harness := (true, "3ee74735aa8d378e4372b6358816111b1d932458d384b8dfcb23030fa0cb5705"), looks := true }, kinds := [], alts := [], laidByText := true, laidKinds := [.data, .data, .data, .sentinel, .sentinel, .data, .data], laidTests := true, laidLooks := .later }
def ViewKnownUptoCardSaid : Prop := Claim7.holds Tryz.pinned (.plain (OpenSpec.upto viewKnownSpec)) viewKnownUptoCard
end Rows
end Go.Proofs.YtbngfhgoeoncmaaGreatDoor
