/-
  DERIVED. GIVEN WITH THE SEED: THE CARDS: each row of YtddblpggomphpaaGreatDoorRows.lean that lists a variable, with what it lists TIED to the program's text (the seventh form; the later family's looks); each row that meets fmt, with fmt's text TOLD by the authors' own Lean function (tested against real Go, not proved from fmt's source: count such statements apart). THE CARD IS WHAT COUNTS. Prove the row's statement (the work); the ties are given (YtddblpggomphpaaGreatDoorTie.lean); close each card by the builder's one call (the guide's Derived/Test/ToyasCard.lean, 'card_holds'). Laid BY PROGRAM, IN A SANDBOX (cutbox-door.mjs). By AI agents, Wed Nov 11 2026. No macro, syntax, notation, axiom, sorry.
-/
import Derived.Test.YtddblpggomphpaaGreatDoorRows
import GoSem.ClaimSeven
namespace Go.Proofs.YtddblpggomphpaaGreatDoor
namespace Rows

/-- THE TIED CARD OF 'verdigrislaw25.AdaptMatrices'. -/
def adaptMatricesCard : Claim7 := { stood := { row := adaptMatricesRow, standIns := [], harness := (true, "50e1582605f5adda48684425b8549e6e38f1d8943c6eb8551d2394c5aed60ef4"), looks := true }, kinds := [], alts := [], laidByText := true, laidKinds := [.data, .data, .data, .data], laidTests := true, laidLooks := .later }
def AdaptMatricesCardSaid : Prop := Claim7.holds Tryz.pinned (.plain (OpenSpec.ofChange adaptMatricesSpec)) adaptMatricesCard

/-- THE TIED CARD OF 'verdigrislaw25.AdaptColours'. -/
def adaptColoursCard : Claim7 := { stood := { row := adaptColoursRow, standIns := [], harness := (true, "50e1582605f5adda48684425b8549e6e38f1d8943c6eb8551d2394c5aed60ef4"), looks := true }, kinds := [], alts := [], laidByText := true, laidKinds := [.data, .data, .data, .data], laidTests := true, laidLooks := .later }
def AdaptColoursCardSaid : Prop := Claim7.holds Tryz.pinned (.plain (OpenSpec.ofChange adaptColoursSpec)) adaptColoursCard

/-- THE TIED CARD OF 'verdigrislaw25.AdaptMeets'. -/
def adaptMeetsCard : Claim7 := { stood := { row := adaptMeetsRow, standIns := [], harness := (true, "50e1582605f5adda48684425b8549e6e38f1d8943c6eb8551d2394c5aed60ef4"), looks := true }, kinds := [], alts := [], laidByText := true, laidKinds := [.data, .data, .data, .data], laidTests := true, laidLooks := .later }
def AdaptMeetsCardSaid : Prop := Claim7.holds Tryz.pinned (.plain (OpenSpec.ofChange adaptMeetsSpec)) adaptMeetsCard

/-- THE TIED CARD OF 'verdigrislaw25.AdaptChains'. -/
def adaptChainsCard : Claim7 := { stood := { row := adaptChainsRow, standIns := [], harness := (true, "50e1582605f5adda48684425b8549e6e38f1d8943c6eb8551d2394c5aed60ef4"), looks := true }, kinds := [], alts := [], laidByText := true, laidKinds := [.data, .data, .data, .data], laidTests := true, laidLooks := .later }
def AdaptChainsCardSaid : Prop := Claim7.holds Tryz.pinned (.plain (OpenSpec.ofChange adaptChainsSpec)) adaptChainsCard

/-- THE TIED CARD OF 'verdigrislaw25.AdaptKnown'. -/
def adaptKnownCard : Claim7 := { stood := { row := adaptKnownRow, standIns := [], harness := (true, "50e1582605f5adda48684425b8549e6e38f1d8943c6eb8551d2394c5aed60ef4"), looks := true }, kinds := [], alts := [], laidByText := true, laidKinds := [.data, .data, .data, .data], laidTests := true, laidLooks := .later }
def AdaptKnownCardSaid : Prop := Claim7.holds Tryz.pinned (.plain (OpenSpec.ofChange adaptKnownSpec)) adaptKnownCard

/-- THE TIED CARD OF 'verdigrislaw25.AdaptStays'. -/
def adaptStaysCard : Claim7 := { stood := { row := adaptStaysRow, standIns := [], harness := (true, "50e1582605f5adda48684425b8549e6e38f1d8943c6eb8551d2394c5aed60ef4"), looks := true }, kinds := [], alts := [], laidByText := true, laidKinds := [.data, .data, .data, .data], laidTests := true, laidLooks := .later }
def AdaptStaysCardSaid : Prop := Claim7.holds Tryz.pinned (.plain (OpenSpec.ofChange adaptStaysSpec)) adaptStaysCard

/-- THE SECOND FORM's CARD OF 'verdigrislaw25.AdaptMatrices'. -/
def adaptMatricesUptoCard : Claim7 := { stood := { row := adaptMatricesUptoRow, standIns := [], harness := (true, "50e1582605f5adda48684425b8549e6e38f1d8943c6eb8551d2394c5aed60ef4"), looks := true }, kinds := [], alts := [], laidByText := true, laidKinds := [.data, .data, .data, .data], laidTests := true, laidLooks := .later }
def AdaptMatricesUptoCardSaid : Prop := Claim7.holds Tryz.pinned (.plain (OpenSpec.upto adaptMatricesSpec)) adaptMatricesUptoCard

/-- THE SECOND FORM's CARD OF 'verdigrislaw25.AdaptColours'. -/
def adaptColoursUptoCard : Claim7 := { stood := { row := adaptColoursUptoRow, standIns := [], harness := (true, "50e1582605f5adda48684425b8549e6e38f1d8943c6eb8551d2394c5aed60ef4"), looks := true }, kinds := [], alts := [], laidByText := true, laidKinds := [.data, .data, .data, .data], laidTests := true, laidLooks := .later }
def AdaptColoursUptoCardSaid : Prop := Claim7.holds Tryz.pinned (.plain (OpenSpec.upto adaptColoursSpec)) adaptColoursUptoCard

/-- THE SECOND FORM's CARD OF 'verdigrislaw25.AdaptMeets'. -/
def adaptMeetsUptoCard : Claim7 := { stood := { row := adaptMeetsUptoRow, standIns := [], harness := (true, "50e1582605f5adda48684425b8549e6e38f1d8943c6eb8551d2394c5aed60ef4"), looks := true }, kinds := [], alts := [], laidByText := true, laidKinds := [.data, .data, .data, .data], laidTests := true, laidLooks := .later }
def AdaptMeetsUptoCardSaid : Prop := Claim7.holds Tryz.pinned (.plain (OpenSpec.upto adaptMeetsSpec)) adaptMeetsUptoCard

/-- THE SECOND FORM's CARD OF 'verdigrislaw25.AdaptChains'. -/
def adaptChainsUptoCard : Claim7 := { stood := { row := adaptChainsUptoRow, standIns := [], harness := (true, "50e1582605f5adda48684425b8549e6e38f1d8943c6eb8551d2394c5aed60ef4"), looks := true }, kinds := [], alts := [], laidByText := true, laidKinds := [.data, .data, .data, .data], laidTests := true, laidLooks := .later }
def AdaptChainsUptoCardSaid : Prop := Claim7.holds Tryz.pinned (.plain (OpenSpec.upto adaptChainsSpec)) adaptChainsUptoCard

/-- THE SECOND FORM's CARD OF 'verdigrislaw25.AdaptKnown'. -/
def adaptKnownUptoCard : Claim7 := { stood := { row := adaptKnownUptoRow, standIns := [], harness := (true, "50e1582605f5adda48684425b8549e6e38f1d8943c6eb8551d2394c5aed60ef4"), looks := true }, kinds := [], alts := [], laidByText := true, laidKinds := [.data, .data, .data, .data], laidTests := true, laidLooks := .later }
def AdaptKnownUptoCardSaid : Prop := Claim7.holds Tryz.pinned (.plain (OpenSpec.upto adaptKnownSpec)) adaptKnownUptoCard

/-- THE SECOND FORM's CARD OF 'verdigrislaw25.AdaptStays'. -/
def adaptStaysUptoCard : Claim7 := { stood := { row := adaptStaysUptoRow, standIns := [], harness := (true, "50e1582605f5adda48684425b8549e6e38f1d8943c6eb8551d2394c5aed60ef4"), looks := true }, kinds := [], alts := [], laidByText := true, laidKinds := [.data, .data, .data, .data], laidTests := true, laidLooks := .later }
def AdaptStaysUptoCardSaid : Prop := Claim7.holds Tryz.pinned (.plain (OpenSpec.upto adaptStaysSpec)) adaptStaysUptoCard
end Rows
end Go.Proofs.YtddblpggomphpaaGreatDoor
