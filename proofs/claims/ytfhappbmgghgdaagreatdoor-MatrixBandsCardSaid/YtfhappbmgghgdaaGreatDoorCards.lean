/-
  DERIVED. GIVEN WITH THE SEED: THE CARDS: each row of YtfhappbmgghgdaaGreatDoorRows.lean that lists a variable, with what it lists TIED to the program's text (the seventh form; the later family's looks); each row that meets fmt, with fmt's text TOLD by the authors' own Lean function (tested against real Go, not proved from fmt's source: count such statements apart). THE CARD IS WHAT COUNTS. Prove the row's statement (the work); the ties are given (YtfhappbmgghgdaaGreatDoorTie.lean); close each card by the builder's one call (the guide's Derived/Test/ToyasCard.lean, 'card_holds'). Laid BY PROGRAM, IN A SANDBOX (cutbox-door.mjs). By AI agents, Wed Nov 11 2026. No macro, syntax, notation, axiom, sorry.
-/
import Derived.Test.YtfhappbmgghgdaaGreatDoorRows
import GoSem.ClaimSeven
namespace Go.Proofs.YtfhappbmgghgdaaGreatDoor
namespace Rows

/-- THE TIED CARD OF 'verdigrislaw05.MatrixShapes'. -/
def matrixShapesCard : Claim7 := { stood := { row := matrixShapesRow, standIns := [], harness := (true, "884288cd6187cd34840763c0a1bac9146cd11b6622726d83bc9cd5a3870446e9"), looks := true }, kinds := [], alts := [], laidByText := true, laidKinds := [.data, .data, .data, .sentinel, .sentinel], laidTests := true, laidLooks := .later }
def MatrixShapesCardSaid : Prop := Claim7.holds Tryz.pinned (.plain (OpenSpec.ofChange matrixShapesSpec)) matrixShapesCard

/-- THE TIED CARD OF 'verdigrislaw05.MatrixProducts'. -/
def matrixProductsCard : Claim7 := { stood := { row := matrixProductsRow, standIns := [], harness := (true, "884288cd6187cd34840763c0a1bac9146cd11b6622726d83bc9cd5a3870446e9"), looks := true }, kinds := [], alts := [], laidByText := true, laidKinds := [.data, .data, .data, .sentinel, .sentinel], laidTests := true, laidLooks := .later }
def MatrixProductsCardSaid : Prop := Claim7.holds Tryz.pinned (.plain (OpenSpec.ofChange matrixProductsSpec)) matrixProductsCard

/-- THE TIED CARD OF 'verdigrislaw05.MatrixInverses'. -/
def matrixInversesCard : Claim7 := { stood := { row := matrixInversesRow, standIns := [], harness := (true, "884288cd6187cd34840763c0a1bac9146cd11b6622726d83bc9cd5a3870446e9"), looks := true }, kinds := [], alts := [], laidByText := true, laidKinds := [.data, .data, .data, .sentinel, .sentinel], laidTests := true, laidLooks := .later }
def MatrixInversesCardSaid : Prop := Claim7.holds Tryz.pinned (.plain (OpenSpec.ofChange matrixInversesSpec)) matrixInversesCard

/-- THE TIED CARD OF 'verdigrislaw05.MatrixBands'. -/
def matrixBandsCard : Claim7 := { stood := { row := matrixBandsRow, standIns := [], harness := (true, "884288cd6187cd34840763c0a1bac9146cd11b6622726d83bc9cd5a3870446e9"), looks := true }, kinds := [], alts := [], laidByText := true, laidKinds := [.data, .data, .data, .sentinel, .sentinel], laidTests := true, laidLooks := .later }
def MatrixBandsCardSaid : Prop := Claim7.holds Tryz.pinned (.plain (OpenSpec.ofChange matrixBandsSpec)) matrixBandsCard

/-- THE TIED CARD OF 'verdigrislaw05.MatrixUndoes'. -/
def matrixUndoesCard : Claim7 := { stood := { row := matrixUndoesRow, standIns := [], harness := (true, "884288cd6187cd34840763c0a1bac9146cd11b6622726d83bc9cd5a3870446e9"), looks := true }, kinds := [], alts := [], laidByText := true, laidKinds := [.data, .data, .data, .sentinel, .sentinel], laidTests := true, laidLooks := .later }
def MatrixUndoesCardSaid : Prop := Claim7.holds Tryz.pinned (.plain (OpenSpec.ofChange matrixUndoesSpec)) matrixUndoesCard

/-- THE TIED CARD OF 'verdigrislaw05.MatrixGroups'. -/
def matrixGroupsCard : Claim7 := { stood := { row := matrixGroupsRow, standIns := [], harness := (true, "884288cd6187cd34840763c0a1bac9146cd11b6622726d83bc9cd5a3870446e9"), looks := true }, kinds := [], alts := [], laidByText := true, laidKinds := [.data, .data, .data, .sentinel, .sentinel], laidTests := true, laidLooks := .later }
def MatrixGroupsCardSaid : Prop := Claim7.holds Tryz.pinned (.plain (OpenSpec.ofChange matrixGroupsSpec)) matrixGroupsCard

/-- THE TIED CARD OF 'verdigrislaw05.MatrixTurns'. -/
def matrixTurnsCard : Claim7 := { stood := { row := matrixTurnsRow, standIns := [], harness := (true, "884288cd6187cd34840763c0a1bac9146cd11b6622726d83bc9cd5a3870446e9"), looks := true }, kinds := [], alts := [], laidByText := true, laidKinds := [.data, .data, .data, .sentinel, .sentinel], laidTests := true, laidLooks := .later }
def MatrixTurnsCardSaid : Prop := Claim7.holds Tryz.pinned (.plain (OpenSpec.ofChange matrixTurnsSpec)) matrixTurnsCard

/-- THE TIED CARD OF 'verdigrislaw05.MatrixHolds'. -/
def matrixHoldsCard : Claim7 := { stood := { row := matrixHoldsRow, standIns := [], harness := (true, "884288cd6187cd34840763c0a1bac9146cd11b6622726d83bc9cd5a3870446e9"), looks := true }, kinds := [], alts := [], laidByText := true, laidKinds := [.data, .data, .data, .sentinel, .sentinel], laidTests := true, laidLooks := .later }
def MatrixHoldsCardSaid : Prop := Claim7.holds Tryz.pinned (.plain (OpenSpec.ofChange matrixHoldsSpec)) matrixHoldsCard

/-- THE TIED CARD OF 'verdigrislaw05.MatrixKnown'. -/
def matrixKnownCard : Claim7 := { stood := { row := matrixKnownRow, standIns := [], harness := (true, "884288cd6187cd34840763c0a1bac9146cd11b6622726d83bc9cd5a3870446e9"), looks := true }, kinds := [], alts := [], laidByText := true, laidKinds := [.data, .data, .data, .sentinel, .sentinel], laidTests := true, laidLooks := .later }
def MatrixKnownCardSaid : Prop := Claim7.holds Tryz.pinned (.plain (OpenSpec.ofChange matrixKnownSpec)) matrixKnownCard

/-- THE SECOND FORM's CARD OF 'verdigrislaw05.MatrixShapes'. -/
def matrixShapesUptoCard : Claim7 := { stood := { row := matrixShapesUptoRow, standIns := [], harness := (true, "884288cd6187cd34840763c0a1bac9146cd11b6622726d83bc9cd5a3870446e9"), looks := true }, kinds := [], alts := [], laidByText := true, laidKinds := [.data, .data, .data, .sentinel, .sentinel], laidTests := true, laidLooks := .later }
def MatrixShapesUptoCardSaid : Prop := Claim7.holds Tryz.pinned (.plain (OpenSpec.upto matrixShapesSpec)) matrixShapesUptoCard

/-- THE SECOND FORM's CARD OF 'verdigrislaw05.MatrixProducts'. -/
def matrixProductsUptoCard : Claim7 := { stood := { row := matrixProductsUptoRow, standIns := [], harness := (true, "884288cd6187cd34840763c0a1bac9146cd11b6622726d83bc9cd5a3870446e9"), looks := true }, kinds := [], alts := [], laidByText := true, laidKinds := [.data, .data, .data, .sentinel, .sentinel], laidTests := true, laidLooks := .later }
def MatrixProductsUptoCardSaid : Prop := Claim7.holds Tryz.pinned (.plain (OpenSpec.upto matrixProductsSpec)) matrixProductsUptoCard

/-- THE SECOND FORM's CARD OF 'verdigrislaw05.MatrixInverses'. -/
def matrixInversesUptoCard : Claim7 := { stood := { row := matrixInversesUptoRow, standIns := [], harness := (true, "884288cd6187cd34840763c0a1bac9146cd11b6622726d83bc9cd5a3870446e9"), looks := true }, kinds := [], alts := [], laidByText := true, laidKinds := [.data, .data, .data, .sentinel, .sentinel], laidTests := true, laidLooks := .later }
def MatrixInversesUptoCardSaid : Prop := Claim7.holds Tryz.pinned (.plain (OpenSpec.upto matrixInversesSpec)) matrixInversesUptoCard

/-- THE SECOND FORM's CARD OF 'verdigrislaw05.MatrixBands'. -/
def matrixBandsUptoCard : Claim7 := { stood := { row := matrixBandsUptoRow, standIns := [], harness := (true, "884288cd6187cd34840763c0a1bac9146cd11b6622726d83bc9cd5a3870446e9"), looks := true }, kinds := [], alts := [], laidByText := true, laidKinds := [.data, .data, .data, .sentinel, .sentinel], laidTests := true, laidLooks := .later }
def MatrixBandsUptoCardSaid : Prop := Claim7.holds Tryz.pinned (.plain (OpenSpec.upto matrixBandsSpec)) matrixBandsUptoCard

/-- THE SECOND FORM's CARD OF 'verdigrislaw05.MatrixUndoes'. -/
def matrixUndoesUptoCard : Claim7 := { stood := { row := matrixUndoesUptoRow, standIns := [], harness := (true, "884288cd6187cd34840763c0a1bac9146cd11b6622726d83bc9cd5a3870446e9"), looks := true }, kinds := [], alts := [], laidByText := true, laidKinds := [.data, .data, .data, .sentinel, .sentinel], laidTests := true, laidLooks := .later }
def MatrixUndoesUptoCardSaid : Prop := Claim7.holds Tryz.pinned (.plain (OpenSpec.upto matrixUndoesSpec)) matrixUndoesUptoCard

/-- THE SECOND FORM's CARD OF 'verdigrislaw05.MatrixGroups'. -/
def matrixGroupsUptoCard : Claim7 := { stood := { row := matrixGroupsUptoRow, standIns := [], harness := (true, "884288cd6187cd34840763c0a1bac9146cd11b6622726d83bc9cd5a3870446e9"), looks := true }, kinds := [], alts := [], laidByText := true, laidKinds := [.data, .data, .data, .sentinel, .sentinel], laidTests := true, laidLooks := .later }
def MatrixGroupsUptoCardSaid : Prop := Claim7.holds Tryz.pinned (.plain (OpenSpec.upto matrixGroupsSpec)) matrixGroupsUptoCard

/-- THE SECOND FORM's CARD OF 'verdigrislaw05.MatrixTurns'. -/
def matrixTurnsUptoCard : Claim7 := { stood := { row := matrixTurnsUptoRow, standIns := [], harness := (true, "884288cd6187cd34840763c0a1bac9146cd11b6622726d83bc9cd5a3870446e9"), looks := true }, kinds := [], alts := [], laidByText := true, laidKinds := [.data, .data, .data, .sentinel, .sentinel], laidTests := true, laidLooks := .later }
def MatrixTurnsUptoCardSaid : Prop := Claim7.holds Tryz.pinned (.plain (OpenSpec.upto matrixTurnsSpec)) matrixTurnsUptoCard

/-- THE SECOND FORM's CARD OF 'verdigrislaw05.MatrixHolds'. -/
def matrixHoldsUptoCard : Claim7 := { stood := { row := matrixHoldsUptoRow, standIns := [], harness := (true, "884288cd6187cd34840763c0a1bac9146cd11b6622726d83bc9cd5a3870446e9"), looks := true }, kinds := [], alts := [], laidByText := true, laidKinds := [.data, .data, .data, .sentinel, .sentinel], laidTests := true, laidLooks := .later }
def MatrixHoldsUptoCardSaid : Prop := Claim7.holds Tryz.pinned (.plain (OpenSpec.upto matrixHoldsSpec)) matrixHoldsUptoCard

/-- THE SECOND FORM's CARD OF 'verdigrislaw05.MatrixKnown'. -/
def matrixKnownUptoCard : Claim7 := { stood := { row := matrixKnownUptoRow, standIns := [], harness := (true, "884288cd6187cd34840763c0a1bac9146cd11b6622726d83bc9cd5a3870446e9"), looks := true }, kinds := [], alts := [], laidByText := true, laidKinds := [.data, .data, .data, .sentinel, .sentinel], laidTests := true, laidLooks := .later }
def MatrixKnownUptoCardSaid : Prop := Claim7.holds Tryz.pinned (.plain (OpenSpec.upto matrixKnownSpec)) matrixKnownUptoCard
end Rows
end Go.Proofs.YtfhappbmgghgdaaGreatDoor
