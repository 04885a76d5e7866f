/-
  DERIVED. GIVEN WITH THE SEED: THE CARDS: each row of YtpoecfpbafpokaaGreatDoorRows.lean that lists a variable, with what it lists TIED to the program's text (the seventh form; the later family's looks); each row that meets fmt, with fmt's text TOLD by the authors' own Lean function (tested against real Go, not proved from fmt's source: count such statements apart). THE CARD IS WHAT COUNTS. Prove the row's statement (the work); the ties are given (YtpoecfpbafpokaaGreatDoorTie.lean); close each card by the builder's one call (the guide's Derived/Test/ToyasCard.lean, 'card_holds'). Laid BY PROGRAM, IN A SANDBOX (cutbox-door.mjs). By AI agents, Wed Nov 11 2026. No macro, syntax, notation, axiom, sorry.
-/
import Derived.Test.YtpoecfpbafpokaaGreatDoorRows
import GoSem.ClaimSeven
namespace Go.Proofs.YtpoecfpbafpokaaGreatDoor
namespace Rows

/-- THE TIED CARD OF 'verdigrislaw04.PowerBands'. -/
def powerBandsCard : Claim7 := { stood := { row := powerBandsRow, standIns := [], harness := (true, "bc1bf536eb06bf18bc4c231e9aa64150270bda42f4b23e044d7bfc9ab11b0e23"), looks := true }, kinds := [], alts := [], laidByText := true, laidKinds := [.data, .data, .data, .sentinel, .sentinel], laidTests := true, laidLooks := .later }
def PowerBandsCardSaid : Prop := Claim7.holds Tryz.pinned (.plain (OpenSpec.ofChange powerBandsSpec)) powerBandsCard

/-- THE TIED CARD OF 'verdigrislaw04.PowerExacts'. -/
def powerExactsCard : Claim7 := { stood := { row := powerExactsRow, standIns := [], harness := (true, "bc1bf536eb06bf18bc4c231e9aa64150270bda42f4b23e044d7bfc9ab11b0e23"), looks := true }, kinds := [], alts := [], laidByText := true, laidKinds := [.data, .data, .data, .sentinel, .sentinel], laidTests := true, laidLooks := .later }
def PowerExactsCardSaid : Prop := Claim7.holds Tryz.pinned (.plain (OpenSpec.ofChange powerExactsSpec)) powerExactsCard

/-- THE TIED CARD OF 'verdigrislaw04.PowerNorms'. -/
def powerNormsCard : Claim7 := { stood := { row := powerNormsRow, standIns := [], harness := (true, "bc1bf536eb06bf18bc4c231e9aa64150270bda42f4b23e044d7bfc9ab11b0e23"), looks := true }, kinds := [], alts := [], laidByText := true, laidKinds := [.data, .data, .data, .sentinel, .sentinel], laidTests := true, laidLooks := .later }
def PowerNormsCardSaid : Prop := Claim7.holds Tryz.pinned (.plain (OpenSpec.ofChange powerNormsSpec)) powerNormsCard

/-- THE TIED CARD OF 'verdigrislaw04.PowerReturns'. -/
def powerReturnsCard : Claim7 := { stood := { row := powerReturnsRow, standIns := [], harness := (true, "bc1bf536eb06bf18bc4c231e9aa64150270bda42f4b23e044d7bfc9ab11b0e23"), looks := true }, kinds := [], alts := [], laidByText := true, laidKinds := [.data, .data, .data, .sentinel, .sentinel], laidTests := true, laidLooks := .later }
def PowerReturnsCardSaid : Prop := Claim7.holds Tryz.pinned (.plain (OpenSpec.ofChange powerReturnsSpec)) powerReturnsCard

/-- THE TIED CARD OF 'verdigrislaw04.PowerKnown'. -/
def powerKnownCard : Claim7 := { stood := { row := powerKnownRow, standIns := [], harness := (true, "bc1bf536eb06bf18bc4c231e9aa64150270bda42f4b23e044d7bfc9ab11b0e23"), looks := true }, kinds := [], alts := [], laidByText := true, laidKinds := [.data, .data, .data, .sentinel, .sentinel], laidTests := true, laidLooks := .later }
def PowerKnownCardSaid : Prop := Claim7.holds Tryz.pinned (.plain (OpenSpec.ofChange powerKnownSpec)) powerKnownCard

/-- THE TIED CARD OF 'verdigrislaw04.PowerProducts'. -/
def powerProductsCard : Claim7 := { stood := { row := powerProductsRow, standIns := [], harness := (true, "bc1bf536eb06bf18bc4c231e9aa64150270bda42f4b23e044d7bfc9ab11b0e23"), looks := true }, kinds := [], alts := [], laidByText := true, laidKinds := [.data, .data, .data, .sentinel, .sentinel], laidTests := true, laidLooks := .later }
def PowerProductsCardSaid : Prop := Claim7.holds Tryz.pinned (.plain (OpenSpec.ofChange powerProductsSpec)) powerProductsCard

/-- THE TIED CARD OF 'verdigrislaw04.PowerLengths'. -/
def powerLengthsCard : Claim7 := { stood := { row := powerLengthsRow, standIns := [], harness := (true, "bc1bf536eb06bf18bc4c231e9aa64150270bda42f4b23e044d7bfc9ab11b0e23"), looks := true }, kinds := [], alts := [], laidByText := true, laidKinds := [.data, .data, .data, .sentinel, .sentinel], laidTests := true, laidLooks := .later }
def PowerLengthsCardSaid : Prop := Claim7.holds Tryz.pinned (.plain (OpenSpec.ofChange powerLengthsSpec)) powerLengthsCard

/-- THE TIED CARD OF 'verdigrislaw04.PowerEnds'. -/
def powerEndsCard : Claim7 := { stood := { row := powerEndsRow, standIns := [], harness := (true, "bc1bf536eb06bf18bc4c231e9aa64150270bda42f4b23e044d7bfc9ab11b0e23"), looks := true }, kinds := [], alts := [], laidByText := true, laidKinds := [.data, .data, .data, .sentinel, .sentinel], laidTests := true, laidLooks := .later }
def PowerEndsCardSaid : Prop := Claim7.holds Tryz.pinned (.plain (OpenSpec.ofChange powerEndsSpec)) powerEndsCard

/-- THE SECOND FORM's CARD OF 'verdigrislaw04.PowerBands'. -/
def powerBandsUptoCard : Claim7 := { stood := { row := powerBandsUptoRow, standIns := [], harness := (true, "bc1bf536eb06bf18bc4c231e9aa64150270bda42f4b23e044d7bfc9ab11b0e23"), looks := true }, kinds := [], alts := [], laidByText := true, laidKinds := [.data, .data, .data, .sentinel, .sentinel], laidTests := true, laidLooks := .later }
def PowerBandsUptoCardSaid : Prop := Claim7.holds Tryz.pinned (.plain (OpenSpec.upto powerBandsSpec)) powerBandsUptoCard

/-- THE SECOND FORM's CARD OF 'verdigrislaw04.PowerExacts'. -/
def powerExactsUptoCard : Claim7 := { stood := { row := powerExactsUptoRow, standIns := [], harness := (true, "bc1bf536eb06bf18bc4c231e9aa64150270bda42f4b23e044d7bfc9ab11b0e23"), looks := true }, kinds := [], alts := [], laidByText := true, laidKinds := [.data, .data, .data, .sentinel, .sentinel], laidTests := true, laidLooks := .later }
def PowerExactsUptoCardSaid : Prop := Claim7.holds Tryz.pinned (.plain (OpenSpec.upto powerExactsSpec)) powerExactsUptoCard

/-- THE SECOND FORM's CARD OF 'verdigrislaw04.PowerNorms'. -/
def powerNormsUptoCard : Claim7 := { stood := { row := powerNormsUptoRow, standIns := [], harness := (true, "bc1bf536eb06bf18bc4c231e9aa64150270bda42f4b23e044d7bfc9ab11b0e23"), looks := true }, kinds := [], alts := [], laidByText := true, laidKinds := [.data, .data, .data, .sentinel, .sentinel], laidTests := true, laidLooks := .later }
def PowerNormsUptoCardSaid : Prop := Claim7.holds Tryz.pinned (.plain (OpenSpec.upto powerNormsSpec)) powerNormsUptoCard

/-- THE SECOND FORM's CARD OF 'verdigrislaw04.PowerReturns'. -/
def powerReturnsUptoCard : Claim7 := { stood := { row := powerReturnsUptoRow, standIns := [], harness := (true, "bc1bf536eb06bf18bc4c231e9aa64150270bda42f4b23e044d7bfc9ab11b0e23"), looks := true }, kinds := [], alts := [], laidByText := true, laidKinds := [.data, .data, .data, .sentinel, .sentinel], laidTests := true, laidLooks := .later }
def PowerReturnsUptoCardSaid : Prop := Claim7.holds Tryz.pinned (.plain (OpenSpec.upto powerReturnsSpec)) powerReturnsUptoCard

/-- THE SECOND FORM's CARD OF 'verdigrislaw04.PowerKnown'. -/
def powerKnownUptoCard : Claim7 := { stood := { row := powerKnownUptoRow, standIns := [], harness := (true, "bc1bf536eb06bf18bc4c231e9aa64150270bda42f4b23e044d7bfc9ab11b0e23"), looks := true }, kinds := [], alts := [], laidByText := true, laidKinds := [.data, .data, .data, .sentinel, .sentinel], laidTests := true, laidLooks := .later }
def PowerKnownUptoCardSaid : Prop := Claim7.holds Tryz.pinned (.plain (OpenSpec.upto powerKnownSpec)) powerKnownUptoCard

/-- THE SECOND FORM's CARD OF 'verdigrislaw04.PowerProducts'. -/
def powerProductsUptoCard : Claim7 := { stood := { row := powerProductsUptoRow, standIns := [], harness := (true, "bc1bf536eb06bf18bc4c231e9aa64150270bda42f4b23e044d7bfc9ab11b0e23"), looks := true }, kinds := [], alts := [], laidByText := true, laidKinds := [.data, .data, .data, .sentinel, .sentinel], laidTests := true, laidLooks := .later }
def PowerProductsUptoCardSaid : Prop := Claim7.holds Tryz.pinned (.plain (OpenSpec.upto powerProductsSpec)) powerProductsUptoCard

/-- THE SECOND FORM's CARD OF 'verdigrislaw04.PowerLengths'. -/
def powerLengthsUptoCard : Claim7 := { stood := { row := powerLengthsUptoRow, standIns := [], harness := (true, "bc1bf536eb06bf18bc4c231e9aa64150270bda42f4b23e044d7bfc9ab11b0e23"), looks := true }, kinds := [], alts := [], laidByText := true, laidKinds := [.data, .data, .data, .sentinel, .sentinel], laidTests := true, laidLooks := .later }
def PowerLengthsUptoCardSaid : Prop := Claim7.holds Tryz.pinned (.plain (OpenSpec.upto powerLengthsSpec)) powerLengthsUptoCard

/-- THE SECOND FORM's CARD OF 'verdigrislaw04.PowerEnds'. -/
def powerEndsUptoCard : Claim7 := { stood := { row := powerEndsUptoRow, standIns := [], harness := (true, "bc1bf536eb06bf18bc4c231e9aa64150270bda42f4b23e044d7bfc9ab11b0e23"), looks := true }, kinds := [], alts := [], laidByText := true, laidKinds := [.data, .data, .data, .sentinel, .sentinel], laidTests := true, laidLooks := .later }
def PowerEndsUptoCardSaid : Prop := Claim7.holds Tryz.pinned (.plain (OpenSpec.upto powerEndsSpec)) powerEndsUptoCard
end Rows
end Go.Proofs.YtpoecfpbafpokaaGreatDoor
