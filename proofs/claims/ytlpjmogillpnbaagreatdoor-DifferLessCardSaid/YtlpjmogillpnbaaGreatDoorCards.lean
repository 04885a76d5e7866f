/-
  DERIVED. GIVEN WITH THE SEED: THE CARDS: each row of YtlpjmogillpnbaaGreatDoorRows.lean that lists a variable, with what it lists TIED to the program's text (the seventh form; the later family's looks); each row that meets fmt, with fmt's text TOLD by the authors' own Lean function (tested against real Go, not proved from fmt's source: count such statements apart). THE CARD IS WHAT COUNTS. Prove the row's statement (the work); the ties are given (YtlpjmogillpnbaaGreatDoorTie.lean); close each card by the builder's one call (the guide's Derived/Test/ToyasCard.lean, 'card_holds'). Laid BY PROGRAM, IN A SANDBOX (cutbox-door.mjs). By AI agents, Wed Nov 11 2026. No macro, syntax, notation, axiom, sorry.
-/
import Derived.Test.YtlpjmogillpnbaaGreatDoorRows
import GoSem.ClaimSeven
namespace Go.Proofs.YtlpjmogillpnbaaGreatDoor
namespace Rows

/-- THE TIED CARD OF 'verdigrislaw27.DifferMetric'. -/
def differMetricCard : Claim7 := { stood := { row := differMetricRow, standIns := [], harness := (true, "586144e0bc20ab5cb0de2a6e69f0f3b07196fde3b0319ff92b46ca6486b03662"), looks := true }, kinds := [], alts := [], laidByText := true, laidKinds := [.data, .data, .data, .data, .sentinel, .sentinel, .pinned], laidTests := true, laidLooks := .later }
def DifferMetricCardSaid : Prop := Claim7.holds Tryz.pinned (.plain (OpenSpec.ofChange differMetricSpec)) differMetricCard

/-- THE TIED CARD OF 'verdigrislaw27.DifferLess'. -/
def differLessCard : Claim7 := { stood := { row := differLessRow, standIns := [], harness := (true, "586144e0bc20ab5cb0de2a6e69f0f3b07196fde3b0319ff92b46ca6486b03662"), looks := true }, kinds := [], alts := [], laidByText := true, laidKinds := [.data, .data, .data, .data, .sentinel, .sentinel, .pinned], laidTests := true, laidLooks := .later }
def DifferLessCardSaid : Prop := Claim7.holds Tryz.pinned (.plain (OpenSpec.ofChange differLessSpec)) differLessCard

/-- THE TIED CARD OF 'verdigrislaw27.DifferTells'. -/
def differTellsCard : Claim7 := { stood := { row := differTellsRow, standIns := [], harness := (true, "586144e0bc20ab5cb0de2a6e69f0f3b07196fde3b0319ff92b46ca6486b03662"), looks := true }, kinds := [], alts := [], laidByText := true, laidKinds := [.data, .data, .data, .data, .sentinel, .sentinel, .pinned], laidTests := true, laidLooks := .later }
def DifferTellsCardSaid : Prop := Claim7.holds Tryz.pinned (.plain (OpenSpec.ofChange differTellsSpec)) differTellsCard

/-- THE TIED CARD OF 'verdigrislaw27.DifferKnown'. -/
def differKnownCard : Claim7 := { stood := { row := differKnownRow, standIns := [], harness := (true, "586144e0bc20ab5cb0de2a6e69f0f3b07196fde3b0319ff92b46ca6486b03662"), looks := true }, kinds := [], alts := [], laidByText := true, laidKinds := [.data, .data, .data, .data, .sentinel, .sentinel, .pinned], laidTests := true, laidLooks := .later }
def DifferKnownCardSaid : Prop := Claim7.holds Tryz.pinned (.plain (OpenSpec.ofChange differKnownSpec)) differKnownCard

/-- THE TIED CARD OF 'verdigrislaw27.DifferGreys'. -/
def differGreysCard : Claim7 := { stood := { row := differGreysRow, standIns := [], harness := (true, "586144e0bc20ab5cb0de2a6e69f0f3b07196fde3b0319ff92b46ca6486b03662"), looks := true }, kinds := [], alts := [], laidByText := true, laidKinds := [.data, .data, .data, .data, .sentinel, .sentinel, .pinned], laidTests := true, laidLooks := .later }
def DifferGreysCardSaid : Prop := Claim7.holds Tryz.pinned (.plain (OpenSpec.ofChange differGreysSpec)) differGreysCard

/-- THE SECOND FORM's CARD OF 'verdigrislaw27.DifferMetric'. -/
def differMetricUptoCard : Claim7 := { stood := { row := differMetricUptoRow, standIns := [], harness := (true, "586144e0bc20ab5cb0de2a6e69f0f3b07196fde3b0319ff92b46ca6486b03662"), looks := true }, kinds := [], alts := [], laidByText := true, laidKinds := [.data, .data, .data, .data, .sentinel, .sentinel, .pinned], laidTests := true, laidLooks := .later }
def DifferMetricUptoCardSaid : Prop := Claim7.holds Tryz.pinned (.plain (OpenSpec.upto differMetricSpec)) differMetricUptoCard

/-- THE SECOND FORM's CARD OF 'verdigrislaw27.DifferLess'. -/
def differLessUptoCard : Claim7 := { stood := { row := differLessUptoRow, standIns := [], harness := (true, "586144e0bc20ab5cb0de2a6e69f0f3b07196fde3b0319ff92b46ca6486b03662"), looks := true }, kinds := [], alts := [], laidByText := true, laidKinds := [.data, .data, .data, .data, .sentinel, .sentinel, .pinned], laidTests := true, laidLooks := .later }
def DifferLessUptoCardSaid : Prop := Claim7.holds Tryz.pinned (.plain (OpenSpec.upto differLessSpec)) differLessUptoCard

/-- THE SECOND FORM's CARD OF 'verdigrislaw27.DifferTells'. -/
def differTellsUptoCard : Claim7 := { stood := { row := differTellsUptoRow, standIns := [], harness := (true, "586144e0bc20ab5cb0de2a6e69f0f3b07196fde3b0319ff92b46ca6486b03662"), looks := true }, kinds := [], alts := [], laidByText := true, laidKinds := [.data, .data, .data, .data, .sentinel, .sentinel, .pinned], laidTests := true, laidLooks := .later }
def DifferTellsUptoCardSaid : Prop := Claim7.holds Tryz.pinned (.plain (OpenSpec.upto differTellsSpec)) differTellsUptoCard

/-- THE SECOND FORM's CARD OF 'verdigrislaw27.DifferKnown'. -/
def differKnownUptoCard : Claim7 := { stood := { row := differKnownUptoRow, standIns := [], harness := (true, "586144e0bc20ab5cb0de2a6e69f0f3b07196fde3b0319ff92b46ca6486b03662"), looks := true }, kinds := [], alts := [], laidByText := true, laidKinds := [.data, .data, .data, .data, .sentinel, .sentinel, .pinned], laidTests := true, laidLooks := .later }
def DifferKnownUptoCardSaid : Prop := Claim7.holds Tryz.pinned (.plain (OpenSpec.upto differKnownSpec)) differKnownUptoCard

/-- THE SECOND FORM's CARD OF 'verdigrislaw27.DifferGreys'. -/
def differGreysUptoCard : Claim7 := { stood := { row := differGreysUptoRow, standIns := [], harness := (true, "586144e0bc20ab5cb0de2a6e69f0f3b07196fde3b0319ff92b46ca6486b03662"), looks := true }, kinds := [], alts := [], laidByText := true, laidKinds := [.data, .data, .data, .data, .sentinel, .sentinel, .pinned], laidTests := true, laidLooks := .later }
def DifferGreysUptoCardSaid : Prop := Claim7.holds Tryz.pinned (.plain (OpenSpec.upto differGreysSpec)) differGreysUptoCard
end Rows
end Go.Proofs.YtlpjmogillpnbaaGreatDoor
