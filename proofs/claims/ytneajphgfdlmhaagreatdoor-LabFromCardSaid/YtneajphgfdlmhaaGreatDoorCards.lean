/-
  DERIVED. GIVEN WITH THE SEED: THE CARDS: each row of YtneajphgfdlmhaaGreatDoorRows.lean that lists a variable, with what it lists TIED to the program's text (the seventh form; the later family's looks); each row that meets fmt, with fmt's text TOLD by the authors' own Lean function (tested against real Go, not proved from fmt's source: count such statements apart). THE CARD IS WHAT COUNTS. Prove the row's statement (the work); the ties are given (YtneajphgfdlmhaaGreatDoorTie.lean); close each card by the builder's one call (the guide's Derived/Test/ToyasCard.lean, 'card_holds'). Laid BY PROGRAM, IN A SANDBOX (cutbox-door.mjs). By AI agents, Wed Nov 11 2026. No macro, syntax, notation, axiom, sorry.
-/
import Derived.Test.YtneajphgfdlmhaaGreatDoorRows
import GoSem.ClaimSeven
namespace Go.Proofs.YtneajphgfdlmhaaGreatDoor
namespace Rows

/-- THE TIED CARD OF 'verdigrislaw24.LabTo'. -/
def labToCard : Claim7 := { stood := { row := labToRow, standIns := [], harness := (true, "510a37011c72d009ca6c65c1347820d8e80e7bddb0b1d0a1aab1c68e8a5eb302"), looks := true }, kinds := [], alts := [], laidByText := true, laidKinds := [.data, .data, .data, .sentinel, .sentinel], laidTests := true, laidLooks := .later }
def LabToCardSaid : Prop := Claim7.holds Tryz.pinned (.plain (OpenSpec.ofChange labToSpec)) labToCard

/-- THE TIED CARD OF 'verdigrislaw24.LabGrey'. -/
def labGreyCard : Claim7 := { stood := { row := labGreyRow, standIns := [], harness := (true, "510a37011c72d009ca6c65c1347820d8e80e7bddb0b1d0a1aab1c68e8a5eb302"), looks := true }, kinds := [], alts := [], laidByText := true, laidKinds := [.data, .data, .data, .sentinel, .sentinel], laidTests := true, laidLooks := .later }
def LabGreyCardSaid : Prop := Claim7.holds Tryz.pinned (.plain (OpenSpec.ofChange labGreySpec)) labGreyCard

/-- THE TIED CARD OF 'verdigrislaw24.LabPolars'. -/
def labPolarsCard : Claim7 := { stood := { row := labPolarsRow, standIns := [], harness := (true, "510a37011c72d009ca6c65c1347820d8e80e7bddb0b1d0a1aab1c68e8a5eb302"), looks := true }, kinds := [], alts := [], laidByText := true, laidKinds := [.data, .data, .data, .sentinel, .sentinel], laidTests := true, laidLooks := .later }
def LabPolarsCardSaid : Prop := Claim7.holds Tryz.pinned (.plain (OpenSpec.ofChange labPolarsSpec)) labPolarsCard

/-- THE TIED CARD OF 'verdigrislaw24.LabHues'. -/
def labHuesCard : Claim7 := { stood := { row := labHuesRow, standIns := [], harness := (true, "510a37011c72d009ca6c65c1347820d8e80e7bddb0b1d0a1aab1c68e8a5eb302"), looks := true }, kinds := [], alts := [], laidByText := true, laidKinds := [.data, .data, .data, .sentinel, .sentinel], laidTests := true, laidLooks := .later }
def LabHuesCardSaid : Prop := Claim7.holds Tryz.pinned (.plain (OpenSpec.ofChange labHuesSpec)) labHuesCard

/-- THE TIED CARD OF 'verdigrislaw24.LabFrom'. -/
def labFromCard : Claim7 := { stood := { row := labFromRow, standIns := [], harness := (true, "510a37011c72d009ca6c65c1347820d8e80e7bddb0b1d0a1aab1c68e8a5eb302"), looks := true }, kinds := [], alts := [], laidByText := true, laidKinds := [.data, .data, .data, .sentinel, .sentinel], laidTests := true, laidLooks := .later }
def LabFromCardSaid : Prop := Claim7.holds Tryz.pinned (.plain (OpenSpec.ofChange labFromSpec)) labFromCard

/-- THE TIED CARD OF 'verdigrislaw24.LabBack'. -/
def labBackCard : Claim7 := { stood := { row := labBackRow, standIns := [], harness := (true, "510a37011c72d009ca6c65c1347820d8e80e7bddb0b1d0a1aab1c68e8a5eb302"), looks := true }, kinds := [], alts := [], laidByText := true, laidKinds := [.data, .data, .data, .sentinel, .sentinel], laidTests := true, laidLooks := .later }
def LabBackCardSaid : Prop := Claim7.holds Tryz.pinned (.plain (OpenSpec.ofChange labBackSpec)) labBackCard

/-- THE TIED CARD OF 'verdigrislaw24.LabKnown'. -/
def labKnownCard : Claim7 := { stood := { row := labKnownRow, standIns := [], harness := (true, "510a37011c72d009ca6c65c1347820d8e80e7bddb0b1d0a1aab1c68e8a5eb302"), looks := true }, kinds := [], alts := [], laidByText := true, laidKinds := [.data, .data, .data, .sentinel, .sentinel], laidTests := true, laidLooks := .later }
def LabKnownCardSaid : Prop := Claim7.holds Tryz.pinned (.plain (OpenSpec.ofChange labKnownSpec)) labKnownCard

/-- THE SECOND FORM's CARD OF 'verdigrislaw24.LabTo'. -/
def labToUptoCard : Claim7 := { stood := { row := labToUptoRow, standIns := [], harness := (true, "510a37011c72d009ca6c65c1347820d8e80e7bddb0b1d0a1aab1c68e8a5eb302"), looks := true }, kinds := [], alts := [], laidByText := true, laidKinds := [.data, .data, .data, .sentinel, .sentinel], laidTests := true, laidLooks := .later }
def LabToUptoCardSaid : Prop := Claim7.holds Tryz.pinned (.plain (OpenSpec.upto labToSpec)) labToUptoCard

/-- THE SECOND FORM's CARD OF 'verdigrislaw24.LabGrey'. -/
def labGreyUptoCard : Claim7 := { stood := { row := labGreyUptoRow, standIns := [], harness := (true, "510a37011c72d009ca6c65c1347820d8e80e7bddb0b1d0a1aab1c68e8a5eb302"), looks := true }, kinds := [], alts := [], laidByText := true, laidKinds := [.data, .data, .data, .sentinel, .sentinel], laidTests := true, laidLooks := .later }
def LabGreyUptoCardSaid : Prop := Claim7.holds Tryz.pinned (.plain (OpenSpec.upto labGreySpec)) labGreyUptoCard

/-- THE SECOND FORM's CARD OF 'verdigrislaw24.LabPolars'. -/
def labPolarsUptoCard : Claim7 := { stood := { row := labPolarsUptoRow, standIns := [], harness := (true, "510a37011c72d009ca6c65c1347820d8e80e7bddb0b1d0a1aab1c68e8a5eb302"), looks := true }, kinds := [], alts := [], laidByText := true, laidKinds := [.data, .data, .data, .sentinel, .sentinel], laidTests := true, laidLooks := .later }
def LabPolarsUptoCardSaid : Prop := Claim7.holds Tryz.pinned (.plain (OpenSpec.upto labPolarsSpec)) labPolarsUptoCard

/-- THE SECOND FORM's CARD OF 'verdigrislaw24.LabHues'. -/
def labHuesUptoCard : Claim7 := { stood := { row := labHuesUptoRow, standIns := [], harness := (true, "510a37011c72d009ca6c65c1347820d8e80e7bddb0b1d0a1aab1c68e8a5eb302"), looks := true }, kinds := [], alts := [], laidByText := true, laidKinds := [.data, .data, .data, .sentinel, .sentinel], laidTests := true, laidLooks := .later }
def LabHuesUptoCardSaid : Prop := Claim7.holds Tryz.pinned (.plain (OpenSpec.upto labHuesSpec)) labHuesUptoCard

/-- THE SECOND FORM's CARD OF 'verdigrislaw24.LabFrom'. -/
def labFromUptoCard : Claim7 := { stood := { row := labFromUptoRow, standIns := [], harness := (true, "510a37011c72d009ca6c65c1347820d8e80e7bddb0b1d0a1aab1c68e8a5eb302"), looks := true }, kinds := [], alts := [], laidByText := true, laidKinds := [.data, .data, .data, .sentinel, .sentinel], laidTests := true, laidLooks := .later }
def LabFromUptoCardSaid : Prop := Claim7.holds Tryz.pinned (.plain (OpenSpec.upto labFromSpec)) labFromUptoCard

/-- THE SECOND FORM's CARD OF 'verdigrislaw24.LabBack'. -/
def labBackUptoCard : Claim7 := { stood := { row := labBackUptoRow, standIns := [], harness := (true, "510a37011c72d009ca6c65c1347820d8e80e7bddb0b1d0a1aab1c68e8a5eb302"), looks := true }, kinds := [], alts := [], laidByText := true, laidKinds := [.data, .data, .data, .sentinel, .sentinel], laidTests := true, laidLooks := .later }
def LabBackUptoCardSaid : Prop := Claim7.holds Tryz.pinned (.plain (OpenSpec.upto labBackSpec)) labBackUptoCard

/-- THE SECOND FORM's CARD OF 'verdigrislaw24.LabKnown'. -/
def labKnownUptoCard : Claim7 := { stood := { row := labKnownUptoRow, standIns := [], harness := (true, "510a37011c72d009ca6c65c1347820d8e80e7bddb0b1d0a1aab1c68e8a5eb302"), looks := true }, kinds := [], alts := [], laidByText := true, laidKinds := [.data, .data, .data, .sentinel, .sentinel], laidTests := true, laidLooks := .later }
def LabKnownUptoCardSaid : Prop := Claim7.holds Tryz.pinned (.plain (OpenSpec.upto labKnownSpec)) labKnownUptoCard
end Rows
end Go.Proofs.YtneajphgfdlmhaaGreatDoor
