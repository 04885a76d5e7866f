/-
  NARROWER THAN 'FOR EVERY INPUT', by the rows' own cells (each row's printed sentence says how): ViewCompressed: laid · ViewLights: laid · ViewSurrounds: laid · ViewKnown: laid.
  DERIVED. THE GIVEN ROWS OF THIS SEAT. 4 by the template 'for every input the law returns true; each argument reads behind the call as it read before'; 0 by the template 'total and deterministic' (their statements: YtbngfhgoeoncmaaGreatDoorTotals.lean).
  GIVEN WITH THE SEED: the statements are not yours to turn. If you find one false, say at which input.
  Laid BY PROGRAM, IN A SANDBOX (cutbox-rows.mjs): the forced cells as the released guide's own fill.sh prints them over the translation f062e3336121d5af… (all of the seat's roots in one cut). By AI agents, Wed Nov 11 2026. No macro, syntax, notation, axiom, sorry.
-/
import Derived.Test.YtbngfhgoeoncmaaGreatDoorChecked
import GoSem.Claim
import GoSem.ClaimJoined
import GoSem.ClaimMapViews
import Derived.JoinedTies
import Derived.KernelRfl
namespace Go.Proofs.YtbngfhgoeoncmaaGreatDoor
/- THE CELL 'sum', in the pinned program and in every row, IS THE sha256 OF THE DUMP (.gsa) THAT YtbngfhgoeoncmaaGreatDoorProg.lean LOADS. Nothing in Lean hashes anything: it is a label: what it is worth is what the hold of that sum in a sandbox is worth. -/
noncomputable def Tryz.pinned : Pinned := { name := "ytbngfhgoeoncmaagreatdoor", sum := "f062e3336121d5afe8adadaa697c54c1700ad2c01ca8efdaedddca018054a795", checked := Tryz.checked }
namespace Rows
def none {H : Type} : Left H := { results := [], args := [] }

/- WHAT THE LISTED PACKAGE-LEVEL VARIABLES READ AS WHEN THE CALL BEGINS. Each datum BY PROGRAM (the guide's laid-datum.mjs) off the statement by which the dump's own 'gosem.cut.vars' lays the variable. In a bare row this is a premise. The card (YtbngfhgoeoncmaaGreatDoorCards.lean) ties it to the program's text. -/
def laid_math_bits_deBruijn32tab {H : Type} : DataW H := .agg [.lit (.int .u8 0), .lit (.int .u8 1), .lit (.int .u8 28), .lit (.int .u8 2), .lit (.int .u8 29), .lit (.int .u8 14), .lit (.int .u8 24), .lit (.int .u8 3), .lit (.int .u8 30), .lit (.int .u8 22), .lit (.int .u8 20), .lit (.int .u8 15), .lit (.int .u8 25), .lit (.int .u8 17), .lit (.int .u8 4), .lit (.int .u8 8), .lit (.int .u8 31), .lit (.int .u8 27), .lit (.int .u8 13), .lit (.int .u8 23), .lit (.int .u8 21), .lit (.int .u8 19), .lit (.int .u8 16), .lit (.int .u8 7), .lit (.int .u8 26), .lit (.int .u8 12), .lit (.int .u8 18), .lit (.int .u8 6), .lit (.int .u8 11), .lit (.int .u8 5), .lit (.int .u8 10), .lit (.int .u8 9)]
def laid_math_bits_deBruijn64tab {H : Type} : DataW H := .agg [.lit (.int .u8 0), .lit (.int .u8 1), .lit (.int .u8 56), .lit (.int .u8 2), .lit (.int .u8 57), .lit (.int .u8 49), .lit (.int .u8 28), .lit (.int .u8 3), .lit (.int .u8 61), .lit (.int .u8 58), .lit (.int .u8 42), .lit (.int .u8 50), .lit (.int .u8 38), .lit (.int .u8 29), .lit (.int .u8 17), .lit (.int .u8 4), .lit (.int .u8 62), .lit (.int .u8 47), .lit (.int .u8 59), .lit (.int .u8 36), .lit (.int .u8 45), .lit (.int .u8 43), .lit (.int .u8 51), .lit (.int .u8 22), .lit (.int .u8 53), .lit (.int .u8 39), .lit (.int .u8 33), .lit (.int .u8 30), .lit (.int .u8 24), .lit (.int .u8 18), .lit (.int .u8 12), .lit (.int .u8 5), .lit (.int .u8 63), .lit (.int .u8 55), .lit (.int .u8 48), .lit (.int .u8 27), .lit (.int .u8 60), .lit (.int .u8 41), .lit (.int .u8 37), .lit (.int .u8 16), .lit (.int .u8 46), .lit (.int .u8 35), .lit (.int .u8 44), .lit (.int .u8 21), .lit (.int .u8 52), .lit (.int .u8 32), .lit (.int .u8 23), .lit (.int .u8 11), .lit (.int .u8 54), .lit (.int .u8 26), .lit (.int .u8 40), .lit (.int .u8 15), .lit (.int .u8 34), .lit (.int .u8 20), .lit (.int .u8 31), .lit (.int .u8 10), .lit (.int .u8 25), .lit (.int .u8 14), .lit (.int .u8 19), .lit (.int .u8 9), .lit (.int .u8 13), .lit (.int .u8 8), .lit (.int .u8 7), .lit (.int .u8 6)]
def laid_internal_strconv_uint64pow10 {H : Type} : DataW H := .agg [.lit (.int .u64 1), .lit (.int .u64 10), .lit (.int .u64 100), .lit (.int .u64 1000), .lit (.int .u64 10000), .lit (.int .u64 100000), .lit (.int .u64 1000000), .lit (.int .u64 10000000), .lit (.int .u64 100000000), .lit (.int .u64 1000000000), .lit (.int .u64 10000000000), .lit (.int .u64 100000000000), .lit (.int .u64 1000000000000), .lit (.int .u64 10000000000000), .lit (.int .u64 100000000000000), .lit (.int .u64 1000000000000000), .lit (.int .u64 10000000000000000), .lit (.int .u64 100000000000000000), .lit (.int .u64 1000000000000000000), .lit (.int .u64 10000000000000000000)]
def laid_strconv_ErrRange {H : Type} : DataW H := .iface "*errors.errorString" (.ptr (.agg [.lit (.string [118, 97, 108, 117, 101, 32, 111, 117, 116, 32, 111, 102, 32, 114, 97, 110, 103, 101])]))
def laid_strconv_ErrSyntax {H : Type} : DataW H := .iface "*errors.errorString" (.ptr (.agg [.lit (.string [105, 110, 118, 97, 108, 105, 100, 32, 115, 121, 110, 116, 97, 120])]))
def laid_verdigris_adapt_cones {H : Type} : DataW H := .agg [.agg [.agg [.lit (.int .i64 100000), .lit (.int .i64 0), .lit (.int .i64 0)], .agg [.lit (.int .i64 0), .lit (.int .i64 100000), .lit (.int .i64 0)], .agg [.lit (.int .i64 0), .lit (.int .i64 0), .lit (.int .i64 100000)]], .agg [.agg [.lit (.int .i64 40024), .lit (.int .i64 70760), .lit (.int .i64 (-8081))], .agg [.lit (.int .i64 (-22630)), .lit (.int .i64 116532), .lit (.int .i64 4570)], .agg [.lit (.int .i64 0), .lit (.int .i64 0), .lit (.int .i64 91822)]], .agg [.agg [.lit (.int .i64 89510), .lit (.int .i64 26640), .lit (.int .i64 (-16140))], .agg [.lit (.int .i64 (-75020)), .lit (.int .i64 171350), .lit (.int .i64 3670)], .agg [.lit (.int .i64 3890), .lit (.int .i64 (-6850)), .lit (.int .i64 102960)]], .agg [.agg [.lit (.int .i64 89500), .lit (.int .i64 26640), .lit (.int .i64 (-16140))], .agg [.lit (.int .i64 (-75020)), .lit (.int .i64 171350), .lit (.int .i64 3670)], .agg [.lit (.int .i64 3890), .lit (.int .i64 (-6850)), .lit (.int .i64 102960)]]]
def laid_verdigris_view_surrounds {H : Type} : DataW H := .agg [.agg [.lit (.int .i64 1000), .lit (.int .i64 1000), .lit (.int .i64 690), .lit (.int .i64 4), .lit (.int .i64 3)], .agg [.lit (.int .i64 900), .lit (.int .i64 950), .lit (.int .i64 590), .lit (.int .i64 7), .lit (.int .i64 6)], .agg [.lit (.int .i64 800), .lit (.int .i64 800), .lit (.int .i64 525), .lit (.int .i64 1), .lit (.int .i64 1)]]

/-- 'verdigrislaw28.ViewCompressed': WHATEVER THE INPUT: true; the input reads as it did. -/
def viewCompressedSpec : ChangeSpec := { name := "viewCompressed", fn := fun _ => fun
  | [d1, d2, d3] => { results := [.lit (.bool true)], args := [d1, d2, d3] }
  | _ => none }
def viewCompressedRow : OpenClaim := { program := "ytbngfhgoeoncmaagreatdoor", sum := "f062e3336121d5afe8adadaa697c54c1700ad2c01ca8efdaedddca018054a795", func := "verdigris/verdigrislaw28.ViewCompressed", spec := "viewCompressed", inPlace := ["internal/abi.NoEscape", "internal/bytealg.MakeNoZero"], unfollowed := true, recurses := true, named := ["internal/strconv.uint64pow10", "math/bits.deBruijn32tab", "math/bits.deBruijn64tab", "verdigris/view.surrounds", "verdigris/adapt.cones", "strconv.ErrSyntax", "strconv.ErrRange", "math/bits.divideError", "math/bits.overflowError"], apart := false, laid := [("math/bits.deBruijn32tab", laid_math_bits_deBruijn32tab), ("math/bits.deBruijn64tab", laid_math_bits_deBruijn64tab), ("internal/strconv.uint64pow10", laid_internal_strconv_uint64pow10), ("strconv.ErrRange", laid_strconv_ErrRange), ("strconv.ErrSyntax", laid_strconv_ErrSyntax), ("verdigris/adapt.cones", laid_verdigris_adapt_cones), ("verdigris/view.surrounds", laid_verdigris_view_surrounds)] }
def ViewCompressedSaid : Prop := viewCompressedRow.holds Tryz.pinned (OpenSpec.ofChange viewCompressedSpec)

/-- ITS FALSE NEIGHBOUR: 'it returns false'. Refute it at one input. -/
def viewCompressedWrong : ChangeSpec := { name := "viewCompressed", fn := fun _ => fun
  | [d1, d2, d3] => { results := [.lit (.bool false)], args := [d1, d2, d3] }
  | _ => none }
def ViewCompressedWrongFalsely : Prop := viewCompressedRow.holds Tryz.pinned (OpenSpec.ofChange viewCompressedWrong)

/-- 'verdigrislaw28.ViewLights': WHATEVER THE INPUT: true; the input reads as it did. -/
def viewLightsSpec : ChangeSpec := { name := "viewLights", fn := fun _ => fun
  | [d1, d2] => { results := [.lit (.bool true)], args := [d1, d2] }
  | _ => none }
def viewLightsRow : OpenClaim := { program := "ytbngfhgoeoncmaagreatdoor", sum := "f062e3336121d5afe8adadaa697c54c1700ad2c01ca8efdaedddca018054a795", func := "verdigris/verdigrislaw28.ViewLights", spec := "viewLights", inPlace := ["internal/abi.NoEscape", "internal/bytealg.MakeNoZero"], unfollowed := true, recurses := true, named := ["internal/strconv.uint64pow10", "math/bits.deBruijn32tab", "math/bits.deBruijn64tab", "verdigris/view.surrounds", "verdigris/adapt.cones", "strconv.ErrSyntax", "strconv.ErrRange", "math/bits.divideError", "math/bits.overflowError"], apart := false, laid := [("math/bits.deBruijn32tab", laid_math_bits_deBruijn32tab), ("math/bits.deBruijn64tab", laid_math_bits_deBruijn64tab), ("internal/strconv.uint64pow10", laid_internal_strconv_uint64pow10), ("strconv.ErrRange", laid_strconv_ErrRange), ("strconv.ErrSyntax", laid_strconv_ErrSyntax), ("verdigris/adapt.cones", laid_verdigris_adapt_cones), ("verdigris/view.surrounds", laid_verdigris_view_surrounds)] }
def ViewLightsSaid : Prop := viewLightsRow.holds Tryz.pinned (OpenSpec.ofChange viewLightsSpec)

/-- ITS FALSE NEIGHBOUR: 'it returns false'. Refute it at one input. -/
def viewLightsWrong : ChangeSpec := { name := "viewLights", fn := fun _ => fun
  | [d1, d2] => { results := [.lit (.bool false)], args := [d1, d2] }
  | _ => none }
def ViewLightsWrongFalsely : Prop := viewLightsRow.holds Tryz.pinned (OpenSpec.ofChange viewLightsWrong)

/-- 'verdigrislaw28.ViewSurrounds': WHATEVER THE INPUT: true; the input reads as it did. -/
def viewSurroundsSpec : ChangeSpec := { name := "viewSurrounds", fn := fun _ => fun
  | [d1, d2] => { results := [.lit (.bool true)], args := [d1, d2] }
  | _ => none }
def viewSurroundsRow : OpenClaim := { program := "ytbngfhgoeoncmaagreatdoor", sum := "f062e3336121d5afe8adadaa697c54c1700ad2c01ca8efdaedddca018054a795", func := "verdigris/verdigrislaw28.ViewSurrounds", spec := "viewSurrounds", inPlace := ["internal/abi.NoEscape", "internal/bytealg.MakeNoZero"], unfollowed := true, recurses := true, named := ["internal/strconv.uint64pow10", "math/bits.deBruijn32tab", "math/bits.deBruijn64tab", "verdigris/view.surrounds", "verdigris/adapt.cones", "strconv.ErrSyntax", "strconv.ErrRange", "math/bits.divideError", "math/bits.overflowError"], apart := false, laid := [("math/bits.deBruijn32tab", laid_math_bits_deBruijn32tab), ("math/bits.deBruijn64tab", laid_math_bits_deBruijn64tab), ("internal/strconv.uint64pow10", laid_internal_strconv_uint64pow10), ("strconv.ErrRange", laid_strconv_ErrRange), ("strconv.ErrSyntax", laid_strconv_ErrSyntax), ("verdigris/adapt.cones", laid_verdigris_adapt_cones), ("verdigris/view.surrounds", laid_verdigris_view_surrounds)] }
def ViewSurroundsSaid : Prop := viewSurroundsRow.holds Tryz.pinned (OpenSpec.ofChange viewSurroundsSpec)

/-- ITS FALSE NEIGHBOUR: 'it returns false'. Refute it at one input. -/
def viewSurroundsWrong : ChangeSpec := { name := "viewSurrounds", fn := fun _ => fun
  | [d1, d2] => { results := [.lit (.bool false)], args := [d1, d2] }
  | _ => none }
def ViewSurroundsWrongFalsely : Prop := viewSurroundsRow.holds Tryz.pinned (OpenSpec.ofChange viewSurroundsWrong)

/-- 'verdigrislaw28.ViewKnown': WHATEVER THE INPUT: true; the input reads as it did. -/
def viewKnownSpec : ChangeSpec := { name := "viewKnown", fn := fun _ => fun
  | [] => { results := [.lit (.bool true)], args := [] }
  | _ => none }
def viewKnownRow : OpenClaim := { program := "ytbngfhgoeoncmaagreatdoor", sum := "f062e3336121d5afe8adadaa697c54c1700ad2c01ca8efdaedddca018054a795", func := "verdigris/verdigrislaw28.ViewKnown", spec := "viewKnown", inPlace := ["internal/abi.NoEscape", "internal/bytealg.MakeNoZero"], unfollowed := true, recurses := true, named := ["internal/strconv.uint64pow10", "math/bits.deBruijn32tab", "math/bits.deBruijn64tab", "verdigris/view.surrounds", "verdigris/adapt.cones", "strconv.ErrSyntax", "strconv.ErrRange", "math/bits.divideError", "math/bits.overflowError"], apart := false, laid := [("math/bits.deBruijn32tab", laid_math_bits_deBruijn32tab), ("math/bits.deBruijn64tab", laid_math_bits_deBruijn64tab), ("internal/strconv.uint64pow10", laid_internal_strconv_uint64pow10), ("strconv.ErrRange", laid_strconv_ErrRange), ("strconv.ErrSyntax", laid_strconv_ErrSyntax), ("verdigris/adapt.cones", laid_verdigris_adapt_cones), ("verdigris/view.surrounds", laid_verdigris_view_surrounds)] }
def ViewKnownSaid : Prop := viewKnownRow.holds Tryz.pinned (OpenSpec.ofChange viewKnownSpec)

/-- ITS FALSE NEIGHBOUR: 'it returns false'. Refute it at one input. -/
def viewKnownWrong : ChangeSpec := { name := "viewKnown", fn := fun _ => fun
  | [] => { results := [.lit (.bool false)], args := [] }
  | _ => none }
def ViewKnownWrongFalsely : Prop := viewKnownRow.holds Tryz.pinned (OpenSpec.ofChange viewKnownWrong)

/- THE SECOND FORM. 'bulk': how many values and letters a reading holds, each counted each time it is reached (what is shared counts as often as it is met; a slice's spare places count too). A statement '..UptoSaid' is the law's where the arguments, and the package variables that the reading takes, are together of bulk at most 1048576: NARROWER than '..Said'. Prove '..Said' where nothing that the law and all that it calls make is longer than what came in: it says more and counts as full. Else prove '..UptoSaid'. A law counts once. -/
mutual
def uptoBulk {H : Type} : DataW H → Nat
  | .lit (.string bytes) => bytes.length + 1
  | .lit _ => 1
  | .nil => 1
  | .ptr d => uptoBulk d + 1
  | .slice elems spare => uptoBulkAll elems + uptoBulkAll spare + 1
  | .agg parts => uptoBulkAll parts + 1
  | .iface _ d => uptoBulk d + 1
  | .map entries => uptoBulkEntries entries + 1
  | .held _ => 1
def uptoBulkAll {H : Type} : List (DataW H) → Nat
  | [] => 0
  | d :: r => uptoBulk d + uptoBulkAll r
def uptoBulkEntries {H : Type} : List (Lit × DataW H) → Nat
  | [] => 0
  | x :: r => uptoBulkEntry x + uptoBulkEntries r
def uptoBulkEntry {H : Type} : Lit × DataW H → Nat
  | (.string bytes, d) => bytes.length + uptoBulk d + 1
  | (_, d) => uptoBulk d + 1
 end
def uptoSmall : (H : Type) → List (DataW H) → Bool := fun _ ds => decide (uptoBulkAll ds ≤ 1048576)
def OpenSpec.upto (s : _root_.Go.ChangeSpec) : _root_.Go.OpenSpec := { _root_.Go.OpenSpec.ofChange s with cond := some uptoSmall }

/-- 'verdigrislaw28.ViewCompressed', WHERE WHAT IT READS IS OF BULK AT MOST 1048576: true; the input reads as it did. -/
def viewCompressedUptoRow : OpenClaim := { program := "ytbngfhgoeoncmaagreatdoor", sum := "f062e3336121d5afe8adadaa697c54c1700ad2c01ca8efdaedddca018054a795", func := "verdigris/verdigrislaw28.ViewCompressed", spec := "viewCompressed", inPlace := ["internal/abi.NoEscape", "internal/bytealg.MakeNoZero"], unfollowed := true, recurses := true, named := ["internal/strconv.uint64pow10", "math/bits.deBruijn32tab", "math/bits.deBruijn64tab", "verdigris/view.surrounds", "verdigris/adapt.cones", "strconv.ErrSyntax", "strconv.ErrRange", "math/bits.divideError", "math/bits.overflowError"], apart := false, laid := [("math/bits.deBruijn32tab", laid_math_bits_deBruijn32tab), ("math/bits.deBruijn64tab", laid_math_bits_deBruijn64tab), ("internal/strconv.uint64pow10", laid_internal_strconv_uint64pow10), ("strconv.ErrRange", laid_strconv_ErrRange), ("strconv.ErrSyntax", laid_strconv_ErrSyntax), ("verdigris/adapt.cones", laid_verdigris_adapt_cones), ("verdigris/view.surrounds", laid_verdigris_view_surrounds)], narrowed := true }
def ViewCompressedUptoSaid : Prop := viewCompressedUptoRow.holds Tryz.pinned (OpenSpec.upto viewCompressedSpec)

/-- 'verdigrislaw28.ViewLights', WHERE WHAT IT READS IS OF BULK AT MOST 1048576: true; the input reads as it did. -/
def viewLightsUptoRow : OpenClaim := { program := "ytbngfhgoeoncmaagreatdoor", sum := "f062e3336121d5afe8adadaa697c54c1700ad2c01ca8efdaedddca018054a795", func := "verdigris/verdigrislaw28.ViewLights", spec := "viewLights", inPlace := ["internal/abi.NoEscape", "internal/bytealg.MakeNoZero"], unfollowed := true, recurses := true, named := ["internal/strconv.uint64pow10", "math/bits.deBruijn32tab", "math/bits.deBruijn64tab", "verdigris/view.surrounds", "verdigris/adapt.cones", "strconv.ErrSyntax", "strconv.ErrRange", "math/bits.divideError", "math/bits.overflowError"], apart := false, laid := [("math/bits.deBruijn32tab", laid_math_bits_deBruijn32tab), ("math/bits.deBruijn64tab", laid_math_bits_deBruijn64tab), ("internal/strconv.uint64pow10", laid_internal_strconv_uint64pow10), ("strconv.ErrRange", laid_strconv_ErrRange), ("strconv.ErrSyntax", laid_strconv_ErrSyntax), ("verdigris/adapt.cones", laid_verdigris_adapt_cones), ("verdigris/view.surrounds", laid_verdigris_view_surrounds)], narrowed := true }
def ViewLightsUptoSaid : Prop := viewLightsUptoRow.holds Tryz.pinned (OpenSpec.upto viewLightsSpec)

/-- 'verdigrislaw28.ViewSurrounds', WHERE WHAT IT READS IS OF BULK AT MOST 1048576: true; the input reads as it did. -/
def viewSurroundsUptoRow : OpenClaim := { program := "ytbngfhgoeoncmaagreatdoor", sum := "f062e3336121d5afe8adadaa697c54c1700ad2c01ca8efdaedddca018054a795", func := "verdigris/verdigrislaw28.ViewSurrounds", spec := "viewSurrounds", inPlace := ["internal/abi.NoEscape", "internal/bytealg.MakeNoZero"], unfollowed := true, recurses := true, named := ["internal/strconv.uint64pow10", "math/bits.deBruijn32tab", "math/bits.deBruijn64tab", "verdigris/view.surrounds", "verdigris/adapt.cones", "strconv.ErrSyntax", "strconv.ErrRange", "math/bits.divideError", "math/bits.overflowError"], apart := false, laid := [("math/bits.deBruijn32tab", laid_math_bits_deBruijn32tab), ("math/bits.deBruijn64tab", laid_math_bits_deBruijn64tab), ("internal/strconv.uint64pow10", laid_internal_strconv_uint64pow10), ("strconv.ErrRange", laid_strconv_ErrRange), ("strconv.ErrSyntax", laid_strconv_ErrSyntax), ("verdigris/adapt.cones", laid_verdigris_adapt_cones), ("verdigris/view.surrounds", laid_verdigris_view_surrounds)], narrowed := true }
def ViewSurroundsUptoSaid : Prop := viewSurroundsUptoRow.holds Tryz.pinned (OpenSpec.upto viewSurroundsSpec)

/-- 'verdigrislaw28.ViewKnown', WHERE WHAT IT READS IS OF BULK AT MOST 1048576: true; the input reads as it did. -/
def viewKnownUptoRow : OpenClaim := { program := "ytbngfhgoeoncmaagreatdoor", sum := "f062e3336121d5afe8adadaa697c54c1700ad2c01ca8efdaedddca018054a795", func := "verdigris/verdigrislaw28.ViewKnown", spec := "viewKnown", inPlace := ["internal/abi.NoEscape", "internal/bytealg.MakeNoZero"], unfollowed := true, recurses := true, named := ["internal/strconv.uint64pow10", "math/bits.deBruijn32tab", "math/bits.deBruijn64tab", "verdigris/view.surrounds", "verdigris/adapt.cones", "strconv.ErrSyntax", "strconv.ErrRange", "math/bits.divideError", "math/bits.overflowError"], apart := false, laid := [("math/bits.deBruijn32tab", laid_math_bits_deBruijn32tab), ("math/bits.deBruijn64tab", laid_math_bits_deBruijn64tab), ("internal/strconv.uint64pow10", laid_internal_strconv_uint64pow10), ("strconv.ErrRange", laid_strconv_ErrRange), ("strconv.ErrSyntax", laid_strconv_ErrSyntax), ("verdigris/adapt.cones", laid_verdigris_adapt_cones), ("verdigris/view.surrounds", laid_verdigris_view_surrounds)], narrowed := true }
def ViewKnownUptoSaid : Prop := viewKnownUptoRow.holds Tryz.pinned (OpenSpec.upto viewKnownSpec)

end Rows
end Go.Proofs.YtbngfhgoeoncmaaGreatDoor
