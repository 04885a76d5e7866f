/-
  NARROWER THAN 'FOR EVERY INPUT', by the rows' own cells (each row's printed sentence says how): AdaptMatrices: laid · AdaptColours: laid · AdaptMeets: laid · AdaptChains: laid · AdaptKnown: laid · AdaptStays: laid.
  DERIVED. THE GIVEN ROWS OF THIS SEAT. 6 by the template 'for every input the law returns true; each argument reads behind the call as it read before'; 0 by the template 'total and deterministic' (their statements: YtddblpggomphpaaGreatDoorTotals.lean).
  GIVEN WITH THE SEED: the statements are not yours to turn. If you find one false, say at which input.
  Laid BY PROGRAM, IN A SANDBOX (cutbox-rows.mjs): the forced cells as the released guide's own fill.sh prints them over the translation d8335496e311b525… (all of the seat's roots in one cut). By AI agents, Wed Nov 11 2026. No macro, syntax, notation, axiom, sorry.
-/
import Derived.Test.YtddblpggomphpaaGreatDoorChecked
import GoSem.Claim
import GoSem.ClaimJoined
import GoSem.ClaimMapViews
import Derived.JoinedTies
import Derived.KernelRfl
namespace Go.Proofs.YtddblpggomphpaaGreatDoor
/- THE CELL 'sum', in the pinned program and in every row, IS THE sha256 OF THE DUMP (.gsa) THAT YtddblpggomphpaaGreatDoorProg.lean LOADS. Nothing in Lean hashes anything: it is a label: what it is worth is what the hold of that sum in a sandbox is worth. -/
noncomputable def Tryz.pinned : Pinned := { name := "ytddblpggomphpaagreatdoor", sum := "d8335496e311b5255859f552ad4ce292d376aeb1a6877501d51de36f0b7235cd", checked := Tryz.checked }
namespace Rows
def none {H : Type} : Left H := { results := [], args := [] }

/- WHAT THE LISTED PACKAGE-LEVEL VARIABLES READ AS WHEN THE CALL BEGINS. Each datum BY PROGRAM (the guide's laid-datum.mjs) off the statement by which the dump's own 'gosem.cut.vars' lays the variable. In a bare row this is a premise. The card (YtddblpggomphpaaGreatDoorCards.lean) ties it to the program's text. -/
def laid_math_bits_deBruijn32tab {H : Type} : DataW H := .agg [.lit (.int .u8 0), .lit (.int .u8 1), .lit (.int .u8 28), .lit (.int .u8 2), .lit (.int .u8 29), .lit (.int .u8 14), .lit (.int .u8 24), .lit (.int .u8 3), .lit (.int .u8 30), .lit (.int .u8 22), .lit (.int .u8 20), .lit (.int .u8 15), .lit (.int .u8 25), .lit (.int .u8 17), .lit (.int .u8 4), .lit (.int .u8 8), .lit (.int .u8 31), .lit (.int .u8 27), .lit (.int .u8 13), .lit (.int .u8 23), .lit (.int .u8 21), .lit (.int .u8 19), .lit (.int .u8 16), .lit (.int .u8 7), .lit (.int .u8 26), .lit (.int .u8 12), .lit (.int .u8 18), .lit (.int .u8 6), .lit (.int .u8 11), .lit (.int .u8 5), .lit (.int .u8 10), .lit (.int .u8 9)]
def laid_math_bits_deBruijn64tab {H : Type} : DataW H := .agg [.lit (.int .u8 0), .lit (.int .u8 1), .lit (.int .u8 56), .lit (.int .u8 2), .lit (.int .u8 57), .lit (.int .u8 49), .lit (.int .u8 28), .lit (.int .u8 3), .lit (.int .u8 61), .lit (.int .u8 58), .lit (.int .u8 42), .lit (.int .u8 50), .lit (.int .u8 38), .lit (.int .u8 29), .lit (.int .u8 17), .lit (.int .u8 4), .lit (.int .u8 62), .lit (.int .u8 47), .lit (.int .u8 59), .lit (.int .u8 36), .lit (.int .u8 45), .lit (.int .u8 43), .lit (.int .u8 51), .lit (.int .u8 22), .lit (.int .u8 53), .lit (.int .u8 39), .lit (.int .u8 33), .lit (.int .u8 30), .lit (.int .u8 24), .lit (.int .u8 18), .lit (.int .u8 12), .lit (.int .u8 5), .lit (.int .u8 63), .lit (.int .u8 55), .lit (.int .u8 48), .lit (.int .u8 27), .lit (.int .u8 60), .lit (.int .u8 41), .lit (.int .u8 37), .lit (.int .u8 16), .lit (.int .u8 46), .lit (.int .u8 35), .lit (.int .u8 44), .lit (.int .u8 21), .lit (.int .u8 52), .lit (.int .u8 32), .lit (.int .u8 23), .lit (.int .u8 11), .lit (.int .u8 54), .lit (.int .u8 26), .lit (.int .u8 40), .lit (.int .u8 15), .lit (.int .u8 34), .lit (.int .u8 20), .lit (.int .u8 31), .lit (.int .u8 10), .lit (.int .u8 25), .lit (.int .u8 14), .lit (.int .u8 19), .lit (.int .u8 9), .lit (.int .u8 13), .lit (.int .u8 8), .lit (.int .u8 7), .lit (.int .u8 6)]
def laid_internal_strconv_uint64pow10 {H : Type} : DataW H := .agg [.lit (.int .u64 1), .lit (.int .u64 10), .lit (.int .u64 100), .lit (.int .u64 1000), .lit (.int .u64 10000), .lit (.int .u64 100000), .lit (.int .u64 1000000), .lit (.int .u64 10000000), .lit (.int .u64 100000000), .lit (.int .u64 1000000000), .lit (.int .u64 10000000000), .lit (.int .u64 100000000000), .lit (.int .u64 1000000000000), .lit (.int .u64 10000000000000), .lit (.int .u64 100000000000000), .lit (.int .u64 1000000000000000), .lit (.int .u64 10000000000000000), .lit (.int .u64 100000000000000000), .lit (.int .u64 1000000000000000000), .lit (.int .u64 10000000000000000000)]
def laid_verdigris_adapt_cones {H : Type} : DataW H := .agg [.agg [.agg [.lit (.int .i64 100000), .lit (.int .i64 0), .lit (.int .i64 0)], .agg [.lit (.int .i64 0), .lit (.int .i64 100000), .lit (.int .i64 0)], .agg [.lit (.int .i64 0), .lit (.int .i64 0), .lit (.int .i64 100000)]], .agg [.agg [.lit (.int .i64 40024), .lit (.int .i64 70760), .lit (.int .i64 (-8081))], .agg [.lit (.int .i64 (-22630)), .lit (.int .i64 116532), .lit (.int .i64 4570)], .agg [.lit (.int .i64 0), .lit (.int .i64 0), .lit (.int .i64 91822)]], .agg [.agg [.lit (.int .i64 89510), .lit (.int .i64 26640), .lit (.int .i64 (-16140))], .agg [.lit (.int .i64 (-75020)), .lit (.int .i64 171350), .lit (.int .i64 3670)], .agg [.lit (.int .i64 3890), .lit (.int .i64 (-6850)), .lit (.int .i64 102960)]], .agg [.agg [.lit (.int .i64 89500), .lit (.int .i64 26640), .lit (.int .i64 (-16140))], .agg [.lit (.int .i64 (-75020)), .lit (.int .i64 171350), .lit (.int .i64 3670)], .agg [.lit (.int .i64 3890), .lit (.int .i64 (-6850)), .lit (.int .i64 102960)]]]

/-- 'verdigrislaw25.AdaptMatrices': WHATEVER THE INPUT: true; the input reads as it did. -/
def adaptMatricesSpec : ChangeSpec := { name := "adaptMatrices", fn := fun _ => fun
  | [d1, d2, d3, d4, d5, d6] => { results := [.lit (.bool true)], args := [d1, d2, d3, d4, d5, d6] }
  | _ => none }
def adaptMatricesRow : OpenClaim := { program := "ytddblpggomphpaagreatdoor", sum := "d8335496e311b5255859f552ad4ce292d376aeb1a6877501d51de36f0b7235cd", func := "verdigris/verdigrislaw25.AdaptMatrices", spec := "adaptMatrices", inPlace := ["internal/abi.NoEscape"], unfollowed := true, recurses := true, named := ["internal/strconv.uint64pow10", "math/bits.deBruijn32tab", "math/bits.deBruijn64tab", "verdigris/adapt.cones"], apart := false, laid := [("math/bits.deBruijn32tab", laid_math_bits_deBruijn32tab), ("math/bits.deBruijn64tab", laid_math_bits_deBruijn64tab), ("internal/strconv.uint64pow10", laid_internal_strconv_uint64pow10), ("verdigris/adapt.cones", laid_verdigris_adapt_cones)] }
def AdaptMatricesSaid : Prop := adaptMatricesRow.holds Tryz.pinned (OpenSpec.ofChange adaptMatricesSpec)

/-- ITS FALSE NEIGHBOUR: 'it returns false'. Refute it at one input. -/
def adaptMatricesWrong : ChangeSpec := { name := "adaptMatrices", fn := fun _ => fun
  | [d1, d2, d3, d4, d5, d6] => { results := [.lit (.bool false)], args := [d1, d2, d3, d4, d5, d6] }
  | _ => none }
def AdaptMatricesWrongFalsely : Prop := adaptMatricesRow.holds Tryz.pinned (OpenSpec.ofChange adaptMatricesWrong)

/-- 'verdigrislaw25.AdaptColours': WHATEVER THE INPUT: true; the input reads as it did. -/
def adaptColoursSpec : ChangeSpec := { name := "adaptColours", fn := fun _ => fun
  | [d1, d2, d3, d4, d5, d6] => { results := [.lit (.bool true)], args := [d1, d2, d3, d4, d5, d6] }
  | _ => none }
def adaptColoursRow : OpenClaim := { program := "ytddblpggomphpaagreatdoor", sum := "d8335496e311b5255859f552ad4ce292d376aeb1a6877501d51de36f0b7235cd", func := "verdigris/verdigrislaw25.AdaptColours", spec := "adaptColours", inPlace := ["internal/abi.NoEscape"], unfollowed := true, recurses := true, named := ["internal/strconv.uint64pow10", "math/bits.deBruijn32tab", "math/bits.deBruijn64tab", "verdigris/adapt.cones"], apart := false, laid := [("math/bits.deBruijn32tab", laid_math_bits_deBruijn32tab), ("math/bits.deBruijn64tab", laid_math_bits_deBruijn64tab), ("internal/strconv.uint64pow10", laid_internal_strconv_uint64pow10), ("verdigris/adapt.cones", laid_verdigris_adapt_cones)] }
def AdaptColoursSaid : Prop := adaptColoursRow.holds Tryz.pinned (OpenSpec.ofChange adaptColoursSpec)

/-- ITS FALSE NEIGHBOUR: 'it returns false'. Refute it at one input. -/
def adaptColoursWrong : ChangeSpec := { name := "adaptColours", fn := fun _ => fun
  | [d1, d2, d3, d4, d5, d6] => { results := [.lit (.bool false)], args := [d1, d2, d3, d4, d5, d6] }
  | _ => none }
def AdaptColoursWrongFalsely : Prop := adaptColoursRow.holds Tryz.pinned (OpenSpec.ofChange adaptColoursWrong)

/-- 'verdigrislaw25.AdaptMeets': WHATEVER THE INPUT: true; the input reads as it did. -/
def adaptMeetsSpec : ChangeSpec := { name := "adaptMeets", fn := fun _ => fun
  | [d1, d2, d3] => { results := [.lit (.bool true)], args := [d1, d2, d3] }
  | _ => none }
def adaptMeetsRow : OpenClaim := { program := "ytddblpggomphpaagreatdoor", sum := "d8335496e311b5255859f552ad4ce292d376aeb1a6877501d51de36f0b7235cd", func := "verdigris/verdigrislaw25.AdaptMeets", spec := "adaptMeets", inPlace := ["internal/abi.NoEscape"], unfollowed := true, recurses := true, named := ["internal/strconv.uint64pow10", "math/bits.deBruijn32tab", "math/bits.deBruijn64tab", "verdigris/adapt.cones"], apart := false, laid := [("math/bits.deBruijn32tab", laid_math_bits_deBruijn32tab), ("math/bits.deBruijn64tab", laid_math_bits_deBruijn64tab), ("internal/strconv.uint64pow10", laid_internal_strconv_uint64pow10), ("verdigris/adapt.cones", laid_verdigris_adapt_cones)] }
def AdaptMeetsSaid : Prop := adaptMeetsRow.holds Tryz.pinned (OpenSpec.ofChange adaptMeetsSpec)

/-- ITS FALSE NEIGHBOUR: 'it returns false'. Refute it at one input. -/
def adaptMeetsWrong : ChangeSpec := { name := "adaptMeets", fn := fun _ => fun
  | [d1, d2, d3] => { results := [.lit (.bool false)], args := [d1, d2, d3] }
  | _ => none }
def AdaptMeetsWrongFalsely : Prop := adaptMeetsRow.holds Tryz.pinned (OpenSpec.ofChange adaptMeetsWrong)

/-- 'verdigrislaw25.AdaptChains': WHATEVER THE INPUT: true; the input reads as it did. -/
def adaptChainsSpec : ChangeSpec := { name := "adaptChains", fn := fun _ => fun
  | [d1, d2, d3, d4] => { results := [.lit (.bool true)], args := [d1, d2, d3, d4] }
  | _ => none }
def adaptChainsRow : OpenClaim := { program := "ytddblpggomphpaagreatdoor", sum := "d8335496e311b5255859f552ad4ce292d376aeb1a6877501d51de36f0b7235cd", func := "verdigris/verdigrislaw25.AdaptChains", spec := "adaptChains", inPlace := ["internal/abi.NoEscape"], unfollowed := true, recurses := true, named := ["internal/strconv.uint64pow10", "math/bits.deBruijn32tab", "math/bits.deBruijn64tab", "verdigris/adapt.cones"], apart := false, laid := [("math/bits.deBruijn32tab", laid_math_bits_deBruijn32tab), ("math/bits.deBruijn64tab", laid_math_bits_deBruijn64tab), ("internal/strconv.uint64pow10", laid_internal_strconv_uint64pow10), ("verdigris/adapt.cones", laid_verdigris_adapt_cones)] }
def AdaptChainsSaid : Prop := adaptChainsRow.holds Tryz.pinned (OpenSpec.ofChange adaptChainsSpec)

/-- ITS FALSE NEIGHBOUR: 'it returns false'. Refute it at one input. -/
def adaptChainsWrong : ChangeSpec := { name := "adaptChains", fn := fun _ => fun
  | [d1, d2, d3, d4] => { results := [.lit (.bool false)], args := [d1, d2, d3, d4] }
  | _ => none }
def AdaptChainsWrongFalsely : Prop := adaptChainsRow.holds Tryz.pinned (OpenSpec.ofChange adaptChainsWrong)

/-- 'verdigrislaw25.AdaptKnown': WHATEVER THE INPUT: true; the input reads as it did. -/
def adaptKnownSpec : ChangeSpec := { name := "adaptKnown", fn := fun _ => fun
  | [] => { results := [.lit (.bool true)], args := [] }
  | _ => none }
def adaptKnownRow : OpenClaim := { program := "ytddblpggomphpaagreatdoor", sum := "d8335496e311b5255859f552ad4ce292d376aeb1a6877501d51de36f0b7235cd", func := "verdigris/verdigrislaw25.AdaptKnown", spec := "adaptKnown", inPlace := ["internal/abi.NoEscape"], unfollowed := true, recurses := true, named := ["internal/strconv.uint64pow10", "math/bits.deBruijn32tab", "math/bits.deBruijn64tab", "verdigris/adapt.cones"], apart := false, laid := [("math/bits.deBruijn32tab", laid_math_bits_deBruijn32tab), ("math/bits.deBruijn64tab", laid_math_bits_deBruijn64tab), ("internal/strconv.uint64pow10", laid_internal_strconv_uint64pow10), ("verdigris/adapt.cones", laid_verdigris_adapt_cones)] }
def AdaptKnownSaid : Prop := adaptKnownRow.holds Tryz.pinned (OpenSpec.ofChange adaptKnownSpec)

/-- ITS FALSE NEIGHBOUR: 'it returns false'. Refute it at one input. -/
def adaptKnownWrong : ChangeSpec := { name := "adaptKnown", fn := fun _ => fun
  | [] => { results := [.lit (.bool false)], args := [] }
  | _ => none }
def AdaptKnownWrongFalsely : Prop := adaptKnownRow.holds Tryz.pinned (OpenSpec.ofChange adaptKnownWrong)

/-- 'verdigrislaw25.AdaptStays': WHATEVER THE INPUT: true; the input reads as it did. -/
def adaptStaysSpec : ChangeSpec := { name := "adaptStays", fn := fun _ => fun
  | [d1, d2, d3, d4] => { results := [.lit (.bool true)], args := [d1, d2, d3, d4] }
  | _ => none }
def adaptStaysRow : OpenClaim := { program := "ytddblpggomphpaagreatdoor", sum := "d8335496e311b5255859f552ad4ce292d376aeb1a6877501d51de36f0b7235cd", func := "verdigris/verdigrislaw25.AdaptStays", spec := "adaptStays", inPlace := ["internal/abi.NoEscape"], unfollowed := true, recurses := true, named := ["internal/strconv.uint64pow10", "math/bits.deBruijn32tab", "math/bits.deBruijn64tab", "verdigris/adapt.cones"], apart := false, laid := [("math/bits.deBruijn32tab", laid_math_bits_deBruijn32tab), ("math/bits.deBruijn64tab", laid_math_bits_deBruijn64tab), ("internal/strconv.uint64pow10", laid_internal_strconv_uint64pow10), ("verdigris/adapt.cones", laid_verdigris_adapt_cones)] }
def AdaptStaysSaid : Prop := adaptStaysRow.holds Tryz.pinned (OpenSpec.ofChange adaptStaysSpec)

/-- ITS FALSE NEIGHBOUR: 'it returns false'. Refute it at one input. -/
def adaptStaysWrong : ChangeSpec := { name := "adaptStays", fn := fun _ => fun
  | [d1, d2, d3, d4] => { results := [.lit (.bool false)], args := [d1, d2, d3, d4] }
  | _ => none }
def AdaptStaysWrongFalsely : Prop := adaptStaysRow.holds Tryz.pinned (OpenSpec.ofChange adaptStaysWrong)

/- THE SECOND FORM. 'bulk': how many values and letters a reading holds, each counted each time it is reached (what is shared counts as often as it is met; a slice's spare places count too). A statement '..UptoSaid' is the law's where the arguments, and the package variables that the reading takes, are together of bulk at most 1048576: NARROWER than '..Said'. Prove '..Said' where nothing that the law and all that it calls make is longer than what came in: it says more and counts as full. Else prove '..UptoSaid'. A law counts once. -/
mutual
def uptoBulk {H : Type} : DataW H → Nat
  | .lit (.string bytes) => bytes.length + 1
  | .lit _ => 1
  | .nil => 1
  | .ptr d => uptoBulk d + 1
  | .slice elems spare => uptoBulkAll elems + uptoBulkAll spare + 1
  | .agg parts => uptoBulkAll parts + 1
  | .iface _ d => uptoBulk d + 1
  | .map entries => uptoBulkEntries entries + 1
  | .held _ => 1
def uptoBulkAll {H : Type} : List (DataW H) → Nat
  | [] => 0
  | d :: r => uptoBulk d + uptoBulkAll r
def uptoBulkEntries {H : Type} : List (Lit × DataW H) → Nat
  | [] => 0
  | x :: r => uptoBulkEntry x + uptoBulkEntries r
def uptoBulkEntry {H : Type} : Lit × DataW H → Nat
  | (.string bytes, d) => bytes.length + uptoBulk d + 1
  | (_, d) => uptoBulk d + 1
 end
def uptoSmall : (H : Type) → List (DataW H) → Bool := fun _ ds => decide (uptoBulkAll ds ≤ 1048576)
def OpenSpec.upto (s : _root_.Go.ChangeSpec) : _root_.Go.OpenSpec := { _root_.Go.OpenSpec.ofChange s with cond := some uptoSmall }

/-- 'verdigrislaw25.AdaptMatrices', WHERE WHAT IT READS IS OF BULK AT MOST 1048576: true; the input reads as it did. -/
def adaptMatricesUptoRow : OpenClaim := { program := "ytddblpggomphpaagreatdoor", sum := "d8335496e311b5255859f552ad4ce292d376aeb1a6877501d51de36f0b7235cd", func := "verdigris/verdigrislaw25.AdaptMatrices", spec := "adaptMatrices", inPlace := ["internal/abi.NoEscape"], unfollowed := true, recurses := true, named := ["internal/strconv.uint64pow10", "math/bits.deBruijn32tab", "math/bits.deBruijn64tab", "verdigris/adapt.cones"], apart := false, laid := [("math/bits.deBruijn32tab", laid_math_bits_deBruijn32tab), ("math/bits.deBruijn64tab", laid_math_bits_deBruijn64tab), ("internal/strconv.uint64pow10", laid_internal_strconv_uint64pow10), ("verdigris/adapt.cones", laid_verdigris_adapt_cones)], narrowed := true }
def AdaptMatricesUptoSaid : Prop := adaptMatricesUptoRow.holds Tryz.pinned (OpenSpec.upto adaptMatricesSpec)

/-- 'verdigrislaw25.AdaptColours', WHERE WHAT IT READS IS OF BULK AT MOST 1048576: true; the input reads as it did. -/
def adaptColoursUptoRow : OpenClaim := { program := "ytddblpggomphpaagreatdoor", sum := "d8335496e311b5255859f552ad4ce292d376aeb1a6877501d51de36f0b7235cd", func := "verdigris/verdigrislaw25.AdaptColours", spec := "adaptColours", inPlace := ["internal/abi.NoEscape"], unfollowed := true, recurses := true, named := ["internal/strconv.uint64pow10", "math/bits.deBruijn32tab", "math/bits.deBruijn64tab", "verdigris/adapt.cones"], apart := false, laid := [("math/bits.deBruijn32tab", laid_math_bits_deBruijn32tab), ("math/bits.deBruijn64tab", laid_math_bits_deBruijn64tab), ("internal/strconv.uint64pow10", laid_internal_strconv_uint64pow10), ("verdigris/adapt.cones", laid_verdigris_adapt_cones)], narrowed := true }
def AdaptColoursUptoSaid : Prop := adaptColoursUptoRow.holds Tryz.pinned (OpenSpec.upto adaptColoursSpec)

/-- 'verdigrislaw25.AdaptMeets', WHERE WHAT IT READS IS OF BULK AT MOST 1048576: true; the input reads as it did. -/
def adaptMeetsUptoRow : OpenClaim := { program := "ytddblpggomphpaagreatdoor", sum := "d8335496e311b5255859f552ad4ce292d376aeb1a6877501d51de36f0b7235cd", func := "verdigris/verdigrislaw25.AdaptMeets", spec := "adaptMeets", inPlace := ["internal/abi.NoEscape"], unfollowed := true, recurses := true, named := ["internal/strconv.uint64pow10", "math/bits.deBruijn32tab", "math/bits.deBruijn64tab", "verdigris/adapt.cones"], apart := false, laid := [("math/bits.deBruijn32tab", laid_math_bits_deBruijn32tab), ("math/bits.deBruijn64tab", laid_math_bits_deBruijn64tab), ("internal/strconv.uint64pow10", laid_internal_strconv_uint64pow10), ("verdigris/adapt.cones", laid_verdigris_adapt_cones)], narrowed := true }
def AdaptMeetsUptoSaid : Prop := adaptMeetsUptoRow.holds Tryz.pinned (OpenSpec.upto adaptMeetsSpec)

/-- 'verdigrislaw25.AdaptChains', WHERE WHAT IT READS IS OF BULK AT MOST 1048576: true; the input reads as it did. -/
def adaptChainsUptoRow : OpenClaim := { program := "ytddblpggomphpaagreatdoor", sum := "d8335496e311b5255859f552ad4ce292d376aeb1a6877501d51de36f0b7235cd", func := "verdigris/verdigrislaw25.AdaptChains", spec := "adaptChains", inPlace := ["internal/abi.NoEscape"], unfollowed := true, recurses := true, named := ["internal/strconv.uint64pow10", "math/bits.deBruijn32tab", "math/bits.deBruijn64tab", "verdigris/adapt.cones"], apart := false, laid := [("math/bits.deBruijn32tab", laid_math_bits_deBruijn32tab), ("math/bits.deBruijn64tab", laid_math_bits_deBruijn64tab), ("internal/strconv.uint64pow10", laid_internal_strconv_uint64pow10), ("verdigris/adapt.cones", laid_verdigris_adapt_cones)], narrowed := true }
def AdaptChainsUptoSaid : Prop := adaptChainsUptoRow.holds Tryz.pinned (OpenSpec.upto adaptChainsSpec)

/-- 'verdigrislaw25.AdaptKnown', WHERE WHAT IT READS IS OF BULK AT MOST 1048576: true; the input reads as it did. -/
def adaptKnownUptoRow : OpenClaim := { program := "ytddblpggomphpaagreatdoor", sum := "d8335496e311b5255859f552ad4ce292d376aeb1a6877501d51de36f0b7235cd", func := "verdigris/verdigrislaw25.AdaptKnown", spec := "adaptKnown", inPlace := ["internal/abi.NoEscape"], unfollowed := true, recurses := true, named := ["internal/strconv.uint64pow10", "math/bits.deBruijn32tab", "math/bits.deBruijn64tab", "verdigris/adapt.cones"], apart := false, laid := [("math/bits.deBruijn32tab", laid_math_bits_deBruijn32tab), ("math/bits.deBruijn64tab", laid_math_bits_deBruijn64tab), ("internal/strconv.uint64pow10", laid_internal_strconv_uint64pow10), ("verdigris/adapt.cones", laid_verdigris_adapt_cones)], narrowed := true }
def AdaptKnownUptoSaid : Prop := adaptKnownUptoRow.holds Tryz.pinned (OpenSpec.upto adaptKnownSpec)

/-- 'verdigrislaw25.AdaptStays', WHERE WHAT IT READS IS OF BULK AT MOST 1048576: true; the input reads as it did. -/
def adaptStaysUptoRow : OpenClaim := { program := "ytddblpggomphpaagreatdoor", sum := "d8335496e311b5255859f552ad4ce292d376aeb1a6877501d51de36f0b7235cd", func := "verdigris/verdigrislaw25.AdaptStays", spec := "adaptStays", inPlace := ["internal/abi.NoEscape"], unfollowed := true, recurses := true, named := ["internal/strconv.uint64pow10", "math/bits.deBruijn32tab", "math/bits.deBruijn64tab", "verdigris/adapt.cones"], apart := false, laid := [("math/bits.deBruijn32tab", laid_math_bits_deBruijn32tab), ("math/bits.deBruijn64tab", laid_math_bits_deBruijn64tab), ("internal/strconv.uint64pow10", laid_internal_strconv_uint64pow10), ("verdigris/adapt.cones", laid_verdigris_adapt_cones)], narrowed := true }
def AdaptStaysUptoSaid : Prop := adaptStaysUptoRow.holds Tryz.pinned (OpenSpec.upto adaptStaysSpec)

end Rows
end Go.Proofs.YtddblpggomphpaaGreatDoor
