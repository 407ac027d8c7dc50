/-
  NARROWER THAN 'FOR EVERY INPUT', by the rows' own cells (each row's printed sentence says how): DyeKnowns: laid · DyeWords: laid · DyeRipes: laid · DyeCoats: laid · DyeLaid: laid · DyeProves: laid · DyeReads: laid · DyeProven: laid · DyeReached: laid · DyeSpoilt: laid · DyeTogethers: laid · DyeMore: laid · DyeAparts: laid · DyeTurned: laid · DyeSuits: laid · DyeRivals: laid · DyeLays: laid · DyeEnds: laid · DyeDiffer: laid · DyeRuns: laid · DyeTrue: laid · DyeReady: laid · DyeMatched: laid · DyePrints: laid.
  DERIVED. THE GIVEN ROWS OF THIS SEAT. 24 by the template 'for every input the law returns true; each argument reads behind the call as it read before'; 0 by the template 'total and deterministic' (their statements: YtnpfbjnjdngkhaaGreatDoorTotals.lean).
  GIVEN WITH THE SEED: the statements are not yours to turn. If you find one false, say at which input.
  Laid BY PROGRAM, IN A SANDBOX (cutbox-rows.mjs): the forced cells as the released guide's own fill.sh prints them over the translation 8a107d243a4234ab… (all of the seat's roots in one cut). By AI agents, Wed Nov 11 2026. No macro, syntax, notation, axiom, sorry.
-/
import Derived.Test.YtnpfbjnjdngkhaaGreatDoorChecked
import GoSem.PinnedTables
import GoSem.Claim
import GoSem.ClaimJoined
import GoSem.ClaimMapViews
import Derived.JoinedTies
import Derived.KernelRfl
namespace Go.Proofs.YtnpfbjnjdngkhaaGreatDoor
/- THE CELL 'sum', in the pinned program and in every row, IS THE sha256 OF THE DUMP (.gsa) THAT YtnpfbjnjdngkhaaGreatDoorProg.lean LOADS. Nothing in Lean hashes anything: it is a label: what it is worth is what the hold of that sum in a sandbox is worth. -/
noncomputable def Tryz.pinned : Pinned := { name := "ytnpfbjnjdngkhaagreatdoor", sum := "8a107d243a4234ab65020dc5c8c8b3bff0d83d49d33693791117c9d514427bf9", checked := Tryz.checked }
namespace Rows
def none {H : Type} : Left H := { results := [], args := [] }

/- WHAT THE LISTED PACKAGE-LEVEL VARIABLES READ AS WHEN THE CALL BEGINS. Each datum BY PROGRAM (the guide's laid-datum.mjs) off the statement by which the dump's own 'gosem.cut.vars' lays the variable. In a bare row this is a premise. The card (YtnpfbjnjdngkhaaGreatDoorCards.lean) ties it to the program's text. -/
def laid_math_bits_deBruijn32tab {H : Type} : DataW H := .agg [.lit (.int .u8 0), .lit (.int .u8 1), .lit (.int .u8 28), .lit (.int .u8 2), .lit (.int .u8 29), .lit (.int .u8 14), .lit (.int .u8 24), .lit (.int .u8 3), .lit (.int .u8 30), .lit (.int .u8 22), .lit (.int .u8 20), .lit (.int .u8 15), .lit (.int .u8 25), .lit (.int .u8 17), .lit (.int .u8 4), .lit (.int .u8 8), .lit (.int .u8 31), .lit (.int .u8 27), .lit (.int .u8 13), .lit (.int .u8 23), .lit (.int .u8 21), .lit (.int .u8 19), .lit (.int .u8 16), .lit (.int .u8 7), .lit (.int .u8 26), .lit (.int .u8 12), .lit (.int .u8 18), .lit (.int .u8 6), .lit (.int .u8 11), .lit (.int .u8 5), .lit (.int .u8 10), .lit (.int .u8 9)]
def laid_math_bits_deBruijn64tab {H : Type} : DataW H := .agg [.lit (.int .u8 0), .lit (.int .u8 1), .lit (.int .u8 56), .lit (.int .u8 2), .lit (.int .u8 57), .lit (.int .u8 49), .lit (.int .u8 28), .lit (.int .u8 3), .lit (.int .u8 61), .lit (.int .u8 58), .lit (.int .u8 42), .lit (.int .u8 50), .lit (.int .u8 38), .lit (.int .u8 29), .lit (.int .u8 17), .lit (.int .u8 4), .lit (.int .u8 62), .lit (.int .u8 47), .lit (.int .u8 59), .lit (.int .u8 36), .lit (.int .u8 45), .lit (.int .u8 43), .lit (.int .u8 51), .lit (.int .u8 22), .lit (.int .u8 53), .lit (.int .u8 39), .lit (.int .u8 33), .lit (.int .u8 30), .lit (.int .u8 24), .lit (.int .u8 18), .lit (.int .u8 12), .lit (.int .u8 5), .lit (.int .u8 63), .lit (.int .u8 55), .lit (.int .u8 48), .lit (.int .u8 27), .lit (.int .u8 60), .lit (.int .u8 41), .lit (.int .u8 37), .lit (.int .u8 16), .lit (.int .u8 46), .lit (.int .u8 35), .lit (.int .u8 44), .lit (.int .u8 21), .lit (.int .u8 52), .lit (.int .u8 32), .lit (.int .u8 23), .lit (.int .u8 11), .lit (.int .u8 54), .lit (.int .u8 26), .lit (.int .u8 40), .lit (.int .u8 15), .lit (.int .u8 34), .lit (.int .u8 20), .lit (.int .u8 31), .lit (.int .u8 10), .lit (.int .u8 25), .lit (.int .u8 14), .lit (.int .u8 19), .lit (.int .u8 9), .lit (.int .u8 13), .lit (.int .u8 8), .lit (.int .u8 7), .lit (.int .u8 6)]
def laid_internal_strconv_uint64pow10 {H : Type} : DataW H := .agg [.lit (.int .u64 1), .lit (.int .u64 10), .lit (.int .u64 100), .lit (.int .u64 1000), .lit (.int .u64 10000), .lit (.int .u64 100000), .lit (.int .u64 1000000), .lit (.int .u64 10000000), .lit (.int .u64 100000000), .lit (.int .u64 1000000000), .lit (.int .u64 10000000000), .lit (.int .u64 100000000000), .lit (.int .u64 1000000000000), .lit (.int .u64 10000000000000), .lit (.int .u64 100000000000000), .lit (.int .u64 1000000000000000), .lit (.int .u64 10000000000000000), .lit (.int .u64 100000000000000000), .lit (.int .u64 1000000000000000000), .lit (.int .u64 10000000000000000000)]
def laid_unicode_utf8_acceptRanges {H : Type} : DataW H := .agg [.agg [.lit (.int .u8 128), .lit (.int .u8 191)], .agg [.lit (.int .u8 160), .lit (.int .u8 191)], .agg [.lit (.int .u8 128), .lit (.int .u8 159)], .agg [.lit (.int .u8 144), .lit (.int .u8 191)], .agg [.lit (.int .u8 128), .lit (.int .u8 143)], .agg [.lit (.int .u8 0), .lit (.int .u8 0)], .agg [.lit (.int .u8 0), .lit (.int .u8 0)], .agg [.lit (.int .u8 0), .lit (.int .u8 0)], .agg [.lit (.int .u8 0), .lit (.int .u8 0)], .agg [.lit (.int .u8 0), .lit (.int .u8 0)], .agg [.lit (.int .u8 0), .lit (.int .u8 0)], .agg [.lit (.int .u8 0), .lit (.int .u8 0)], .agg [.lit (.int .u8 0), .lit (.int .u8 0)], .agg [.lit (.int .u8 0), .lit (.int .u8 0)], .agg [.lit (.int .u8 0), .lit (.int .u8 0)], .agg [.lit (.int .u8 0), .lit (.int .u8 0)]]
/-- One of Go's own tables, pinned by name: the form's constant. -/
def laid_unicode_utf8_first : DataW Unit := Go.Pinned.utf8First

/-- 'nacrelaw04.DyeKnowns': WHATEVER THE INPUT: true; the input reads as it did. -/
def dyeKnownsSpec : ChangeSpec := { name := "dyeKnowns", fn := fun _ => fun
  | [d1, d2] => { results := [.lit (.bool true)], args := [d1, d2] }
  | _ => none }
def dyeKnownsRow : OpenClaim := { program := "ytnpfbjnjdngkhaagreatdoor", sum := "8a107d243a4234ab65020dc5c8c8b3bff0d83d49d33693791117c9d514427bf9", func := "nacre/nacrelaw04.DyeKnowns", spec := "dyeKnowns", inPlace := ["internal/abi.NoEscape", "internal/bytealg.MakeNoZero"], unfollowed := true, recurses := true, named := ["internal/strconv.uint64pow10", "math/bits.deBruijn32tab", "math/bits.deBruijn64tab"], apart := false, laid := [("math/bits.deBruijn32tab", laid_math_bits_deBruijn32tab), ("math/bits.deBruijn64tab", laid_math_bits_deBruijn64tab), ("internal/strconv.uint64pow10", laid_internal_strconv_uint64pow10)] }
def DyeKnownsSaid : Prop := dyeKnownsRow.holds Tryz.pinned (OpenSpec.ofChange dyeKnownsSpec)

/-- ITS FALSE NEIGHBOUR: 'it returns false'. Refute it at one input. -/
def dyeKnownsWrong : ChangeSpec := { name := "dyeKnowns", fn := fun _ => fun
  | [d1, d2] => { results := [.lit (.bool false)], args := [d1, d2] }
  | _ => none }
def DyeKnownsWrongFalsely : Prop := dyeKnownsRow.holds Tryz.pinned (OpenSpec.ofChange dyeKnownsWrong)

/-- 'nacrelaw04.DyeWords': WHATEVER THE INPUT: true; the input reads as it did. -/
def dyeWordsSpec : ChangeSpec := { name := "dyeWords", fn := fun _ => fun
  | [d1, d2, d3, d4, d5] => { results := [.lit (.bool true)], args := [d1, d2, d3, d4, d5] }
  | _ => none }
def dyeWordsRow : OpenClaim := { program := "ytnpfbjnjdngkhaagreatdoor", sum := "8a107d243a4234ab65020dc5c8c8b3bff0d83d49d33693791117c9d514427bf9", func := "nacre/nacrelaw04.DyeWords", spec := "dyeWords", inPlace := ["internal/abi.NoEscape", "internal/bytealg.MakeNoZero"], unfollowed := true, recurses := true, named := ["internal/strconv.uint64pow10", "math/bits.deBruijn32tab", "math/bits.deBruijn64tab"], apart := false, laid := [("math/bits.deBruijn32tab", laid_math_bits_deBruijn32tab), ("math/bits.deBruijn64tab", laid_math_bits_deBruijn64tab), ("internal/strconv.uint64pow10", laid_internal_strconv_uint64pow10)] }
def DyeWordsSaid : Prop := dyeWordsRow.holds Tryz.pinned (OpenSpec.ofChange dyeWordsSpec)

/-- ITS FALSE NEIGHBOUR: 'it returns false'. Refute it at one input. -/
def dyeWordsWrong : ChangeSpec := { name := "dyeWords", fn := fun _ => fun
  | [d1, d2, d3, d4, d5] => { results := [.lit (.bool false)], args := [d1, d2, d3, d4, d5] }
  | _ => none }
def DyeWordsWrongFalsely : Prop := dyeWordsRow.holds Tryz.pinned (OpenSpec.ofChange dyeWordsWrong)

/-- 'nacrelaw04.DyeRipes': WHATEVER THE INPUT: true; the input reads as it did. -/
def dyeRipesSpec : ChangeSpec := { name := "dyeRipes", fn := fun _ => fun
  | [d1, d2, d3, d4, d5, d6] => { results := [.lit (.bool true)], args := [d1, d2, d3, d4, d5, d6] }
  | _ => none }
def dyeRipesRow : OpenClaim := { program := "ytnpfbjnjdngkhaagreatdoor", sum := "8a107d243a4234ab65020dc5c8c8b3bff0d83d49d33693791117c9d514427bf9", func := "nacre/nacrelaw04.DyeRipes", spec := "dyeRipes", inPlace := ["internal/abi.NoEscape", "internal/bytealg.MakeNoZero"], unfollowed := true, recurses := true, named := ["internal/strconv.uint64pow10", "math/bits.deBruijn32tab", "math/bits.deBruijn64tab"], apart := false, laid := [("math/bits.deBruijn32tab", laid_math_bits_deBruijn32tab), ("math/bits.deBruijn64tab", laid_math_bits_deBruijn64tab), ("internal/strconv.uint64pow10", laid_internal_strconv_uint64pow10)] }
def DyeRipesSaid : Prop := dyeRipesRow.holds Tryz.pinned (OpenSpec.ofChange dyeRipesSpec)

/-- ITS FALSE NEIGHBOUR: 'it returns false'. Refute it at one input. -/
def dyeRipesWrong : ChangeSpec := { name := "dyeRipes", fn := fun _ => fun
  | [d1, d2, d3, d4, d5, d6] => { results := [.lit (.bool false)], args := [d1, d2, d3, d4, d5, d6] }
  | _ => none }
def DyeRipesWrongFalsely : Prop := dyeRipesRow.holds Tryz.pinned (OpenSpec.ofChange dyeRipesWrong)

/-- 'nacrelaw04.DyeCoats': WHATEVER THE INPUT: true; the input reads as it did. -/
def dyeCoatsSpec : ChangeSpec := { name := "dyeCoats", fn := fun _ => fun
  | [d1, d2, d3] => { results := [.lit (.bool true)], args := [d1, d2, d3] }
  | _ => none }
def dyeCoatsRow : OpenClaim := { program := "ytnpfbjnjdngkhaagreatdoor", sum := "8a107d243a4234ab65020dc5c8c8b3bff0d83d49d33693791117c9d514427bf9", func := "nacre/nacrelaw04.DyeCoats", spec := "dyeCoats", inPlace := ["internal/abi.NoEscape", "internal/bytealg.MakeNoZero"], unfollowed := true, recurses := true, named := ["internal/strconv.uint64pow10", "math/bits.deBruijn32tab", "math/bits.deBruijn64tab"], apart := false, laid := [("math/bits.deBruijn32tab", laid_math_bits_deBruijn32tab), ("math/bits.deBruijn64tab", laid_math_bits_deBruijn64tab), ("internal/strconv.uint64pow10", laid_internal_strconv_uint64pow10)] }
def DyeCoatsSaid : Prop := dyeCoatsRow.holds Tryz.pinned (OpenSpec.ofChange dyeCoatsSpec)

/-- ITS FALSE NEIGHBOUR: 'it returns false'. Refute it at one input. -/
def dyeCoatsWrong : ChangeSpec := { name := "dyeCoats", fn := fun _ => fun
  | [d1, d2, d3] => { results := [.lit (.bool false)], args := [d1, d2, d3] }
  | _ => none }
def DyeCoatsWrongFalsely : Prop := dyeCoatsRow.holds Tryz.pinned (OpenSpec.ofChange dyeCoatsWrong)

/-- 'nacrelaw04.DyeLaid': WHATEVER THE INPUT: true; the input reads as it did. -/
def dyeLaidSpec : ChangeSpec := { name := "dyeLaid", fn := fun _ => fun
  | [d1, d2, d3] => { results := [.lit (.bool true)], args := [d1, d2, d3] }
  | _ => none }
def dyeLaidRow : OpenClaim := { program := "ytnpfbjnjdngkhaagreatdoor", sum := "8a107d243a4234ab65020dc5c8c8b3bff0d83d49d33693791117c9d514427bf9", func := "nacre/nacrelaw04.DyeLaid", spec := "dyeLaid", inPlace := ["internal/abi.NoEscape", "internal/bytealg.MakeNoZero"], unfollowed := true, recurses := true, named := ["internal/strconv.uint64pow10", "math/bits.deBruijn32tab", "math/bits.deBruijn64tab"], apart := false, laid := [("math/bits.deBruijn32tab", laid_math_bits_deBruijn32tab), ("math/bits.deBruijn64tab", laid_math_bits_deBruijn64tab), ("internal/strconv.uint64pow10", laid_internal_strconv_uint64pow10)] }
def DyeLaidSaid : Prop := dyeLaidRow.holds Tryz.pinned (OpenSpec.ofChange dyeLaidSpec)

/-- ITS FALSE NEIGHBOUR: 'it returns false'. Refute it at one input. -/
def dyeLaidWrong : ChangeSpec := { name := "dyeLaid", fn := fun _ => fun
  | [d1, d2, d3] => { results := [.lit (.bool false)], args := [d1, d2, d3] }
  | _ => none }
def DyeLaidWrongFalsely : Prop := dyeLaidRow.holds Tryz.pinned (OpenSpec.ofChange dyeLaidWrong)

/-- 'nacrelaw04.DyeProves': WHATEVER THE INPUT: true; the input reads as it did. -/
def dyeProvesSpec : ChangeSpec := { name := "dyeProves", fn := fun _ => fun
  | [d1, d2] => { results := [.lit (.bool true)], args := [d1, d2] }
  | _ => none }
def dyeProvesRow : OpenClaim := { program := "ytnpfbjnjdngkhaagreatdoor", sum := "8a107d243a4234ab65020dc5c8c8b3bff0d83d49d33693791117c9d514427bf9", func := "nacre/nacrelaw04.DyeProves", spec := "dyeProves", inPlace := ["internal/abi.NoEscape", "internal/bytealg.MakeNoZero"], unfollowed := true, recurses := true, named := ["internal/strconv.uint64pow10", "math/bits.deBruijn32tab", "math/bits.deBruijn64tab"], apart := false, laid := [("math/bits.deBruijn32tab", laid_math_bits_deBruijn32tab), ("math/bits.deBruijn64tab", laid_math_bits_deBruijn64tab), ("internal/strconv.uint64pow10", laid_internal_strconv_uint64pow10)] }
def DyeProvesSaid : Prop := dyeProvesRow.holds Tryz.pinned (OpenSpec.ofChange dyeProvesSpec)

/-- ITS FALSE NEIGHBOUR: 'it returns false'. Refute it at one input. -/
def dyeProvesWrong : ChangeSpec := { name := "dyeProves", fn := fun _ => fun
  | [d1, d2] => { results := [.lit (.bool false)], args := [d1, d2] }
  | _ => none }
def DyeProvesWrongFalsely : Prop := dyeProvesRow.holds Tryz.pinned (OpenSpec.ofChange dyeProvesWrong)

/-- 'nacrelaw04.DyeReads': WHATEVER THE INPUT: true; the input reads as it did. -/
def dyeReadsSpec : ChangeSpec := { name := "dyeReads", fn := fun _ => fun
  | [d] => { results := [.lit (.bool true)], args := [d] }
  | _ => none }
def dyeReadsRow : OpenClaim := { program := "ytnpfbjnjdngkhaagreatdoor", sum := "8a107d243a4234ab65020dc5c8c8b3bff0d83d49d33693791117c9d514427bf9", func := "nacre/nacrelaw04.DyeReads", spec := "dyeReads", inPlace := ["internal/abi.NoEscape", "internal/bytealg.MakeNoZero", "internal/bytealg.CountString", "internal/bytealg.IndexByteString", "internal/bytealg.IndexString"], unfollowed := true, recurses := true, named := ["internal/strconv.uint64pow10", "math/bits.deBruijn32tab", "math/bits.deBruijn64tab", "unicode/utf8.first", "unicode/utf8.acceptRanges", "internal/bytealg.MaxLen"], apart := false, laid := [("math/bits.deBruijn32tab", laid_math_bits_deBruijn32tab), ("math/bits.deBruijn64tab", laid_math_bits_deBruijn64tab), ("internal/strconv.uint64pow10", laid_internal_strconv_uint64pow10), ("unicode/utf8.acceptRanges", laid_unicode_utf8_acceptRanges), ("unicode/utf8.first", laid_unicode_utf8_first)] }
def DyeReadsSaid : Prop := dyeReadsRow.holds Tryz.pinned (OpenSpec.ofChange dyeReadsSpec)

/-- ITS FALSE NEIGHBOUR: 'it returns false'. Refute it at one input. -/
def dyeReadsWrong : ChangeSpec := { name := "dyeReads", fn := fun _ => fun
  | [d] => { results := [.lit (.bool false)], args := [d] }
  | _ => none }
def DyeReadsWrongFalsely : Prop := dyeReadsRow.holds Tryz.pinned (OpenSpec.ofChange dyeReadsWrong)

/-- 'nacrelaw04.DyeProven': WHATEVER THE INPUT: true; the input reads as it did. -/
def dyeProvenSpec : ChangeSpec := { name := "dyeProven", fn := fun _ => fun
  | [d1, d2, d3, d4, d5] => { results := [.lit (.bool true)], args := [d1, d2, d3, d4, d5] }
  | _ => none }
def dyeProvenRow : OpenClaim := { program := "ytnpfbjnjdngkhaagreatdoor", sum := "8a107d243a4234ab65020dc5c8c8b3bff0d83d49d33693791117c9d514427bf9", func := "nacre/nacrelaw04.DyeProven", spec := "dyeProven", inPlace := ["internal/abi.NoEscape", "internal/bytealg.MakeNoZero"], unfollowed := true, recurses := true, named := ["internal/strconv.uint64pow10", "math/bits.deBruijn32tab", "math/bits.deBruijn64tab"], apart := false, laid := [("math/bits.deBruijn32tab", laid_math_bits_deBruijn32tab), ("math/bits.deBruijn64tab", laid_math_bits_deBruijn64tab), ("internal/strconv.uint64pow10", laid_internal_strconv_uint64pow10)] }
def DyeProvenSaid : Prop := dyeProvenRow.holds Tryz.pinned (OpenSpec.ofChange dyeProvenSpec)

/-- ITS FALSE NEIGHBOUR: 'it returns false'. Refute it at one input. -/
def dyeProvenWrong : ChangeSpec := { name := "dyeProven", fn := fun _ => fun
  | [d1, d2, d3, d4, d5] => { results := [.lit (.bool false)], args := [d1, d2, d3, d4, d5] }
  | _ => none }
def DyeProvenWrongFalsely : Prop := dyeProvenRow.holds Tryz.pinned (OpenSpec.ofChange dyeProvenWrong)

/-- 'nacrelaw04.DyeReached': WHATEVER THE INPUT: true; the input reads as it did. -/
def dyeReachedSpec : ChangeSpec := { name := "dyeReached", fn := fun _ => fun
  | [d1, d2] => { results := [.lit (.bool true)], args := [d1, d2] }
  | _ => none }
def dyeReachedRow : OpenClaim := { program := "ytnpfbjnjdngkhaagreatdoor", sum := "8a107d243a4234ab65020dc5c8c8b3bff0d83d49d33693791117c9d514427bf9", func := "nacre/nacrelaw04.DyeReached", spec := "dyeReached", inPlace := ["internal/abi.NoEscape", "internal/bytealg.MakeNoZero"], unfollowed := true, recurses := true, named := ["internal/strconv.uint64pow10", "math/bits.deBruijn32tab", "math/bits.deBruijn64tab"], apart := false, laid := [("math/bits.deBruijn32tab", laid_math_bits_deBruijn32tab), ("math/bits.deBruijn64tab", laid_math_bits_deBruijn64tab), ("internal/strconv.uint64pow10", laid_internal_strconv_uint64pow10)] }
def DyeReachedSaid : Prop := dyeReachedRow.holds Tryz.pinned (OpenSpec.ofChange dyeReachedSpec)

/-- ITS FALSE NEIGHBOUR: 'it returns false'. Refute it at one input. -/
def dyeReachedWrong : ChangeSpec := { name := "dyeReached", fn := fun _ => fun
  | [d1, d2] => { results := [.lit (.bool false)], args := [d1, d2] }
  | _ => none }
def DyeReachedWrongFalsely : Prop := dyeReachedRow.holds Tryz.pinned (OpenSpec.ofChange dyeReachedWrong)

/-- 'nacrelaw04.DyeSpoilt': WHATEVER THE INPUT: true; the input reads as it did. -/
def dyeSpoiltSpec : ChangeSpec := { name := "dyeSpoilt", fn := fun _ => fun
  | [d1, d2, d3, d4] => { results := [.lit (.bool true)], args := [d1, d2, d3, d4] }
  | _ => none }
def dyeSpoiltRow : OpenClaim := { program := "ytnpfbjnjdngkhaagreatdoor", sum := "8a107d243a4234ab65020dc5c8c8b3bff0d83d49d33693791117c9d514427bf9", func := "nacre/nacrelaw04.DyeSpoilt", spec := "dyeSpoilt", inPlace := ["internal/abi.NoEscape", "internal/bytealg.MakeNoZero", "internal/bytealg.CountString", "internal/bytealg.IndexByteString", "internal/bytealg.IndexString"], unfollowed := true, recurses := true, named := ["internal/strconv.uint64pow10", "math/bits.deBruijn32tab", "math/bits.deBruijn64tab", "unicode/utf8.first", "unicode/utf8.acceptRanges", "internal/bytealg.MaxLen"], apart := false, laid := [("math/bits.deBruijn32tab", laid_math_bits_deBruijn32tab), ("math/bits.deBruijn64tab", laid_math_bits_deBruijn64tab), ("internal/strconv.uint64pow10", laid_internal_strconv_uint64pow10), ("unicode/utf8.acceptRanges", laid_unicode_utf8_acceptRanges), ("unicode/utf8.first", laid_unicode_utf8_first)] }
def DyeSpoiltSaid : Prop := dyeSpoiltRow.holds Tryz.pinned (OpenSpec.ofChange dyeSpoiltSpec)

/-- ITS FALSE NEIGHBOUR: 'it returns false'. Refute it at one input. -/
def dyeSpoiltWrong : ChangeSpec := { name := "dyeSpoilt", fn := fun _ => fun
  | [d1, d2, d3, d4] => { results := [.lit (.bool false)], args := [d1, d2, d3, d4] }
  | _ => none }
def DyeSpoiltWrongFalsely : Prop := dyeSpoiltRow.holds Tryz.pinned (OpenSpec.ofChange dyeSpoiltWrong)

/-- 'nacrelaw04.DyeTogethers': WHATEVER THE INPUT: true; the input reads as it did. -/
def dyeTogethersSpec : ChangeSpec := { name := "dyeTogethers", fn := fun _ => fun
  | [d1, d2, d3] => { results := [.lit (.bool true)], args := [d1, d2, d3] }
  | _ => none }
def dyeTogethersRow : OpenClaim := { program := "ytnpfbjnjdngkhaagreatdoor", sum := "8a107d243a4234ab65020dc5c8c8b3bff0d83d49d33693791117c9d514427bf9", func := "nacre/nacrelaw04.DyeTogethers", spec := "dyeTogethers", inPlace := ["internal/abi.NoEscape", "internal/bytealg.MakeNoZero"], unfollowed := true, recurses := true, named := ["internal/strconv.uint64pow10", "math/bits.deBruijn32tab", "math/bits.deBruijn64tab"], apart := false, laid := [("math/bits.deBruijn32tab", laid_math_bits_deBruijn32tab), ("math/bits.deBruijn64tab", laid_math_bits_deBruijn64tab), ("internal/strconv.uint64pow10", laid_internal_strconv_uint64pow10)] }
def DyeTogethersSaid : Prop := dyeTogethersRow.holds Tryz.pinned (OpenSpec.ofChange dyeTogethersSpec)

/-- ITS FALSE NEIGHBOUR: 'it returns false'. Refute it at one input. -/
def dyeTogethersWrong : ChangeSpec := { name := "dyeTogethers", fn := fun _ => fun
  | [d1, d2, d3] => { results := [.lit (.bool false)], args := [d1, d2, d3] }
  | _ => none }
def DyeTogethersWrongFalsely : Prop := dyeTogethersRow.holds Tryz.pinned (OpenSpec.ofChange dyeTogethersWrong)

/-- 'nacrelaw04.DyeMore': WHATEVER THE INPUT: true; the input reads as it did. -/
def dyeMoreSpec : ChangeSpec := { name := "dyeMore", fn := fun _ => fun
  | [d1, d2, d3, d4, d5, d6, d7, d8] => { results := [.lit (.bool true)], args := [d1, d2, d3, d4, d5, d6, d7, d8] }
  | _ => none }
def dyeMoreRow : OpenClaim := { program := "ytnpfbjnjdngkhaagreatdoor", sum := "8a107d243a4234ab65020dc5c8c8b3bff0d83d49d33693791117c9d514427bf9", func := "nacre/nacrelaw04.DyeMore", spec := "dyeMore", inPlace := ["internal/abi.NoEscape", "internal/bytealg.MakeNoZero"], unfollowed := true, recurses := true, named := ["internal/strconv.uint64pow10", "math/bits.deBruijn32tab", "math/bits.deBruijn64tab"], apart := false, laid := [("math/bits.deBruijn32tab", laid_math_bits_deBruijn32tab), ("math/bits.deBruijn64tab", laid_math_bits_deBruijn64tab), ("internal/strconv.uint64pow10", laid_internal_strconv_uint64pow10)] }
def DyeMoreSaid : Prop := dyeMoreRow.holds Tryz.pinned (OpenSpec.ofChange dyeMoreSpec)

/-- ITS FALSE NEIGHBOUR: 'it returns false'. Refute it at one input. -/
def dyeMoreWrong : ChangeSpec := { name := "dyeMore", fn := fun _ => fun
  | [d1, d2, d3, d4, d5, d6, d7, d8] => { results := [.lit (.bool false)], args := [d1, d2, d3, d4, d5, d6, d7, d8] }
  | _ => none }
def DyeMoreWrongFalsely : Prop := dyeMoreRow.holds Tryz.pinned (OpenSpec.ofChange dyeMoreWrong)

/-- 'nacrelaw04.DyeAparts': WHATEVER THE INPUT: true; the input reads as it did. -/
def dyeApartsSpec : ChangeSpec := { name := "dyeAparts", fn := fun _ => fun
  | [d1, d2, d3, d4] => { results := [.lit (.bool true)], args := [d1, d2, d3, d4] }
  | _ => none }
def dyeApartsRow : OpenClaim := { program := "ytnpfbjnjdngkhaagreatdoor", sum := "8a107d243a4234ab65020dc5c8c8b3bff0d83d49d33693791117c9d514427bf9", func := "nacre/nacrelaw04.DyeAparts", spec := "dyeAparts", inPlace := ["internal/abi.NoEscape", "internal/bytealg.MakeNoZero"], unfollowed := true, recurses := true, named := ["internal/strconv.uint64pow10", "math/bits.deBruijn32tab", "math/bits.deBruijn64tab"], apart := false, laid := [("math/bits.deBruijn32tab", laid_math_bits_deBruijn32tab), ("math/bits.deBruijn64tab", laid_math_bits_deBruijn64tab), ("internal/strconv.uint64pow10", laid_internal_strconv_uint64pow10)] }
def DyeApartsSaid : Prop := dyeApartsRow.holds Tryz.pinned (OpenSpec.ofChange dyeApartsSpec)

/-- ITS FALSE NEIGHBOUR: 'it returns false'. Refute it at one input. -/
def dyeApartsWrong : ChangeSpec := { name := "dyeAparts", fn := fun _ => fun
  | [d1, d2, d3, d4] => { results := [.lit (.bool false)], args := [d1, d2, d3, d4] }
  | _ => none }
def DyeApartsWrongFalsely : Prop := dyeApartsRow.holds Tryz.pinned (OpenSpec.ofChange dyeApartsWrong)

/-- 'nacrelaw04.DyeTurned': WHATEVER THE INPUT: true; the input reads as it did. -/
def dyeTurnedSpec : ChangeSpec := { name := "dyeTurned", fn := fun _ => fun
  | [d1, d2, d3, d4, d5] => { results := [.lit (.bool true)], args := [d1, d2, d3, d4, d5] }
  | _ => none }
def dyeTurnedRow : OpenClaim := { program := "ytnpfbjnjdngkhaagreatdoor", sum := "8a107d243a4234ab65020dc5c8c8b3bff0d83d49d33693791117c9d514427bf9", func := "nacre/nacrelaw04.DyeTurned", spec := "dyeTurned", inPlace := ["internal/abi.NoEscape", "internal/bytealg.MakeNoZero"], unfollowed := true, recurses := true, named := ["internal/strconv.uint64pow10", "math/bits.deBruijn32tab", "math/bits.deBruijn64tab"], apart := false, laid := [("math/bits.deBruijn32tab", laid_math_bits_deBruijn32tab), ("math/bits.deBruijn64tab", laid_math_bits_deBruijn64tab), ("internal/strconv.uint64pow10", laid_internal_strconv_uint64pow10)] }
def DyeTurnedSaid : Prop := dyeTurnedRow.holds Tryz.pinned (OpenSpec.ofChange dyeTurnedSpec)

/-- ITS FALSE NEIGHBOUR: 'it returns false'. Refute it at one input. -/
def dyeTurnedWrong : ChangeSpec := { name := "dyeTurned", fn := fun _ => fun
  | [d1, d2, d3, d4, d5] => { results := [.lit (.bool false)], args := [d1, d2, d3, d4, d5] }
  | _ => none }
def DyeTurnedWrongFalsely : Prop := dyeTurnedRow.holds Tryz.pinned (OpenSpec.ofChange dyeTurnedWrong)

/-- 'nacrelaw04.DyeSuits': WHATEVER THE INPUT: true; the input reads as it did. -/
def dyeSuitsSpec : ChangeSpec := { name := "dyeSuits", fn := fun _ => fun
  | [d1, d2, d3, d4] => { results := [.lit (.bool true)], args := [d1, d2, d3, d4] }
  | _ => none }
def dyeSuitsRow : OpenClaim := { program := "ytnpfbjnjdngkhaagreatdoor", sum := "8a107d243a4234ab65020dc5c8c8b3bff0d83d49d33693791117c9d514427bf9", func := "nacre/nacrelaw04.DyeSuits", spec := "dyeSuits", inPlace := ["internal/abi.NoEscape", "internal/bytealg.MakeNoZero"], unfollowed := true, recurses := true, named := ["internal/strconv.uint64pow10", "math/bits.deBruijn32tab", "math/bits.deBruijn64tab"], apart := false, laid := [("math/bits.deBruijn32tab", laid_math_bits_deBruijn32tab), ("math/bits.deBruijn64tab", laid_math_bits_deBruijn64tab), ("internal/strconv.uint64pow10", laid_internal_strconv_uint64pow10)] }
def DyeSuitsSaid : Prop := dyeSuitsRow.holds Tryz.pinned (OpenSpec.ofChange dyeSuitsSpec)

/-- ITS FALSE NEIGHBOUR: 'it returns false'. Refute it at one input. -/
def dyeSuitsWrong : ChangeSpec := { name := "dyeSuits", fn := fun _ => fun
  | [d1, d2, d3, d4] => { results := [.lit (.bool false)], args := [d1, d2, d3, d4] }
  | _ => none }
def DyeSuitsWrongFalsely : Prop := dyeSuitsRow.holds Tryz.pinned (OpenSpec.ofChange dyeSuitsWrong)

/-- 'nacrelaw04.DyeRivals': WHATEVER THE INPUT: true; the input reads as it did. -/
def dyeRivalsSpec : ChangeSpec := { name := "dyeRivals", fn := fun _ => fun
  | [d1, d2, d3, d4] => { results := [.lit (.bool true)], args := [d1, d2, d3, d4] }
  | _ => none }
def dyeRivalsRow : OpenClaim := { program := "ytnpfbjnjdngkhaagreatdoor", sum := "8a107d243a4234ab65020dc5c8c8b3bff0d83d49d33693791117c9d514427bf9", func := "nacre/nacrelaw04.DyeRivals", spec := "dyeRivals", inPlace := ["internal/abi.NoEscape", "internal/bytealg.MakeNoZero"], unfollowed := true, recurses := true, named := ["internal/strconv.uint64pow10", "math/bits.deBruijn32tab", "math/bits.deBruijn64tab"], apart := false, laid := [("math/bits.deBruijn32tab", laid_math_bits_deBruijn32tab), ("math/bits.deBruijn64tab", laid_math_bits_deBruijn64tab), ("internal/strconv.uint64pow10", laid_internal_strconv_uint64pow10)] }
def DyeRivalsSaid : Prop := dyeRivalsRow.holds Tryz.pinned (OpenSpec.ofChange dyeRivalsSpec)

/-- ITS FALSE NEIGHBOUR: 'it returns false'. Refute it at one input. -/
def dyeRivalsWrong : ChangeSpec := { name := "dyeRivals", fn := fun _ => fun
  | [d1, d2, d3, d4] => { results := [.lit (.bool false)], args := [d1, d2, d3, d4] }
  | _ => none }
def DyeRivalsWrongFalsely : Prop := dyeRivalsRow.holds Tryz.pinned (OpenSpec.ofChange dyeRivalsWrong)

/-- 'nacrelaw04.DyeLays': WHATEVER THE INPUT: true; the input reads as it did. -/
def dyeLaysSpec : ChangeSpec := { name := "dyeLays", fn := fun _ => fun
  | [d1, d2, d3] => { results := [.lit (.bool true)], args := [d1, d2, d3] }
  | _ => none }
def dyeLaysRow : OpenClaim := { program := "ytnpfbjnjdngkhaagreatdoor", sum := "8a107d243a4234ab65020dc5c8c8b3bff0d83d49d33693791117c9d514427bf9", func := "nacre/nacrelaw04.DyeLays", spec := "dyeLays", inPlace := ["internal/abi.NoEscape", "internal/bytealg.MakeNoZero"], unfollowed := true, recurses := true, named := ["internal/strconv.uint64pow10", "math/bits.deBruijn32tab", "math/bits.deBruijn64tab"], apart := false, laid := [("math/bits.deBruijn32tab", laid_math_bits_deBruijn32tab), ("math/bits.deBruijn64tab", laid_math_bits_deBruijn64tab), ("internal/strconv.uint64pow10", laid_internal_strconv_uint64pow10)] }
def DyeLaysSaid : Prop := dyeLaysRow.holds Tryz.pinned (OpenSpec.ofChange dyeLaysSpec)

/-- ITS FALSE NEIGHBOUR: 'it returns false'. Refute it at one input. -/
def dyeLaysWrong : ChangeSpec := { name := "dyeLays", fn := fun _ => fun
  | [d1, d2, d3] => { results := [.lit (.bool false)], args := [d1, d2, d3] }
  | _ => none }
def DyeLaysWrongFalsely : Prop := dyeLaysRow.holds Tryz.pinned (OpenSpec.ofChange dyeLaysWrong)

/-- 'nacrelaw04.DyeEnds': WHATEVER THE INPUT: true; the input reads as it did. -/
def dyeEndsSpec : ChangeSpec := { name := "dyeEnds", fn := fun _ => fun
  | [d1, d2] => { results := [.lit (.bool true)], args := [d1, d2] }
  | _ => none }
def dyeEndsRow : OpenClaim := { program := "ytnpfbjnjdngkhaagreatdoor", sum := "8a107d243a4234ab65020dc5c8c8b3bff0d83d49d33693791117c9d514427bf9", func := "nacre/nacrelaw04.DyeEnds", spec := "dyeEnds", inPlace := ["internal/abi.NoEscape", "internal/bytealg.MakeNoZero"], unfollowed := true, recurses := true, named := ["internal/strconv.uint64pow10", "math/bits.deBruijn32tab", "math/bits.deBruijn64tab"], apart := false, laid := [("math/bits.deBruijn32tab", laid_math_bits_deBruijn32tab), ("math/bits.deBruijn64tab", laid_math_bits_deBruijn64tab), ("internal/strconv.uint64pow10", laid_internal_strconv_uint64pow10)] }
def DyeEndsSaid : Prop := dyeEndsRow.holds Tryz.pinned (OpenSpec.ofChange dyeEndsSpec)

/-- ITS FALSE NEIGHBOUR: 'it returns false'. Refute it at one input. -/
def dyeEndsWrong : ChangeSpec := { name := "dyeEnds", fn := fun _ => fun
  | [d1, d2] => { results := [.lit (.bool false)], args := [d1, d2] }
  | _ => none }
def DyeEndsWrongFalsely : Prop := dyeEndsRow.holds Tryz.pinned (OpenSpec.ofChange dyeEndsWrong)

/-- 'nacrelaw04.DyeDiffer': WHATEVER THE INPUT: true; the input reads as it did. -/
def dyeDifferSpec : ChangeSpec := { name := "dyeDiffer", fn := fun _ => fun
  | [d1, d2, d3, d4, d5, d6, d7, d8, d9] => { results := [.lit (.bool true)], args := [d1, d2, d3, d4, d5, d6, d7, d8, d9] }
  | _ => none }
def dyeDifferRow : OpenClaim := { program := "ytnpfbjnjdngkhaagreatdoor", sum := "8a107d243a4234ab65020dc5c8c8b3bff0d83d49d33693791117c9d514427bf9", func := "nacre/nacrelaw04.DyeDiffer", spec := "dyeDiffer", inPlace := ["internal/abi.NoEscape", "internal/bytealg.MakeNoZero"], unfollowed := true, recurses := true, named := ["internal/strconv.uint64pow10", "math/bits.deBruijn32tab", "math/bits.deBruijn64tab"], apart := false, laid := [("math/bits.deBruijn32tab", laid_math_bits_deBruijn32tab), ("math/bits.deBruijn64tab", laid_math_bits_deBruijn64tab), ("internal/strconv.uint64pow10", laid_internal_strconv_uint64pow10)] }
def DyeDifferSaid : Prop := dyeDifferRow.holds Tryz.pinned (OpenSpec.ofChange dyeDifferSpec)

/-- ITS FALSE NEIGHBOUR: 'it returns false'. Refute it at one input. -/
def dyeDifferWrong : ChangeSpec := { name := "dyeDiffer", fn := fun _ => fun
  | [d1, d2, d3, d4, d5, d6, d7, d8, d9] => { results := [.lit (.bool false)], args := [d1, d2, d3, d4, d5, d6, d7, d8, d9] }
  | _ => none }
def DyeDifferWrongFalsely : Prop := dyeDifferRow.holds Tryz.pinned (OpenSpec.ofChange dyeDifferWrong)

/-- 'nacrelaw04.DyeRuns': WHATEVER THE INPUT: true; the input reads as it did. -/
def dyeRunsSpec : ChangeSpec := { name := "dyeRuns", fn := fun _ => fun
  | [d1, d2, d3] => { results := [.lit (.bool true)], args := [d1, d2, d3] }
  | _ => none }
def dyeRunsRow : OpenClaim := { program := "ytnpfbjnjdngkhaagreatdoor", sum := "8a107d243a4234ab65020dc5c8c8b3bff0d83d49d33693791117c9d514427bf9", func := "nacre/nacrelaw04.DyeRuns", spec := "dyeRuns", inPlace := ["internal/abi.NoEscape", "internal/bytealg.MakeNoZero"], unfollowed := true, recurses := true, named := ["internal/strconv.uint64pow10", "math/bits.deBruijn32tab", "math/bits.deBruijn64tab"], apart := false, laid := [("math/bits.deBruijn32tab", laid_math_bits_deBruijn32tab), ("math/bits.deBruijn64tab", laid_math_bits_deBruijn64tab), ("internal/strconv.uint64pow10", laid_internal_strconv_uint64pow10)] }
def DyeRunsSaid : Prop := dyeRunsRow.holds Tryz.pinned (OpenSpec.ofChange dyeRunsSpec)

/-- ITS FALSE NEIGHBOUR: 'it returns false'. Refute it at one input. -/
def dyeRunsWrong : ChangeSpec := { name := "dyeRuns", fn := fun _ => fun
  | [d1, d2, d3] => { results := [.lit (.bool false)], args := [d1, d2, d3] }
  | _ => none }
def DyeRunsWrongFalsely : Prop := dyeRunsRow.holds Tryz.pinned (OpenSpec.ofChange dyeRunsWrong)

/-- 'nacrelaw04.DyeTrue': WHATEVER THE INPUT: true; the input reads as it did. -/
def dyeTrueSpec : ChangeSpec := { name := "dyeTrue", fn := fun _ => fun
  | [d1, d2, d3, d4] => { results := [.lit (.bool true)], args := [d1, d2, d3, d4] }
  | _ => none }
def dyeTrueRow : OpenClaim := { program := "ytnpfbjnjdngkhaagreatdoor", sum := "8a107d243a4234ab65020dc5c8c8b3bff0d83d49d33693791117c9d514427bf9", func := "nacre/nacrelaw04.DyeTrue", spec := "dyeTrue", inPlace := ["internal/abi.NoEscape", "internal/bytealg.MakeNoZero"], unfollowed := true, recurses := true, named := ["internal/strconv.uint64pow10", "math/bits.deBruijn32tab", "math/bits.deBruijn64tab"], apart := false, laid := [("math/bits.deBruijn32tab", laid_math_bits_deBruijn32tab), ("math/bits.deBruijn64tab", laid_math_bits_deBruijn64tab), ("internal/strconv.uint64pow10", laid_internal_strconv_uint64pow10)] }
def DyeTrueSaid : Prop := dyeTrueRow.holds Tryz.pinned (OpenSpec.ofChange dyeTrueSpec)

/-- ITS FALSE NEIGHBOUR: 'it returns false'. Refute it at one input. -/
def dyeTrueWrong : ChangeSpec := { name := "dyeTrue", fn := fun _ => fun
  | [d1, d2, d3, d4] => { results := [.lit (.bool false)], args := [d1, d2, d3, d4] }
  | _ => none }
def DyeTrueWrongFalsely : Prop := dyeTrueRow.holds Tryz.pinned (OpenSpec.ofChange dyeTrueWrong)

/-- 'nacrelaw04.DyeReady': WHATEVER THE INPUT: true; the input reads as it did. -/
def dyeReadySpec : ChangeSpec := { name := "dyeReady", fn := fun _ => fun
  | [d1, d2, d3, d4, d5, d6, d7, d8] => { results := [.lit (.bool true)], args := [d1, d2, d3, d4, d5, d6, d7, d8] }
  | _ => none }
def dyeReadyRow : OpenClaim := { program := "ytnpfbjnjdngkhaagreatdoor", sum := "8a107d243a4234ab65020dc5c8c8b3bff0d83d49d33693791117c9d514427bf9", func := "nacre/nacrelaw04.DyeReady", spec := "dyeReady", inPlace := ["internal/abi.NoEscape", "internal/bytealg.MakeNoZero"], unfollowed := true, recurses := true, named := ["internal/strconv.uint64pow10", "math/bits.deBruijn32tab", "math/bits.deBruijn64tab"], apart := false, laid := [("math/bits.deBruijn32tab", laid_math_bits_deBruijn32tab), ("math/bits.deBruijn64tab", laid_math_bits_deBruijn64tab), ("internal/strconv.uint64pow10", laid_internal_strconv_uint64pow10)] }
def DyeReadySaid : Prop := dyeReadyRow.holds Tryz.pinned (OpenSpec.ofChange dyeReadySpec)

/-- ITS FALSE NEIGHBOUR: 'it returns false'. Refute it at one input. -/
def dyeReadyWrong : ChangeSpec := { name := "dyeReady", fn := fun _ => fun
  | [d1, d2, d3, d4, d5, d6, d7, d8] => { results := [.lit (.bool false)], args := [d1, d2, d3, d4, d5, d6, d7, d8] }
  | _ => none }
def DyeReadyWrongFalsely : Prop := dyeReadyRow.holds Tryz.pinned (OpenSpec.ofChange dyeReadyWrong)

/-- 'nacrelaw04.DyeMatched': WHATEVER THE INPUT: true; the input reads as it did. -/
def dyeMatchedSpec : ChangeSpec := { name := "dyeMatched", fn := fun _ => fun
  | [d1, d2, d3, d4, d5, d6, d7, d8, d9, d10, d11] => { results := [.lit (.bool true)], args := [d1, d2, d3, d4, d5, d6, d7, d8, d9, d10, d11] }
  | _ => none }
def dyeMatchedRow : OpenClaim := { program := "ytnpfbjnjdngkhaagreatdoor", sum := "8a107d243a4234ab65020dc5c8c8b3bff0d83d49d33693791117c9d514427bf9", func := "nacre/nacrelaw04.DyeMatched", spec := "dyeMatched", inPlace := ["internal/abi.NoEscape", "internal/bytealg.MakeNoZero"], unfollowed := true, recurses := true, named := ["internal/strconv.uint64pow10", "math/bits.deBruijn32tab", "math/bits.deBruijn64tab"], apart := false, laid := [("math/bits.deBruijn32tab", laid_math_bits_deBruijn32tab), ("math/bits.deBruijn64tab", laid_math_bits_deBruijn64tab), ("internal/strconv.uint64pow10", laid_internal_strconv_uint64pow10)] }
def DyeMatchedSaid : Prop := dyeMatchedRow.holds Tryz.pinned (OpenSpec.ofChange dyeMatchedSpec)

/-- ITS FALSE NEIGHBOUR: 'it returns false'. Refute it at one input. -/
def dyeMatchedWrong : ChangeSpec := { name := "dyeMatched", fn := fun _ => fun
  | [d1, d2, d3, d4, d5, d6, d7, d8, d9, d10, d11] => { results := [.lit (.bool false)], args := [d1, d2, d3, d4, d5, d6, d7, d8, d9, d10, d11] }
  | _ => none }
def DyeMatchedWrongFalsely : Prop := dyeMatchedRow.holds Tryz.pinned (OpenSpec.ofChange dyeMatchedWrong)

/-- 'nacrelaw04.DyePrints': WHATEVER THE INPUT: true; the input reads as it did. -/
def dyePrintsSpec : ChangeSpec := { name := "dyePrints", fn := fun _ => fun
  | [d1, d2] => { results := [.lit (.bool true)], args := [d1, d2] }
  | _ => none }
def dyePrintsRow : OpenClaim := { program := "ytnpfbjnjdngkhaagreatdoor", sum := "8a107d243a4234ab65020dc5c8c8b3bff0d83d49d33693791117c9d514427bf9", func := "nacre/nacrelaw04.DyePrints", spec := "dyePrints", inPlace := ["internal/abi.NoEscape", "internal/bytealg.MakeNoZero", "internal/bytealg.CountString", "internal/bytealg.IndexByteString", "internal/bytealg.IndexString"], unfollowed := true, recurses := true, named := ["internal/strconv.uint64pow10", "math/bits.deBruijn32tab", "math/bits.deBruijn64tab", "unicode/utf8.first", "unicode/utf8.acceptRanges", "internal/bytealg.MaxLen"], apart := false, laid := [("math/bits.deBruijn32tab", laid_math_bits_deBruijn32tab), ("math/bits.deBruijn64tab", laid_math_bits_deBruijn64tab), ("internal/strconv.uint64pow10", laid_internal_strconv_uint64pow10), ("unicode/utf8.acceptRanges", laid_unicode_utf8_acceptRanges), ("unicode/utf8.first", laid_unicode_utf8_first)] }
def DyePrintsSaid : Prop := dyePrintsRow.holds Tryz.pinned (OpenSpec.ofChange dyePrintsSpec)

/-- ITS FALSE NEIGHBOUR: 'it returns false'. Refute it at one input. -/
def dyePrintsWrong : ChangeSpec := { name := "dyePrints", fn := fun _ => fun
  | [d1, d2] => { results := [.lit (.bool false)], args := [d1, d2] }
  | _ => none }
def DyePrintsWrongFalsely : Prop := dyePrintsRow.holds Tryz.pinned (OpenSpec.ofChange dyePrintsWrong)

/- THE SECOND FORM. 'bulk': how many values and letters a reading holds, each counted each time it is reached (what is shared counts as often as it is met; a slice's spare places count too). A statement '..UptoSaid' is the law's where the arguments, and the package variables that the reading takes, are together of bulk at most 1048576: NARROWER than '..Said'. Prove '..Said' where nothing that the law and all that it calls make is longer than what came in: it says more and counts as full. Else prove '..UptoSaid'. A law counts once. -/
mutual
def uptoBulk {H : Type} : DataW H → Nat
  | .lit (.string bytes) => bytes.length + 1
  | .lit _ => 1
  | .nil => 1
  | .ptr d => uptoBulk d + 1
  | .slice elems spare => uptoBulkAll elems + uptoBulkAll spare + 1
  | .agg parts => uptoBulkAll parts + 1
  | .iface _ d => uptoBulk d + 1
  | .map entries => uptoBulkEntries entries + 1
  | .held _ => 1
def uptoBulkAll {H : Type} : List (DataW H) → Nat
  | [] => 0
  | d :: r => uptoBulk d + uptoBulkAll r
def uptoBulkEntries {H : Type} : List (Lit × DataW H) → Nat
  | [] => 0
  | x :: r => uptoBulkEntry x + uptoBulkEntries r
def uptoBulkEntry {H : Type} : Lit × DataW H → Nat
  | (.string bytes, d) => bytes.length + uptoBulk d + 1
  | (_, d) => uptoBulk d + 1
 end
def uptoSmall : (H : Type) → List (DataW H) → Bool := fun _ ds => decide (uptoBulkAll ds ≤ 1048576)
def OpenSpec.upto (s : _root_.Go.ChangeSpec) : _root_.Go.OpenSpec := { _root_.Go.OpenSpec.ofChange s with cond := some uptoSmall }

/-- 'nacrelaw04.DyeKnowns', WHERE WHAT IT READS IS OF BULK AT MOST 1048576: true; the input reads as it did. -/
def dyeKnownsUptoRow : OpenClaim := { program := "ytnpfbjnjdngkhaagreatdoor", sum := "8a107d243a4234ab65020dc5c8c8b3bff0d83d49d33693791117c9d514427bf9", func := "nacre/nacrelaw04.DyeKnowns", spec := "dyeKnowns", inPlace := ["internal/abi.NoEscape", "internal/bytealg.MakeNoZero"], unfollowed := true, recurses := true, named := ["internal/strconv.uint64pow10", "math/bits.deBruijn32tab", "math/bits.deBruijn64tab"], apart := false, laid := [("math/bits.deBruijn32tab", laid_math_bits_deBruijn32tab), ("math/bits.deBruijn64tab", laid_math_bits_deBruijn64tab), ("internal/strconv.uint64pow10", laid_internal_strconv_uint64pow10)], narrowed := true }
def DyeKnownsUptoSaid : Prop := dyeKnownsUptoRow.holds Tryz.pinned (OpenSpec.upto dyeKnownsSpec)

/-- 'nacrelaw04.DyeWords', WHERE WHAT IT READS IS OF BULK AT MOST 1048576: true; the input reads as it did. -/
def dyeWordsUptoRow : OpenClaim := { program := "ytnpfbjnjdngkhaagreatdoor", sum := "8a107d243a4234ab65020dc5c8c8b3bff0d83d49d33693791117c9d514427bf9", func := "nacre/nacrelaw04.DyeWords", spec := "dyeWords", inPlace := ["internal/abi.NoEscape", "internal/bytealg.MakeNoZero"], unfollowed := true, recurses := true, named := ["internal/strconv.uint64pow10", "math/bits.deBruijn32tab", "math/bits.deBruijn64tab"], apart := false, laid := [("math/bits.deBruijn32tab", laid_math_bits_deBruijn32tab), ("math/bits.deBruijn64tab", laid_math_bits_deBruijn64tab), ("internal/strconv.uint64pow10", laid_internal_strconv_uint64pow10)], narrowed := true }
def DyeWordsUptoSaid : Prop := dyeWordsUptoRow.holds Tryz.pinned (OpenSpec.upto dyeWordsSpec)

/-- 'nacrelaw04.DyeRipes', WHERE WHAT IT READS IS OF BULK AT MOST 1048576: true; the input reads as it did. -/
def dyeRipesUptoRow : OpenClaim := { program := "ytnpfbjnjdngkhaagreatdoor", sum := "8a107d243a4234ab65020dc5c8c8b3bff0d83d49d33693791117c9d514427bf9", func := "nacre/nacrelaw04.DyeRipes", spec := "dyeRipes", inPlace := ["internal/abi.NoEscape", "internal/bytealg.MakeNoZero"], unfollowed := true, recurses := true, named := ["internal/strconv.uint64pow10", "math/bits.deBruijn32tab", "math/bits.deBruijn64tab"], apart := false, laid := [("math/bits.deBruijn32tab", laid_math_bits_deBruijn32tab), ("math/bits.deBruijn64tab", laid_math_bits_deBruijn64tab), ("internal/strconv.uint64pow10", laid_internal_strconv_uint64pow10)], narrowed := true }
def DyeRipesUptoSaid : Prop := dyeRipesUptoRow.holds Tryz.pinned (OpenSpec.upto dyeRipesSpec)

/-- 'nacrelaw04.DyeCoats', WHERE WHAT IT READS IS OF BULK AT MOST 1048576: true; the input reads as it did. -/
def dyeCoatsUptoRow : OpenClaim := { program := "ytnpfbjnjdngkhaagreatdoor", sum := "8a107d243a4234ab65020dc5c8c8b3bff0d83d49d33693791117c9d514427bf9", func := "nacre/nacrelaw04.DyeCoats", spec := "dyeCoats", inPlace := ["internal/abi.NoEscape", "internal/bytealg.MakeNoZero"], unfollowed := true, recurses := true, named := ["internal/strconv.uint64pow10", "math/bits.deBruijn32tab", "math/bits.deBruijn64tab"], apart := false, laid := [("math/bits.deBruijn32tab", laid_math_bits_deBruijn32tab), ("math/bits.deBruijn64tab", laid_math_bits_deBruijn64tab), ("internal/strconv.uint64pow10", laid_internal_strconv_uint64pow10)], narrowed := true }
def DyeCoatsUptoSaid : Prop := dyeCoatsUptoRow.holds Tryz.pinned (OpenSpec.upto dyeCoatsSpec)

/-- 'nacrelaw04.DyeLaid', WHERE WHAT IT READS IS OF BULK AT MOST 1048576: true; the input reads as it did. -/
def dyeLaidUptoRow : OpenClaim := { program := "ytnpfbjnjdngkhaagreatdoor", sum := "8a107d243a4234ab65020dc5c8c8b3bff0d83d49d33693791117c9d514427bf9", func := "nacre/nacrelaw04.DyeLaid", spec := "dyeLaid", inPlace := ["internal/abi.NoEscape", "internal/bytealg.MakeNoZero"], unfollowed := true, recurses := true, named := ["internal/strconv.uint64pow10", "math/bits.deBruijn32tab", "math/bits.deBruijn64tab"], apart := false, laid := [("math/bits.deBruijn32tab", laid_math_bits_deBruijn32tab), ("math/bits.deBruijn64tab", laid_math_bits_deBruijn64tab), ("internal/strconv.uint64pow10", laid_internal_strconv_uint64pow10)], narrowed := true }
def DyeLaidUptoSaid : Prop := dyeLaidUptoRow.holds Tryz.pinned (OpenSpec.upto dyeLaidSpec)

/-- 'nacrelaw04.DyeProves', WHERE WHAT IT READS IS OF BULK AT MOST 1048576: true; the input reads as it did. -/
def dyeProvesUptoRow : OpenClaim := { program := "ytnpfbjnjdngkhaagreatdoor", sum := "8a107d243a4234ab65020dc5c8c8b3bff0d83d49d33693791117c9d514427bf9", func := "nacre/nacrelaw04.DyeProves", spec := "dyeProves", inPlace := ["internal/abi.NoEscape", "internal/bytealg.MakeNoZero"], unfollowed := true, recurses := true, named := ["internal/strconv.uint64pow10", "math/bits.deBruijn32tab", "math/bits.deBruijn64tab"], apart := false, laid := [("math/bits.deBruijn32tab", laid_math_bits_deBruijn32tab), ("math/bits.deBruijn64tab", laid_math_bits_deBruijn64tab), ("internal/strconv.uint64pow10", laid_internal_strconv_uint64pow10)], narrowed := true }
def DyeProvesUptoSaid : Prop := dyeProvesUptoRow.holds Tryz.pinned (OpenSpec.upto dyeProvesSpec)

/-- 'nacrelaw04.DyeReads', WHERE WHAT IT READS IS OF BULK AT MOST 1048576: true; the input reads as it did. -/
def dyeReadsUptoRow : OpenClaim := { program := "ytnpfbjnjdngkhaagreatdoor", sum := "8a107d243a4234ab65020dc5c8c8b3bff0d83d49d33693791117c9d514427bf9", func := "nacre/nacrelaw04.DyeReads", spec := "dyeReads", inPlace := ["internal/abi.NoEscape", "internal/bytealg.MakeNoZero", "internal/bytealg.CountString", "internal/bytealg.IndexByteString", "internal/bytealg.IndexString"], unfollowed := true, recurses := true, named := ["internal/strconv.uint64pow10", "math/bits.deBruijn32tab", "math/bits.deBruijn64tab", "unicode/utf8.first", "unicode/utf8.acceptRanges", "internal/bytealg.MaxLen"], apart := false, laid := [("math/bits.deBruijn32tab", laid_math_bits_deBruijn32tab), ("math/bits.deBruijn64tab", laid_math_bits_deBruijn64tab), ("internal/strconv.uint64pow10", laid_internal_strconv_uint64pow10), ("unicode/utf8.acceptRanges", laid_unicode_utf8_acceptRanges), ("unicode/utf8.first", laid_unicode_utf8_first)], narrowed := true }
def DyeReadsUptoSaid : Prop := dyeReadsUptoRow.holds Tryz.pinned (OpenSpec.upto dyeReadsSpec)

/-- 'nacrelaw04.DyeProven', WHERE WHAT IT READS IS OF BULK AT MOST 1048576: true; the input reads as it did. -/
def dyeProvenUptoRow : OpenClaim := { program := "ytnpfbjnjdngkhaagreatdoor", sum := "8a107d243a4234ab65020dc5c8c8b3bff0d83d49d33693791117c9d514427bf9", func := "nacre/nacrelaw04.DyeProven", spec := "dyeProven", inPlace := ["internal/abi.NoEscape", "internal/bytealg.MakeNoZero"], unfollowed := true, recurses := true, named := ["internal/strconv.uint64pow10", "math/bits.deBruijn32tab", "math/bits.deBruijn64tab"], apart := false, laid := [("math/bits.deBruijn32tab", laid_math_bits_deBruijn32tab), ("math/bits.deBruijn64tab", laid_math_bits_deBruijn64tab), ("internal/strconv.uint64pow10", laid_internal_strconv_uint64pow10)], narrowed := true }
def DyeProvenUptoSaid : Prop := dyeProvenUptoRow.holds Tryz.pinned (OpenSpec.upto dyeProvenSpec)

/-- 'nacrelaw04.DyeReached', WHERE WHAT IT READS IS OF BULK AT MOST 1048576: true; the input reads as it did. -/
def dyeReachedUptoRow : OpenClaim := { program := "ytnpfbjnjdngkhaagreatdoor", sum := "8a107d243a4234ab65020dc5c8c8b3bff0d83d49d33693791117c9d514427bf9", func := "nacre/nacrelaw04.DyeReached", spec := "dyeReached", inPlace := ["internal/abi.NoEscape", "internal/bytealg.MakeNoZero"], unfollowed := true, recurses := true, named := ["internal/strconv.uint64pow10", "math/bits.deBruijn32tab", "math/bits.deBruijn64tab"], apart := false, laid := [("math/bits.deBruijn32tab", laid_math_bits_deBruijn32tab), ("math/bits.deBruijn64tab", laid_math_bits_deBruijn64tab), ("internal/strconv.uint64pow10", laid_internal_strconv_uint64pow10)], narrowed := true }
def DyeReachedUptoSaid : Prop := dyeReachedUptoRow.holds Tryz.pinned (OpenSpec.upto dyeReachedSpec)

/-- 'nacrelaw04.DyeSpoilt', WHERE WHAT IT READS IS OF BULK AT MOST 1048576: true; the input reads as it did. -/
def dyeSpoiltUptoRow : OpenClaim := { program := "ytnpfbjnjdngkhaagreatdoor", sum := "8a107d243a4234ab65020dc5c8c8b3bff0d83d49d33693791117c9d514427bf9", func := "nacre/nacrelaw04.DyeSpoilt", spec := "dyeSpoilt", inPlace := ["internal/abi.NoEscape", "internal/bytealg.MakeNoZero", "internal/bytealg.CountString", "internal/bytealg.IndexByteString", "internal/bytealg.IndexString"], unfollowed := true, recurses := true, named := ["internal/strconv.uint64pow10", "math/bits.deBruijn32tab", "math/bits.deBruijn64tab", "unicode/utf8.first", "unicode/utf8.acceptRanges", "internal/bytealg.MaxLen"], apart := false, laid := [("math/bits.deBruijn32tab", laid_math_bits_deBruijn32tab), ("math/bits.deBruijn64tab", laid_math_bits_deBruijn64tab), ("internal/strconv.uint64pow10", laid_internal_strconv_uint64pow10), ("unicode/utf8.acceptRanges", laid_unicode_utf8_acceptRanges), ("unicode/utf8.first", laid_unicode_utf8_first)], narrowed := true }
def DyeSpoiltUptoSaid : Prop := dyeSpoiltUptoRow.holds Tryz.pinned (OpenSpec.upto dyeSpoiltSpec)

/-- 'nacrelaw04.DyeTogethers', WHERE WHAT IT READS IS OF BULK AT MOST 1048576: true; the input reads as it did. -/
def dyeTogethersUptoRow : OpenClaim := { program := "ytnpfbjnjdngkhaagreatdoor", sum := "8a107d243a4234ab65020dc5c8c8b3bff0d83d49d33693791117c9d514427bf9", func := "nacre/nacrelaw04.DyeTogethers", spec := "dyeTogethers", inPlace := ["internal/abi.NoEscape", "internal/bytealg.MakeNoZero"], unfollowed := true, recurses := true, named := ["internal/strconv.uint64pow10", "math/bits.deBruijn32tab", "math/bits.deBruijn64tab"], apart := false, laid := [("math/bits.deBruijn32tab", laid_math_bits_deBruijn32tab), ("math/bits.deBruijn64tab", laid_math_bits_deBruijn64tab), ("internal/strconv.uint64pow10", laid_internal_strconv_uint64pow10)], narrowed := true }
def DyeTogethersUptoSaid : Prop := dyeTogethersUptoRow.holds Tryz.pinned (OpenSpec.upto dyeTogethersSpec)

/-- 'nacrelaw04.DyeMore', WHERE WHAT IT READS IS OF BULK AT MOST 1048576: true; the input reads as it did. -/
def dyeMoreUptoRow : OpenClaim := { program := "ytnpfbjnjdngkhaagreatdoor", sum := "8a107d243a4234ab65020dc5c8c8b3bff0d83d49d33693791117c9d514427bf9", func := "nacre/nacrelaw04.DyeMore", spec := "dyeMore", inPlace := ["internal/abi.NoEscape", "internal/bytealg.MakeNoZero"], unfollowed := true, recurses := true, named := ["internal/strconv.uint64pow10", "math/bits.deBruijn32tab", "math/bits.deBruijn64tab"], apart := false, laid := [("math/bits.deBruijn32tab", laid_math_bits_deBruijn32tab), ("math/bits.deBruijn64tab", laid_math_bits_deBruijn64tab), ("internal/strconv.uint64pow10", laid_internal_strconv_uint64pow10)], narrowed := true }
def DyeMoreUptoSaid : Prop := dyeMoreUptoRow.holds Tryz.pinned (OpenSpec.upto dyeMoreSpec)

/-- 'nacrelaw04.DyeAparts', WHERE WHAT IT READS IS OF BULK AT MOST 1048576: true; the input reads as it did. -/
def dyeApartsUptoRow : OpenClaim := { program := "ytnpfbjnjdngkhaagreatdoor", sum := "8a107d243a4234ab65020dc5c8c8b3bff0d83d49d33693791117c9d514427bf9", func := "nacre/nacrelaw04.DyeAparts", spec := "dyeAparts", inPlace := ["internal/abi.NoEscape", "internal/bytealg.MakeNoZero"], unfollowed := true, recurses := true, named := ["internal/strconv.uint64pow10", "math/bits.deBruijn32tab", "math/bits.deBruijn64tab"], apart := false, laid := [("math/bits.deBruijn32tab", laid_math_bits_deBruijn32tab), ("math/bits.deBruijn64tab", laid_math_bits_deBruijn64tab), ("internal/strconv.uint64pow10", laid_internal_strconv_uint64pow10)], narrowed := true }
def DyeApartsUptoSaid : Prop := dyeApartsUptoRow.holds Tryz.pinned (OpenSpec.upto dyeApartsSpec)

/-- 'nacrelaw04.DyeTurned', WHERE WHAT IT READS IS OF BULK AT MOST 1048576: true; the input reads as it did. -/
def dyeTurnedUptoRow : OpenClaim := { program := "ytnpfbjnjdngkhaagreatdoor", sum := "8a107d243a4234ab65020dc5c8c8b3bff0d83d49d33693791117c9d514427bf9", func := "nacre/nacrelaw04.DyeTurned", spec := "dyeTurned", inPlace := ["internal/abi.NoEscape", "internal/bytealg.MakeNoZero"], unfollowed := true, recurses := true, named := ["internal/strconv.uint64pow10", "math/bits.deBruijn32tab", "math/bits.deBruijn64tab"], apart := false, laid := [("math/bits.deBruijn32tab", laid_math_bits_deBruijn32tab), ("math/bits.deBruijn64tab", laid_math_bits_deBruijn64tab), ("internal/strconv.uint64pow10", laid_internal_strconv_uint64pow10)], narrowed := true }
def DyeTurnedUptoSaid : Prop := dyeTurnedUptoRow.holds Tryz.pinned (OpenSpec.upto dyeTurnedSpec)

/-- 'nacrelaw04.DyeSuits', WHERE WHAT IT READS IS OF BULK AT MOST 1048576: true; the input reads as it did. -/
def dyeSuitsUptoRow : OpenClaim := { program := "ytnpfbjnjdngkhaagreatdoor", sum := "8a107d243a4234ab65020dc5c8c8b3bff0d83d49d33693791117c9d514427bf9", func := "nacre/nacrelaw04.DyeSuits", spec := "dyeSuits", inPlace := ["internal/abi.NoEscape", "internal/bytealg.MakeNoZero"], unfollowed := true, recurses := true, named := ["internal/strconv.uint64pow10", "math/bits.deBruijn32tab", "math/bits.deBruijn64tab"], apart := false, laid := [("math/bits.deBruijn32tab", laid_math_bits_deBruijn32tab), ("math/bits.deBruijn64tab", laid_math_bits_deBruijn64tab), ("internal/strconv.uint64pow10", laid_internal_strconv_uint64pow10)], narrowed := true }
def DyeSuitsUptoSaid : Prop := dyeSuitsUptoRow.holds Tryz.pinned (OpenSpec.upto dyeSuitsSpec)

/-- 'nacrelaw04.DyeRivals', WHERE WHAT IT READS IS OF BULK AT MOST 1048576: true; the input reads as it did. -/
def dyeRivalsUptoRow : OpenClaim := { program := "ytnpfbjnjdngkhaagreatdoor", sum := "8a107d243a4234ab65020dc5c8c8b3bff0d83d49d33693791117c9d514427bf9", func := "nacre/nacrelaw04.DyeRivals", spec := "dyeRivals", inPlace := ["internal/abi.NoEscape", "internal/bytealg.MakeNoZero"], unfollowed := true, recurses := true, named := ["internal/strconv.uint64pow10", "math/bits.deBruijn32tab", "math/bits.deBruijn64tab"], apart := false, laid := [("math/bits.deBruijn32tab", laid_math_bits_deBruijn32tab), ("math/bits.deBruijn64tab", laid_math_bits_deBruijn64tab), ("internal/strconv.uint64pow10", laid_internal_strconv_uint64pow10)], narrowed := true }
def DyeRivalsUptoSaid : Prop := dyeRivalsUptoRow.holds Tryz.pinned (OpenSpec.upto dyeRivalsSpec)

/-- 'nacrelaw04.DyeLays', WHERE WHAT IT READS IS OF BULK AT MOST 1048576: true; the input reads as it did. -/
def dyeLaysUptoRow : OpenClaim := { program := "ytnpfbjnjdngkhaagreatdoor", sum := "8a107d243a4234ab65020dc5c8c8b3bff0d83d49d33693791117c9d514427bf9", func := "nacre/nacrelaw04.DyeLays", spec := "dyeLays", inPlace := ["internal/abi.NoEscape", "internal/bytealg.MakeNoZero"], unfollowed := true, recurses := true, named := ["internal/strconv.uint64pow10", "math/bits.deBruijn32tab", "math/bits.deBruijn64tab"], apart := false, laid := [("math/bits.deBruijn32tab", laid_math_bits_deBruijn32tab), ("math/bits.deBruijn64tab", laid_math_bits_deBruijn64tab), ("internal/strconv.uint64pow10", laid_internal_strconv_uint64pow10)], narrowed := true }
def DyeLaysUptoSaid : Prop := dyeLaysUptoRow.holds Tryz.pinned (OpenSpec.upto dyeLaysSpec)

/-- 'nacrelaw04.DyeEnds', WHERE WHAT IT READS IS OF BULK AT MOST 1048576: true; the input reads as it did. -/
def dyeEndsUptoRow : OpenClaim := { program := "ytnpfbjnjdngkhaagreatdoor", sum := "8a107d243a4234ab65020dc5c8c8b3bff0d83d49d33693791117c9d514427bf9", func := "nacre/nacrelaw04.DyeEnds", spec := "dyeEnds", inPlace := ["internal/abi.NoEscape", "internal/bytealg.MakeNoZero"], unfollowed := true, recurses := true, named := ["internal/strconv.uint64pow10", "math/bits.deBruijn32tab", "math/bits.deBruijn64tab"], apart := false, laid := [("math/bits.deBruijn32tab", laid_math_bits_deBruijn32tab), ("math/bits.deBruijn64tab", laid_math_bits_deBruijn64tab), ("internal/strconv.uint64pow10", laid_internal_strconv_uint64pow10)], narrowed := true }
def DyeEndsUptoSaid : Prop := dyeEndsUptoRow.holds Tryz.pinned (OpenSpec.upto dyeEndsSpec)

/-- 'nacrelaw04.DyeDiffer', WHERE WHAT IT READS IS OF BULK AT MOST 1048576: true; the input reads as it did. -/
def dyeDifferUptoRow : OpenClaim := { program := "ytnpfbjnjdngkhaagreatdoor", sum := "8a107d243a4234ab65020dc5c8c8b3bff0d83d49d33693791117c9d514427bf9", func := "nacre/nacrelaw04.DyeDiffer", spec := "dyeDiffer", inPlace := ["internal/abi.NoEscape", "internal/bytealg.MakeNoZero"], unfollowed := true, recurses := true, named := ["internal/strconv.uint64pow10", "math/bits.deBruijn32tab", "math/bits.deBruijn64tab"], apart := false, laid := [("math/bits.deBruijn32tab", laid_math_bits_deBruijn32tab), ("math/bits.deBruijn64tab", laid_math_bits_deBruijn64tab), ("internal/strconv.uint64pow10", laid_internal_strconv_uint64pow10)], narrowed := true }
def DyeDifferUptoSaid : Prop := dyeDifferUptoRow.holds Tryz.pinned (OpenSpec.upto dyeDifferSpec)

/-- 'nacrelaw04.DyeRuns', WHERE WHAT IT READS IS OF BULK AT MOST 1048576: true; the input reads as it did. -/
def dyeRunsUptoRow : OpenClaim := { program := "ytnpfbjnjdngkhaagreatdoor", sum := "8a107d243a4234ab65020dc5c8c8b3bff0d83d49d33693791117c9d514427bf9", func := "nacre/nacrelaw04.DyeRuns", spec := "dyeRuns", inPlace := ["internal/abi.NoEscape", "internal/bytealg.MakeNoZero"], unfollowed := true, recurses := true, named := ["internal/strconv.uint64pow10", "math/bits.deBruijn32tab", "math/bits.deBruijn64tab"], apart := false, laid := [("math/bits.deBruijn32tab", laid_math_bits_deBruijn32tab), ("math/bits.deBruijn64tab", laid_math_bits_deBruijn64tab), ("internal/strconv.uint64pow10", laid_internal_strconv_uint64pow10)], narrowed := true }
def DyeRunsUptoSaid : Prop := dyeRunsUptoRow.holds Tryz.pinned (OpenSpec.upto dyeRunsSpec)

/-- 'nacrelaw04.DyeTrue', WHERE WHAT IT READS IS OF BULK AT MOST 1048576: true; the input reads as it did. -/
def dyeTrueUptoRow : OpenClaim := { program := "ytnpfbjnjdngkhaagreatdoor", sum := "8a107d243a4234ab65020dc5c8c8b3bff0d83d49d33693791117c9d514427bf9", func := "nacre/nacrelaw04.DyeTrue", spec := "dyeTrue", inPlace := ["internal/abi.NoEscape", "internal/bytealg.MakeNoZero"], unfollowed := true, recurses := true, named := ["internal/strconv.uint64pow10", "math/bits.deBruijn32tab", "math/bits.deBruijn64tab"], apart := false, laid := [("math/bits.deBruijn32tab", laid_math_bits_deBruijn32tab), ("math/bits.deBruijn64tab", laid_math_bits_deBruijn64tab), ("internal/strconv.uint64pow10", laid_internal_strconv_uint64pow10)], narrowed := true }
def DyeTrueUptoSaid : Prop := dyeTrueUptoRow.holds Tryz.pinned (OpenSpec.upto dyeTrueSpec)

/-- 'nacrelaw04.DyeReady', WHERE WHAT IT READS IS OF BULK AT MOST 1048576: true; the input reads as it did. -/
def dyeReadyUptoRow : OpenClaim := { program := "ytnpfbjnjdngkhaagreatdoor", sum := "8a107d243a4234ab65020dc5c8c8b3bff0d83d49d33693791117c9d514427bf9", func := "nacre/nacrelaw04.DyeReady", spec := "dyeReady", inPlace := ["internal/abi.NoEscape", "internal/bytealg.MakeNoZero"], unfollowed := true, recurses := true, named := ["internal/strconv.uint64pow10", "math/bits.deBruijn32tab", "math/bits.deBruijn64tab"], apart := false, laid := [("math/bits.deBruijn32tab", laid_math_bits_deBruijn32tab), ("math/bits.deBruijn64tab", laid_math_bits_deBruijn64tab), ("internal/strconv.uint64pow10", laid_internal_strconv_uint64pow10)], narrowed := true }
def DyeReadyUptoSaid : Prop := dyeReadyUptoRow.holds Tryz.pinned (OpenSpec.upto dyeReadySpec)

/-- 'nacrelaw04.DyeMatched', WHERE WHAT IT READS IS OF BULK AT MOST 1048576: true; the input reads as it did. -/
def dyeMatchedUptoRow : OpenClaim := { program := "ytnpfbjnjdngkhaagreatdoor", sum := "8a107d243a4234ab65020dc5c8c8b3bff0d83d49d33693791117c9d514427bf9", func := "nacre/nacrelaw04.DyeMatched", spec := "dyeMatched", inPlace := ["internal/abi.NoEscape", "internal/bytealg.MakeNoZero"], unfollowed := true, recurses := true, named := ["internal/strconv.uint64pow10", "math/bits.deBruijn32tab", "math/bits.deBruijn64tab"], apart := false, laid := [("math/bits.deBruijn32tab", laid_math_bits_deBruijn32tab), ("math/bits.deBruijn64tab", laid_math_bits_deBruijn64tab), ("internal/strconv.uint64pow10", laid_internal_strconv_uint64pow10)], narrowed := true }
def DyeMatchedUptoSaid : Prop := dyeMatchedUptoRow.holds Tryz.pinned (OpenSpec.upto dyeMatchedSpec)

/-- 'nacrelaw04.DyePrints', WHERE WHAT IT READS IS OF BULK AT MOST 1048576: true; the input reads as it did. -/
def dyePrintsUptoRow : OpenClaim := { program := "ytnpfbjnjdngkhaagreatdoor", sum := "8a107d243a4234ab65020dc5c8c8b3bff0d83d49d33693791117c9d514427bf9", func := "nacre/nacrelaw04.DyePrints", spec := "dyePrints", inPlace := ["internal/abi.NoEscape", "internal/bytealg.MakeNoZero", "internal/bytealg.CountString", "internal/bytealg.IndexByteString", "internal/bytealg.IndexString"], unfollowed := true, recurses := true, named := ["internal/strconv.uint64pow10", "math/bits.deBruijn32tab", "math/bits.deBruijn64tab", "unicode/utf8.first", "unicode/utf8.acceptRanges", "internal/bytealg.MaxLen"], apart := false, laid := [("math/bits.deBruijn32tab", laid_math_bits_deBruijn32tab), ("math/bits.deBruijn64tab", laid_math_bits_deBruijn64tab), ("internal/strconv.uint64pow10", laid_internal_strconv_uint64pow10), ("unicode/utf8.acceptRanges", laid_unicode_utf8_acceptRanges), ("unicode/utf8.first", laid_unicode_utf8_first)], narrowed := true }
def DyePrintsUptoSaid : Prop := dyePrintsUptoRow.holds Tryz.pinned (OpenSpec.upto dyePrintsSpec)

end Rows
end Go.Proofs.YtnpfbjnjdngkhaaGreatDoor
