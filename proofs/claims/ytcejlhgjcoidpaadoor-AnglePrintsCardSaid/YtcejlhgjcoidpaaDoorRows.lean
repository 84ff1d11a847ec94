/-
  NARROWER THAN 'FOR EVERY INPUT', by the rows' own cells (each row's printed sentence says how): AngleWraps: laid · AngleTurns: laid · AngleDirections: laid · AngleSums: laid · AngleMeets: laid · AngleUndoes: laid · AngleTexts: laid · AnglePrints: laid.
  DERIVED. THE GIVEN ROWS OF THIS SEAT. 8 by the template 'for every input the law returns true; each argument reads behind the call as it read before'; 0 by the template 'total and deterministic' (their statements: YtcejlhgjcoidpaaDoorTotals.lean).
  GIVEN WITH THE SEED: the statements are not yours to turn. If you find one false, say at which input.
  Laid BY PROGRAM, IN A SANDBOX (cutbox-rows.mjs): the forced cells as the released guide's own fill.sh prints them over the translation 2bb3a6eebee6e08d… (all of the seat's roots in one cut). By AI agents, Wed Nov 11 2026. No macro, syntax, notation, axiom, sorry.
-/
import Derived.Test.YtcejlhgjcoidpaaDoorChecked
import GoSem.PinnedTables
import GoSem.Claim
import GoSem.ClaimJoined
import GoSem.ClaimMapViews
import Derived.JoinedTies
import Derived.KernelRfl
namespace Go.Proofs.YtcejlhgjcoidpaaDoor
/- THE CELL 'sum', in the pinned program and in every row, IS THE sha256 OF THE DUMP (.gsa) THAT YtcejlhgjcoidpaaDoorProg.lean LOADS. Nothing in Lean hashes anything: it is a label: what it is worth is what the hold of that sum in a sandbox is worth. -/
noncomputable def Tryd.pinned : Pinned := { name := "ytcejlhgjcoidpaadoor", sum := "2bb3a6eebee6e08d5b8676087c66d79a75a9f8835d3cedcf2f1270884768c679", checked := Tryd.checked }
namespace Rows
def none {H : Type} : Left H := { results := [], args := [] }

/- WHAT THE LISTED PACKAGE-LEVEL VARIABLES READ AS WHEN THE CALL BEGINS. Each datum BY PROGRAM (the guide's laid-datum.mjs) off the statement by which the dump's own 'gosem.cut.vars' lays the variable. In a bare row this is a premise. The card (YtcejlhgjcoidpaaDoorCards.lean) ties it to the program's text. -/
def laid_math_bits_deBruijn32tab {H : Type} : DataW H := .agg [.lit (.int .u8 0), .lit (.int .u8 1), .lit (.int .u8 28), .lit (.int .u8 2), .lit (.int .u8 29), .lit (.int .u8 14), .lit (.int .u8 24), .lit (.int .u8 3), .lit (.int .u8 30), .lit (.int .u8 22), .lit (.int .u8 20), .lit (.int .u8 15), .lit (.int .u8 25), .lit (.int .u8 17), .lit (.int .u8 4), .lit (.int .u8 8), .lit (.int .u8 31), .lit (.int .u8 27), .lit (.int .u8 13), .lit (.int .u8 23), .lit (.int .u8 21), .lit (.int .u8 19), .lit (.int .u8 16), .lit (.int .u8 7), .lit (.int .u8 26), .lit (.int .u8 12), .lit (.int .u8 18), .lit (.int .u8 6), .lit (.int .u8 11), .lit (.int .u8 5), .lit (.int .u8 10), .lit (.int .u8 9)]
def laid_math_bits_deBruijn64tab {H : Type} : DataW H := .agg [.lit (.int .u8 0), .lit (.int .u8 1), .lit (.int .u8 56), .lit (.int .u8 2), .lit (.int .u8 57), .lit (.int .u8 49), .lit (.int .u8 28), .lit (.int .u8 3), .lit (.int .u8 61), .lit (.int .u8 58), .lit (.int .u8 42), .lit (.int .u8 50), .lit (.int .u8 38), .lit (.int .u8 29), .lit (.int .u8 17), .lit (.int .u8 4), .lit (.int .u8 62), .lit (.int .u8 47), .lit (.int .u8 59), .lit (.int .u8 36), .lit (.int .u8 45), .lit (.int .u8 43), .lit (.int .u8 51), .lit (.int .u8 22), .lit (.int .u8 53), .lit (.int .u8 39), .lit (.int .u8 33), .lit (.int .u8 30), .lit (.int .u8 24), .lit (.int .u8 18), .lit (.int .u8 12), .lit (.int .u8 5), .lit (.int .u8 63), .lit (.int .u8 55), .lit (.int .u8 48), .lit (.int .u8 27), .lit (.int .u8 60), .lit (.int .u8 41), .lit (.int .u8 37), .lit (.int .u8 16), .lit (.int .u8 46), .lit (.int .u8 35), .lit (.int .u8 44), .lit (.int .u8 21), .lit (.int .u8 52), .lit (.int .u8 32), .lit (.int .u8 23), .lit (.int .u8 11), .lit (.int .u8 54), .lit (.int .u8 26), .lit (.int .u8 40), .lit (.int .u8 15), .lit (.int .u8 34), .lit (.int .u8 20), .lit (.int .u8 31), .lit (.int .u8 10), .lit (.int .u8 25), .lit (.int .u8 14), .lit (.int .u8 19), .lit (.int .u8 9), .lit (.int .u8 13), .lit (.int .u8 8), .lit (.int .u8 7), .lit (.int .u8 6)]
def laid_internal_strconv_uint64pow10 {H : Type} : DataW H := .agg [.lit (.int .u64 1), .lit (.int .u64 10), .lit (.int .u64 100), .lit (.int .u64 1000), .lit (.int .u64 10000), .lit (.int .u64 100000), .lit (.int .u64 1000000), .lit (.int .u64 10000000), .lit (.int .u64 100000000), .lit (.int .u64 1000000000), .lit (.int .u64 10000000000), .lit (.int .u64 100000000000), .lit (.int .u64 1000000000000), .lit (.int .u64 10000000000000), .lit (.int .u64 100000000000000), .lit (.int .u64 1000000000000000), .lit (.int .u64 10000000000000000), .lit (.int .u64 100000000000000000), .lit (.int .u64 1000000000000000000), .lit (.int .u64 10000000000000000000)]
def laid_unicode_utf8_acceptRanges {H : Type} : DataW H := .agg [.agg [.lit (.int .u8 128), .lit (.int .u8 191)], .agg [.lit (.int .u8 160), .lit (.int .u8 191)], .agg [.lit (.int .u8 128), .lit (.int .u8 159)], .agg [.lit (.int .u8 144), .lit (.int .u8 191)], .agg [.lit (.int .u8 128), .lit (.int .u8 143)], .agg [.lit (.int .u8 0), .lit (.int .u8 0)], .agg [.lit (.int .u8 0), .lit (.int .u8 0)], .agg [.lit (.int .u8 0), .lit (.int .u8 0)], .agg [.lit (.int .u8 0), .lit (.int .u8 0)], .agg [.lit (.int .u8 0), .lit (.int .u8 0)], .agg [.lit (.int .u8 0), .lit (.int .u8 0)], .agg [.lit (.int .u8 0), .lit (.int .u8 0)], .agg [.lit (.int .u8 0), .lit (.int .u8 0)], .agg [.lit (.int .u8 0), .lit (.int .u8 0)], .agg [.lit (.int .u8 0), .lit (.int .u8 0)], .agg [.lit (.int .u8 0), .lit (.int .u8 0)]]
/-- One of Go's own tables, pinned by name: the form's constant. -/
def laid_unicode_utf8_first : DataW Unit := Go.Pinned.utf8First

/-- 'almucantarlaw05.AngleWraps': WHATEVER THE INPUT: true; the input reads as it did. -/
def angleWrapsSpec : ChangeSpec := { name := "angleWraps", fn := fun _ => fun
  | [d1, d2, d3] => { results := [.lit (.bool true)], args := [d1, d2, d3] }
  | _ => none }
def angleWrapsRow : OpenClaim := { program := "ytcejlhgjcoidpaadoor", sum := "2bb3a6eebee6e08d5b8676087c66d79a75a9f8835d3cedcf2f1270884768c679", func := "almucantar/almucantarlaw05.AngleWraps", spec := "angleWraps", inPlace := ["internal/abi.NoEscape", "internal/bytealg.MakeNoZero"], named := ["internal/strconv.uint64pow10", "math/bits.deBruijn32tab", "math/bits.deBruijn64tab"], apart := false, laid := [("math/bits.deBruijn32tab", laid_math_bits_deBruijn32tab), ("math/bits.deBruijn64tab", laid_math_bits_deBruijn64tab), ("internal/strconv.uint64pow10", laid_internal_strconv_uint64pow10)] }
def AngleWrapsSaid : Prop := angleWrapsRow.holds Tryd.pinned (OpenSpec.ofChange angleWrapsSpec)

/-- ITS FALSE NEIGHBOUR: 'it returns false'. Refute it at one input. -/
def angleWrapsWrong : ChangeSpec := { name := "angleWraps", fn := fun _ => fun
  | [d1, d2, d3] => { results := [.lit (.bool false)], args := [d1, d2, d3] }
  | _ => none }
def AngleWrapsWrongFalsely : Prop := angleWrapsRow.holds Tryd.pinned (OpenSpec.ofChange angleWrapsWrong)

/-- 'almucantarlaw05.AngleTurns': WHATEVER THE INPUT: true; the input reads as it did. -/
def angleTurnsSpec : ChangeSpec := { name := "angleTurns", fn := fun _ => fun
  | [d1, d2] => { results := [.lit (.bool true)], args := [d1, d2] }
  | _ => none }
def angleTurnsRow : OpenClaim := { program := "ytcejlhgjcoidpaadoor", sum := "2bb3a6eebee6e08d5b8676087c66d79a75a9f8835d3cedcf2f1270884768c679", func := "almucantar/almucantarlaw05.AngleTurns", spec := "angleTurns", inPlace := ["internal/abi.NoEscape", "internal/bytealg.MakeNoZero"], named := ["internal/strconv.uint64pow10", "math/bits.deBruijn32tab", "math/bits.deBruijn64tab"], apart := false, laid := [("math/bits.deBruijn32tab", laid_math_bits_deBruijn32tab), ("math/bits.deBruijn64tab", laid_math_bits_deBruijn64tab), ("internal/strconv.uint64pow10", laid_internal_strconv_uint64pow10)] }
def AngleTurnsSaid : Prop := angleTurnsRow.holds Tryd.pinned (OpenSpec.ofChange angleTurnsSpec)

/-- ITS FALSE NEIGHBOUR: 'it returns false'. Refute it at one input. -/
def angleTurnsWrong : ChangeSpec := { name := "angleTurns", fn := fun _ => fun
  | [d1, d2] => { results := [.lit (.bool false)], args := [d1, d2] }
  | _ => none }
def AngleTurnsWrongFalsely : Prop := angleTurnsRow.holds Tryd.pinned (OpenSpec.ofChange angleTurnsWrong)

/-- 'almucantarlaw05.AngleDirections': WHATEVER THE INPUT: true; the input reads as it did. -/
def angleDirectionsSpec : ChangeSpec := { name := "angleDirections", fn := fun _ => fun
  | [d1, d2, d3, d4] => { results := [.lit (.bool true)], args := [d1, d2, d3, d4] }
  | _ => none }
def angleDirectionsRow : OpenClaim := { program := "ytcejlhgjcoidpaadoor", sum := "2bb3a6eebee6e08d5b8676087c66d79a75a9f8835d3cedcf2f1270884768c679", func := "almucantar/almucantarlaw05.AngleDirections", spec := "angleDirections", inPlace := ["internal/abi.NoEscape", "internal/bytealg.MakeNoZero"], named := ["internal/strconv.uint64pow10", "math/bits.deBruijn32tab", "math/bits.deBruijn64tab"], apart := false, laid := [("math/bits.deBruijn32tab", laid_math_bits_deBruijn32tab), ("math/bits.deBruijn64tab", laid_math_bits_deBruijn64tab), ("internal/strconv.uint64pow10", laid_internal_strconv_uint64pow10)] }
def AngleDirectionsSaid : Prop := angleDirectionsRow.holds Tryd.pinned (OpenSpec.ofChange angleDirectionsSpec)

/-- ITS FALSE NEIGHBOUR: 'it returns false'. Refute it at one input. -/
def angleDirectionsWrong : ChangeSpec := { name := "angleDirections", fn := fun _ => fun
  | [d1, d2, d3, d4] => { results := [.lit (.bool false)], args := [d1, d2, d3, d4] }
  | _ => none }
def AngleDirectionsWrongFalsely : Prop := angleDirectionsRow.holds Tryd.pinned (OpenSpec.ofChange angleDirectionsWrong)

/-- 'almucantarlaw05.AngleSums': WHATEVER THE INPUT: true; the input reads as it did. -/
def angleSumsSpec : ChangeSpec := { name := "angleSums", fn := fun _ => fun
  | [d1, d2, d3, d4] => { results := [.lit (.bool true)], args := [d1, d2, d3, d4] }
  | _ => none }
def angleSumsRow : OpenClaim := { program := "ytcejlhgjcoidpaadoor", sum := "2bb3a6eebee6e08d5b8676087c66d79a75a9f8835d3cedcf2f1270884768c679", func := "almucantar/almucantarlaw05.AngleSums", spec := "angleSums", inPlace := ["internal/abi.NoEscape", "internal/bytealg.MakeNoZero"], unfollowed := true, recurses := true, named := ["internal/strconv.uint64pow10", "math/bits.deBruijn32tab", "math/bits.deBruijn64tab"], apart := false, laid := [("math/bits.deBruijn32tab", laid_math_bits_deBruijn32tab), ("math/bits.deBruijn64tab", laid_math_bits_deBruijn64tab), ("internal/strconv.uint64pow10", laid_internal_strconv_uint64pow10)] }
def AngleSumsSaid : Prop := angleSumsRow.holds Tryd.pinned (OpenSpec.ofChange angleSumsSpec)

/-- ITS FALSE NEIGHBOUR: 'it returns false'. Refute it at one input. -/
def angleSumsWrong : ChangeSpec := { name := "angleSums", fn := fun _ => fun
  | [d1, d2, d3, d4] => { results := [.lit (.bool false)], args := [d1, d2, d3, d4] }
  | _ => none }
def AngleSumsWrongFalsely : Prop := angleSumsRow.holds Tryd.pinned (OpenSpec.ofChange angleSumsWrong)

/-- 'almucantarlaw05.AngleMeets': WHATEVER THE INPUT: true; the input reads as it did. -/
def angleMeetsSpec : ChangeSpec := { name := "angleMeets", fn := fun _ => fun
  | [d1, d2] => { results := [.lit (.bool true)], args := [d1, d2] }
  | _ => none }
def angleMeetsRow : OpenClaim := { program := "ytcejlhgjcoidpaadoor", sum := "2bb3a6eebee6e08d5b8676087c66d79a75a9f8835d3cedcf2f1270884768c679", func := "almucantar/almucantarlaw05.AngleMeets", spec := "angleMeets", inPlace := ["internal/abi.NoEscape", "internal/bytealg.MakeNoZero"], named := ["internal/strconv.uint64pow10", "math/bits.deBruijn32tab", "math/bits.deBruijn64tab"], apart := false, laid := [("math/bits.deBruijn32tab", laid_math_bits_deBruijn32tab), ("math/bits.deBruijn64tab", laid_math_bits_deBruijn64tab), ("internal/strconv.uint64pow10", laid_internal_strconv_uint64pow10)] }
def AngleMeetsSaid : Prop := angleMeetsRow.holds Tryd.pinned (OpenSpec.ofChange angleMeetsSpec)

/-- ITS FALSE NEIGHBOUR: 'it returns false'. Refute it at one input. -/
def angleMeetsWrong : ChangeSpec := { name := "angleMeets", fn := fun _ => fun
  | [d1, d2] => { results := [.lit (.bool false)], args := [d1, d2] }
  | _ => none }
def AngleMeetsWrongFalsely : Prop := angleMeetsRow.holds Tryd.pinned (OpenSpec.ofChange angleMeetsWrong)

/-- 'almucantarlaw05.AngleUndoes': WHATEVER THE INPUT: true; the input reads as it did. -/
def angleUndoesSpec : ChangeSpec := { name := "angleUndoes", fn := fun _ => fun
  | [d1, d2, d3] => { results := [.lit (.bool true)], args := [d1, d2, d3] }
  | _ => none }
def angleUndoesRow : OpenClaim := { program := "ytcejlhgjcoidpaadoor", sum := "2bb3a6eebee6e08d5b8676087c66d79a75a9f8835d3cedcf2f1270884768c679", func := "almucantar/almucantarlaw05.AngleUndoes", spec := "angleUndoes", inPlace := ["internal/abi.NoEscape", "internal/bytealg.MakeNoZero"], named := ["internal/strconv.uint64pow10", "math/bits.deBruijn32tab", "math/bits.deBruijn64tab"], apart := false, laid := [("math/bits.deBruijn32tab", laid_math_bits_deBruijn32tab), ("math/bits.deBruijn64tab", laid_math_bits_deBruijn64tab), ("internal/strconv.uint64pow10", laid_internal_strconv_uint64pow10)] }
def AngleUndoesSaid : Prop := angleUndoesRow.holds Tryd.pinned (OpenSpec.ofChange angleUndoesSpec)

/-- ITS FALSE NEIGHBOUR: 'it returns false'. Refute it at one input. -/
def angleUndoesWrong : ChangeSpec := { name := "angleUndoes", fn := fun _ => fun
  | [d1, d2, d3] => { results := [.lit (.bool false)], args := [d1, d2, d3] }
  | _ => none }
def AngleUndoesWrongFalsely : Prop := angleUndoesRow.holds Tryd.pinned (OpenSpec.ofChange angleUndoesWrong)

/-- 'almucantarlaw05.AngleTexts': WHATEVER THE INPUT: true; the input reads as it did. -/
def angleTextsSpec : ChangeSpec := { name := "angleTexts", fn := fun _ => fun
  | [d1, d2] => { results := [.lit (.bool true)], args := [d1, d2] }
  | _ => none }
def angleTextsRow : OpenClaim := { program := "ytcejlhgjcoidpaadoor", sum := "2bb3a6eebee6e08d5b8676087c66d79a75a9f8835d3cedcf2f1270884768c679", func := "almucantar/almucantarlaw05.AngleTexts", spec := "angleTexts", inPlace := ["internal/abi.NoEscape", "internal/bytealg.MakeNoZero", "internal/bytealg.IndexByteString", "internal/bytealg.IndexString"], named := ["internal/strconv.uint64pow10", "math/bits.deBruijn32tab", "math/bits.deBruijn64tab", "internal/bytealg.MaxLen"], apart := false, laid := [("math/bits.deBruijn32tab", laid_math_bits_deBruijn32tab), ("math/bits.deBruijn64tab", laid_math_bits_deBruijn64tab), ("internal/strconv.uint64pow10", laid_internal_strconv_uint64pow10)] }
def AngleTextsSaid : Prop := angleTextsRow.holds Tryd.pinned (OpenSpec.ofChange angleTextsSpec)

/-- ITS FALSE NEIGHBOUR: 'it returns false'. Refute it at one input. -/
def angleTextsWrong : ChangeSpec := { name := "angleTexts", fn := fun _ => fun
  | [d1, d2] => { results := [.lit (.bool false)], args := [d1, d2] }
  | _ => none }
def AngleTextsWrongFalsely : Prop := angleTextsRow.holds Tryd.pinned (OpenSpec.ofChange angleTextsWrong)

/-- 'almucantarlaw05.AnglePrints': WHATEVER THE INPUT: true; the input reads as it did. -/
def anglePrintsSpec : ChangeSpec := { name := "anglePrints", fn := fun _ => fun
  | [d] => { results := [.lit (.bool true)], args := [d] }
  | _ => none }
def anglePrintsRow : OpenClaim := { program := "ytcejlhgjcoidpaadoor", sum := "2bb3a6eebee6e08d5b8676087c66d79a75a9f8835d3cedcf2f1270884768c679", func := "almucantar/almucantarlaw05.AnglePrints", spec := "anglePrints", inPlace := ["internal/abi.NoEscape", "internal/bytealg.MakeNoZero", "internal/bytealg.CountString", "internal/bytealg.IndexByteString", "internal/bytealg.IndexString"], named := ["internal/strconv.uint64pow10", "math/bits.deBruijn32tab", "math/bits.deBruijn64tab", "unicode/utf8.first", "unicode/utf8.acceptRanges", "internal/bytealg.MaxLen"], apart := false, laid := [("math/bits.deBruijn32tab", laid_math_bits_deBruijn32tab), ("math/bits.deBruijn64tab", laid_math_bits_deBruijn64tab), ("internal/strconv.uint64pow10", laid_internal_strconv_uint64pow10), ("unicode/utf8.acceptRanges", laid_unicode_utf8_acceptRanges), ("unicode/utf8.first", laid_unicode_utf8_first)] }
def AnglePrintsSaid : Prop := anglePrintsRow.holds Tryd.pinned (OpenSpec.ofChange anglePrintsSpec)

/-- ITS FALSE NEIGHBOUR: 'it returns false'. Refute it at one input. -/
def anglePrintsWrong : ChangeSpec := { name := "anglePrints", fn := fun _ => fun
  | [d] => { results := [.lit (.bool false)], args := [d] }
  | _ => none }
def AnglePrintsWrongFalsely : Prop := anglePrintsRow.holds Tryd.pinned (OpenSpec.ofChange anglePrintsWrong)

/- THE SECOND FORM. 'bulk': how many values and letters a reading holds, each counted each time it is reached (what is shared counts as often as it is met; a slice's spare places count too). A statement '..UptoSaid' is the law's where the arguments, and the package variables that the reading takes, are together of bulk at most 1048576: NARROWER than '..Said'. Prove '..Said' where nothing that the law and all that it calls make is longer than what came in: it says more and counts as full. Else prove '..UptoSaid'. A law counts once. -/
mutual
def uptoBulk {H : Type} : DataW H → Nat
  | .lit (.string bytes) => bytes.length + 1
  | .lit _ => 1
  | .nil => 1
  | .ptr d => uptoBulk d + 1
  | .slice elems spare => uptoBulkAll elems + uptoBulkAll spare + 1
  | .agg parts => uptoBulkAll parts + 1
  | .iface _ d => uptoBulk d + 1
  | .map entries => uptoBulkEntries entries + 1
  | .held _ => 1
def uptoBulkAll {H : Type} : List (DataW H) → Nat
  | [] => 0
  | d :: r => uptoBulk d + uptoBulkAll r
def uptoBulkEntries {H : Type} : List (Lit × DataW H) → Nat
  | [] => 0
  | x :: r => uptoBulkEntry x + uptoBulkEntries r
def uptoBulkEntry {H : Type} : Lit × DataW H → Nat
  | (.string bytes, d) => bytes.length + uptoBulk d + 1
  | (_, d) => uptoBulk d + 1
 end
def uptoSmall : (H : Type) → List (DataW H) → Bool := fun _ ds => decide (uptoBulkAll ds ≤ 1048576)
def OpenSpec.upto (s : _root_.Go.ChangeSpec) : _root_.Go.OpenSpec := { _root_.Go.OpenSpec.ofChange s with cond := some uptoSmall }

/-- 'almucantarlaw05.AngleWraps', WHERE WHAT IT READS IS OF BULK AT MOST 1048576: true; the input reads as it did. -/
def angleWrapsUptoRow : OpenClaim := { program := "ytcejlhgjcoidpaadoor", sum := "2bb3a6eebee6e08d5b8676087c66d79a75a9f8835d3cedcf2f1270884768c679", func := "almucantar/almucantarlaw05.AngleWraps", spec := "angleWraps", inPlace := ["internal/abi.NoEscape", "internal/bytealg.MakeNoZero"], named := ["internal/strconv.uint64pow10", "math/bits.deBruijn32tab", "math/bits.deBruijn64tab"], apart := false, laid := [("math/bits.deBruijn32tab", laid_math_bits_deBruijn32tab), ("math/bits.deBruijn64tab", laid_math_bits_deBruijn64tab), ("internal/strconv.uint64pow10", laid_internal_strconv_uint64pow10)], narrowed := true }
def AngleWrapsUptoSaid : Prop := angleWrapsUptoRow.holds Tryd.pinned (OpenSpec.upto angleWrapsSpec)

/-- 'almucantarlaw05.AngleTurns', WHERE WHAT IT READS IS OF BULK AT MOST 1048576: true; the input reads as it did. -/
def angleTurnsUptoRow : OpenClaim := { program := "ytcejlhgjcoidpaadoor", sum := "2bb3a6eebee6e08d5b8676087c66d79a75a9f8835d3cedcf2f1270884768c679", func := "almucantar/almucantarlaw05.AngleTurns", spec := "angleTurns", inPlace := ["internal/abi.NoEscape", "internal/bytealg.MakeNoZero"], named := ["internal/strconv.uint64pow10", "math/bits.deBruijn32tab", "math/bits.deBruijn64tab"], apart := false, laid := [("math/bits.deBruijn32tab", laid_math_bits_deBruijn32tab), ("math/bits.deBruijn64tab", laid_math_bits_deBruijn64tab), ("internal/strconv.uint64pow10", laid_internal_strconv_uint64pow10)], narrowed := true }
def AngleTurnsUptoSaid : Prop := angleTurnsUptoRow.holds Tryd.pinned (OpenSpec.upto angleTurnsSpec)

/-- 'almucantarlaw05.AngleDirections', WHERE WHAT IT READS IS OF BULK AT MOST 1048576: true; the input reads as it did. -/
def angleDirectionsUptoRow : OpenClaim := { program := "ytcejlhgjcoidpaadoor", sum := "2bb3a6eebee6e08d5b8676087c66d79a75a9f8835d3cedcf2f1270884768c679", func := "almucantar/almucantarlaw05.AngleDirections", spec := "angleDirections", inPlace := ["internal/abi.NoEscape", "internal/bytealg.MakeNoZero"], named := ["internal/strconv.uint64pow10", "math/bits.deBruijn32tab", "math/bits.deBruijn64tab"], apart := false, laid := [("math/bits.deBruijn32tab", laid_math_bits_deBruijn32tab), ("math/bits.deBruijn64tab", laid_math_bits_deBruijn64tab), ("internal/strconv.uint64pow10", laid_internal_strconv_uint64pow10)], narrowed := true }
def AngleDirectionsUptoSaid : Prop := angleDirectionsUptoRow.holds Tryd.pinned (OpenSpec.upto angleDirectionsSpec)

/-- 'almucantarlaw05.AngleSums', WHERE WHAT IT READS IS OF BULK AT MOST 1048576: true; the input reads as it did. -/
def angleSumsUptoRow : OpenClaim := { program := "ytcejlhgjcoidpaadoor", sum := "2bb3a6eebee6e08d5b8676087c66d79a75a9f8835d3cedcf2f1270884768c679", func := "almucantar/almucantarlaw05.AngleSums", spec := "angleSums", inPlace := ["internal/abi.NoEscape", "internal/bytealg.MakeNoZero"], unfollowed := true, recurses := true, named := ["internal/strconv.uint64pow10", "math/bits.deBruijn32tab", "math/bits.deBruijn64tab"], apart := false, laid := [("math/bits.deBruijn32tab", laid_math_bits_deBruijn32tab), ("math/bits.deBruijn64tab", laid_math_bits_deBruijn64tab), ("internal/strconv.uint64pow10", laid_internal_strconv_uint64pow10)], narrowed := true }
def AngleSumsUptoSaid : Prop := angleSumsUptoRow.holds Tryd.pinned (OpenSpec.upto angleSumsSpec)

/-- 'almucantarlaw05.AngleMeets', WHERE WHAT IT READS IS OF BULK AT MOST 1048576: true; the input reads as it did. -/
def angleMeetsUptoRow : OpenClaim := { program := "ytcejlhgjcoidpaadoor", sum := "2bb3a6eebee6e08d5b8676087c66d79a75a9f8835d3cedcf2f1270884768c679", func := "almucantar/almucantarlaw05.AngleMeets", spec := "angleMeets", inPlace := ["internal/abi.NoEscape", "internal/bytealg.MakeNoZero"], named := ["internal/strconv.uint64pow10", "math/bits.deBruijn32tab", "math/bits.deBruijn64tab"], apart := false, laid := [("math/bits.deBruijn32tab", laid_math_bits_deBruijn32tab), ("math/bits.deBruijn64tab", laid_math_bits_deBruijn64tab), ("internal/strconv.uint64pow10", laid_internal_strconv_uint64pow10)], narrowed := true }
def AngleMeetsUptoSaid : Prop := angleMeetsUptoRow.holds Tryd.pinned (OpenSpec.upto angleMeetsSpec)

/-- 'almucantarlaw05.AngleUndoes', WHERE WHAT IT READS IS OF BULK AT MOST 1048576: true; the input reads as it did. -/
def angleUndoesUptoRow : OpenClaim := { program := "ytcejlhgjcoidpaadoor", sum := "2bb3a6eebee6e08d5b8676087c66d79a75a9f8835d3cedcf2f1270884768c679", func := "almucantar/almucantarlaw05.AngleUndoes", spec := "angleUndoes", inPlace := ["internal/abi.NoEscape", "internal/bytealg.MakeNoZero"], named := ["internal/strconv.uint64pow10", "math/bits.deBruijn32tab", "math/bits.deBruijn64tab"], apart := false, laid := [("math/bits.deBruijn32tab", laid_math_bits_deBruijn32tab), ("math/bits.deBruijn64tab", laid_math_bits_deBruijn64tab), ("internal/strconv.uint64pow10", laid_internal_strconv_uint64pow10)], narrowed := true }
def AngleUndoesUptoSaid : Prop := angleUndoesUptoRow.holds Tryd.pinned (OpenSpec.upto angleUndoesSpec)

/-- 'almucantarlaw05.AngleTexts', WHERE WHAT IT READS IS OF BULK AT MOST 1048576: true; the input reads as it did. -/
def angleTextsUptoRow : OpenClaim := { program := "ytcejlhgjcoidpaadoor", sum := "2bb3a6eebee6e08d5b8676087c66d79a75a9f8835d3cedcf2f1270884768c679", func := "almucantar/almucantarlaw05.AngleTexts", spec := "angleTexts", inPlace := ["internal/abi.NoEscape", "internal/bytealg.MakeNoZero", "internal/bytealg.IndexByteString", "internal/bytealg.IndexString"], named := ["internal/strconv.uint64pow10", "math/bits.deBruijn32tab", "math/bits.deBruijn64tab", "internal/bytealg.MaxLen"], apart := false, laid := [("math/bits.deBruijn32tab", laid_math_bits_deBruijn32tab), ("math/bits.deBruijn64tab", laid_math_bits_deBruijn64tab), ("internal/strconv.uint64pow10", laid_internal_strconv_uint64pow10)], narrowed := true }
def AngleTextsUptoSaid : Prop := angleTextsUptoRow.holds Tryd.pinned (OpenSpec.upto angleTextsSpec)

/-- 'almucantarlaw05.AnglePrints', WHERE WHAT IT READS IS OF BULK AT MOST 1048576: true; the input reads as it did. -/
def anglePrintsUptoRow : OpenClaim := { program := "ytcejlhgjcoidpaadoor", sum := "2bb3a6eebee6e08d5b8676087c66d79a75a9f8835d3cedcf2f1270884768c679", func := "almucantar/almucantarlaw05.AnglePrints", spec := "anglePrints", inPlace := ["internal/abi.NoEscape", "internal/bytealg.MakeNoZero", "internal/bytealg.CountString", "internal/bytealg.IndexByteString", "internal/bytealg.IndexString"], named := ["internal/strconv.uint64pow10", "math/bits.deBruijn32tab", "math/bits.deBruijn64tab", "unicode/utf8.first", "unicode/utf8.acceptRanges", "internal/bytealg.MaxLen"], apart := false, laid := [("math/bits.deBruijn32tab", laid_math_bits_deBruijn32tab), ("math/bits.deBruijn64tab", laid_math_bits_deBruijn64tab), ("internal/strconv.uint64pow10", laid_internal_strconv_uint64pow10), ("unicode/utf8.acceptRanges", laid_unicode_utf8_acceptRanges), ("unicode/utf8.first", laid_unicode_utf8_first)], narrowed := true }
def AnglePrintsUptoSaid : Prop := anglePrintsUptoRow.holds Tryd.pinned (OpenSpec.upto anglePrintsSpec)

end Rows
end Go.Proofs.YtcejlhgjcoidpaaDoor
