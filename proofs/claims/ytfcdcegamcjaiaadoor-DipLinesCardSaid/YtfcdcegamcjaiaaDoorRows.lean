/-
  NARROWER THAN 'FOR EVERY INPUT', by the rows' own cells (each row's printed sentence says how): DipDips: laid · DipTables: laid · DipShort: laid · DipLines: laid · DipDistances: laid · DipRoots: laid.
  DERIVED. THE GIVEN ROWS OF THIS SEAT. 6 by the template 'for every input the law returns true; each argument reads behind the call as it read before'; 0 by the template 'total and deterministic' (their statements: YtfcdcegamcjaiaaDoorTotals.lean).
  GIVEN WITH THE SEED: the statements are not yours to turn. If you find one false, say at which input.
  Laid BY PROGRAM, IN A SANDBOX (cutbox-rows.mjs): the forced cells as the released guide's own fill.sh prints them over the translation d653cc0865ea0b5c… (all of the seat's roots in one cut). By AI agents, Wed Nov 11 2026. No macro, syntax, notation, axiom, sorry.
-/
import Derived.Test.YtfcdcegamcjaiaaDoorChecked
import GoSem.Claim
import GoSem.ClaimJoined
import GoSem.ClaimMapViews
import Derived.JoinedTies
import Derived.KernelRfl
namespace Go.Proofs.YtfcdcegamcjaiaaDoor
/- THE CELL 'sum', in the pinned program and in every row, IS THE sha256 OF THE DUMP (.gsa) THAT YtfcdcegamcjaiaaDoorProg.lean LOADS. Nothing in Lean hashes anything: it is a label: what it is worth is what the hold of that sum in a sandbox is worth. -/
noncomputable def Tryd.pinned : Pinned := { name := "ytfcdcegamcjaiaadoor", sum := "d653cc0865ea0b5c55836164f7ca613a094b79fe038dd1cabb64987af409b39c", checked := Tryd.checked }
namespace Rows
def none {H : Type} : Left H := { results := [], args := [] }

/- WHAT THE LISTED PACKAGE-LEVEL VARIABLES READ AS WHEN THE CALL BEGINS. Each datum BY PROGRAM (the guide's laid-datum.mjs) off the statement by which the dump's own 'gosem.cut.vars' lays the variable. In a bare row this is a premise. The card (YtfcdcegamcjaiaaDoorCards.lean) ties it to the program's text. -/
def laid_math_bits_deBruijn32tab {H : Type} : DataW H := .agg [.lit (.int .u8 0), .lit (.int .u8 1), .lit (.int .u8 28), .lit (.int .u8 2), .lit (.int .u8 29), .lit (.int .u8 14), .lit (.int .u8 24), .lit (.int .u8 3), .lit (.int .u8 30), .lit (.int .u8 22), .lit (.int .u8 20), .lit (.int .u8 15), .lit (.int .u8 25), .lit (.int .u8 17), .lit (.int .u8 4), .lit (.int .u8 8), .lit (.int .u8 31), .lit (.int .u8 27), .lit (.int .u8 13), .lit (.int .u8 23), .lit (.int .u8 21), .lit (.int .u8 19), .lit (.int .u8 16), .lit (.int .u8 7), .lit (.int .u8 26), .lit (.int .u8 12), .lit (.int .u8 18), .lit (.int .u8 6), .lit (.int .u8 11), .lit (.int .u8 5), .lit (.int .u8 10), .lit (.int .u8 9)]
def laid_math_bits_deBruijn64tab {H : Type} : DataW H := .agg [.lit (.int .u8 0), .lit (.int .u8 1), .lit (.int .u8 56), .lit (.int .u8 2), .lit (.int .u8 57), .lit (.int .u8 49), .lit (.int .u8 28), .lit (.int .u8 3), .lit (.int .u8 61), .lit (.int .u8 58), .lit (.int .u8 42), .lit (.int .u8 50), .lit (.int .u8 38), .lit (.int .u8 29), .lit (.int .u8 17), .lit (.int .u8 4), .lit (.int .u8 62), .lit (.int .u8 47), .lit (.int .u8 59), .lit (.int .u8 36), .lit (.int .u8 45), .lit (.int .u8 43), .lit (.int .u8 51), .lit (.int .u8 22), .lit (.int .u8 53), .lit (.int .u8 39), .lit (.int .u8 33), .lit (.int .u8 30), .lit (.int .u8 24), .lit (.int .u8 18), .lit (.int .u8 12), .lit (.int .u8 5), .lit (.int .u8 63), .lit (.int .u8 55), .lit (.int .u8 48), .lit (.int .u8 27), .lit (.int .u8 60), .lit (.int .u8 41), .lit (.int .u8 37), .lit (.int .u8 16), .lit (.int .u8 46), .lit (.int .u8 35), .lit (.int .u8 44), .lit (.int .u8 21), .lit (.int .u8 52), .lit (.int .u8 32), .lit (.int .u8 23), .lit (.int .u8 11), .lit (.int .u8 54), .lit (.int .u8 26), .lit (.int .u8 40), .lit (.int .u8 15), .lit (.int .u8 34), .lit (.int .u8 20), .lit (.int .u8 31), .lit (.int .u8 10), .lit (.int .u8 25), .lit (.int .u8 14), .lit (.int .u8 19), .lit (.int .u8 9), .lit (.int .u8 13), .lit (.int .u8 8), .lit (.int .u8 7), .lit (.int .u8 6)]
def laid_internal_strconv_uint64pow10 {H : Type} : DataW H := .agg [.lit (.int .u64 1), .lit (.int .u64 10), .lit (.int .u64 100), .lit (.int .u64 1000), .lit (.int .u64 10000), .lit (.int .u64 100000), .lit (.int .u64 1000000), .lit (.int .u64 10000000), .lit (.int .u64 100000000), .lit (.int .u64 1000000000), .lit (.int .u64 10000000000), .lit (.int .u64 100000000000), .lit (.int .u64 1000000000000), .lit (.int .u64 10000000000000), .lit (.int .u64 100000000000000), .lit (.int .u64 1000000000000000), .lit (.int .u64 10000000000000000), .lit (.int .u64 100000000000000000), .lit (.int .u64 1000000000000000000), .lit (.int .u64 10000000000000000000)]

/-- 'almucantarlaw19.DipDips': WHATEVER THE INPUT: true; the input reads as it did. -/
def dipDipsSpec : ChangeSpec := { name := "dipDips", fn := fun _ => fun
  | [d1, d2] => { results := [.lit (.bool true)], args := [d1, d2] }
  | _ => none }
def dipDipsRow : OpenClaim := { program := "ytfcdcegamcjaiaadoor", sum := "d653cc0865ea0b5c55836164f7ca613a094b79fe038dd1cabb64987af409b39c", func := "almucantar/almucantarlaw19.DipDips", spec := "dipDips", inPlace := ["internal/abi.NoEscape", "internal/bytealg.MakeNoZero"], named := ["internal/strconv.uint64pow10", "math/bits.deBruijn32tab", "math/bits.deBruijn64tab"], apart := false, laid := [("math/bits.deBruijn32tab", laid_math_bits_deBruijn32tab), ("math/bits.deBruijn64tab", laid_math_bits_deBruijn64tab), ("internal/strconv.uint64pow10", laid_internal_strconv_uint64pow10)] }
def DipDipsSaid : Prop := dipDipsRow.holds Tryd.pinned (OpenSpec.ofChange dipDipsSpec)

/-- ITS FALSE NEIGHBOUR: 'it returns false'. Refute it at one input. -/
def dipDipsWrong : ChangeSpec := { name := "dipDips", fn := fun _ => fun
  | [d1, d2] => { results := [.lit (.bool false)], args := [d1, d2] }
  | _ => none }
def DipDipsWrongFalsely : Prop := dipDipsRow.holds Tryd.pinned (OpenSpec.ofChange dipDipsWrong)

/-- 'almucantarlaw19.DipTables': WHATEVER THE INPUT: true; the input reads as it did. -/
def dipTablesSpec : ChangeSpec := { name := "dipTables", fn := fun _ => fun
  | [d] => { results := [.lit (.bool true)], args := [d] }
  | _ => none }
def dipTablesRow : OpenClaim := { program := "ytfcdcegamcjaiaadoor", sum := "d653cc0865ea0b5c55836164f7ca613a094b79fe038dd1cabb64987af409b39c", func := "almucantar/almucantarlaw19.DipTables", spec := "dipTables", inPlace := ["internal/abi.NoEscape", "internal/bytealg.MakeNoZero"], recurses := true, named := ["internal/strconv.uint64pow10", "math/bits.deBruijn32tab", "math/bits.deBruijn64tab"], apart := false, laid := [("math/bits.deBruijn32tab", laid_math_bits_deBruijn32tab), ("math/bits.deBruijn64tab", laid_math_bits_deBruijn64tab), ("internal/strconv.uint64pow10", laid_internal_strconv_uint64pow10)] }
def DipTablesSaid : Prop := dipTablesRow.holds Tryd.pinned (OpenSpec.ofChange dipTablesSpec)

/-- ITS FALSE NEIGHBOUR: 'it returns false'. Refute it at one input. -/
def dipTablesWrong : ChangeSpec := { name := "dipTables", fn := fun _ => fun
  | [d] => { results := [.lit (.bool false)], args := [d] }
  | _ => none }
def DipTablesWrongFalsely : Prop := dipTablesRow.holds Tryd.pinned (OpenSpec.ofChange dipTablesWrong)

/-- 'almucantarlaw19.DipShort': WHATEVER THE INPUT: true; the input reads as it did. -/
def dipShortSpec : ChangeSpec := { name := "dipShort", fn := fun _ => fun
  | [d1, d2, d3] => { results := [.lit (.bool true)], args := [d1, d2, d3] }
  | _ => none }
def dipShortRow : OpenClaim := { program := "ytfcdcegamcjaiaadoor", sum := "d653cc0865ea0b5c55836164f7ca613a094b79fe038dd1cabb64987af409b39c", func := "almucantar/almucantarlaw19.DipShort", spec := "dipShort", inPlace := ["internal/abi.NoEscape", "internal/bytealg.MakeNoZero"], named := ["internal/strconv.uint64pow10", "math/bits.deBruijn32tab", "math/bits.deBruijn64tab"], apart := false, laid := [("math/bits.deBruijn32tab", laid_math_bits_deBruijn32tab), ("math/bits.deBruijn64tab", laid_math_bits_deBruijn64tab), ("internal/strconv.uint64pow10", laid_internal_strconv_uint64pow10)] }
def DipShortSaid : Prop := dipShortRow.holds Tryd.pinned (OpenSpec.ofChange dipShortSpec)

/-- ITS FALSE NEIGHBOUR: 'it returns false'. Refute it at one input. -/
def dipShortWrong : ChangeSpec := { name := "dipShort", fn := fun _ => fun
  | [d1, d2, d3] => { results := [.lit (.bool false)], args := [d1, d2, d3] }
  | _ => none }
def DipShortWrongFalsely : Prop := dipShortRow.holds Tryd.pinned (OpenSpec.ofChange dipShortWrong)

/-- 'almucantarlaw19.DipLines': WHATEVER THE INPUT: true; the input reads as it did. -/
def dipLinesSpec : ChangeSpec := { name := "dipLines", fn := fun _ => fun
  | [d] => { results := [.lit (.bool true)], args := [d] }
  | _ => none }
def dipLinesRow : OpenClaim := { program := "ytfcdcegamcjaiaadoor", sum := "d653cc0865ea0b5c55836164f7ca613a094b79fe038dd1cabb64987af409b39c", func := "almucantar/almucantarlaw19.DipLines", spec := "dipLines", inPlace := ["internal/abi.NoEscape", "internal/bytealg.MakeNoZero"], named := ["internal/strconv.uint64pow10", "math/bits.deBruijn32tab", "math/bits.deBruijn64tab"], apart := false, laid := [("math/bits.deBruijn32tab", laid_math_bits_deBruijn32tab), ("math/bits.deBruijn64tab", laid_math_bits_deBruijn64tab), ("internal/strconv.uint64pow10", laid_internal_strconv_uint64pow10)] }
def DipLinesSaid : Prop := dipLinesRow.holds Tryd.pinned (OpenSpec.ofChange dipLinesSpec)

/-- ITS FALSE NEIGHBOUR: 'it returns false'. Refute it at one input. -/
def dipLinesWrong : ChangeSpec := { name := "dipLines", fn := fun _ => fun
  | [d] => { results := [.lit (.bool false)], args := [d] }
  | _ => none }
def DipLinesWrongFalsely : Prop := dipLinesRow.holds Tryd.pinned (OpenSpec.ofChange dipLinesWrong)

/-- 'almucantarlaw19.DipDistances': WHATEVER THE INPUT: true; the input reads as it did. -/
def dipDistancesSpec : ChangeSpec := { name := "dipDistances", fn := fun _ => fun
  | [d1, d2] => { results := [.lit (.bool true)], args := [d1, d2] }
  | _ => none }
def dipDistancesRow : OpenClaim := { program := "ytfcdcegamcjaiaadoor", sum := "d653cc0865ea0b5c55836164f7ca613a094b79fe038dd1cabb64987af409b39c", func := "almucantar/almucantarlaw19.DipDistances", spec := "dipDistances", inPlace := ["internal/abi.NoEscape", "internal/bytealg.MakeNoZero"], named := ["internal/strconv.uint64pow10", "math/bits.deBruijn32tab", "math/bits.deBruijn64tab"], apart := false, laid := [("math/bits.deBruijn32tab", laid_math_bits_deBruijn32tab), ("math/bits.deBruijn64tab", laid_math_bits_deBruijn64tab), ("internal/strconv.uint64pow10", laid_internal_strconv_uint64pow10)] }
def DipDistancesSaid : Prop := dipDistancesRow.holds Tryd.pinned (OpenSpec.ofChange dipDistancesSpec)

/-- ITS FALSE NEIGHBOUR: 'it returns false'. Refute it at one input. -/
def dipDistancesWrong : ChangeSpec := { name := "dipDistances", fn := fun _ => fun
  | [d1, d2] => { results := [.lit (.bool false)], args := [d1, d2] }
  | _ => none }
def DipDistancesWrongFalsely : Prop := dipDistancesRow.holds Tryd.pinned (OpenSpec.ofChange dipDistancesWrong)

/-- 'almucantarlaw19.DipRoots': WHATEVER THE INPUT: true; the input reads as it did. -/
def dipRootsSpec : ChangeSpec := { name := "dipRoots", fn := fun _ => fun
  | [d1, d2] => { results := [.lit (.bool true)], args := [d1, d2] }
  | _ => none }
def dipRootsRow : OpenClaim := { program := "ytfcdcegamcjaiaadoor", sum := "d653cc0865ea0b5c55836164f7ca613a094b79fe038dd1cabb64987af409b39c", func := "almucantar/almucantarlaw19.DipRoots", spec := "dipRoots", inPlace := ["internal/abi.NoEscape", "internal/bytealg.MakeNoZero"], named := ["internal/strconv.uint64pow10", "math/bits.deBruijn32tab", "math/bits.deBruijn64tab"], apart := false, laid := [("math/bits.deBruijn32tab", laid_math_bits_deBruijn32tab), ("math/bits.deBruijn64tab", laid_math_bits_deBruijn64tab), ("internal/strconv.uint64pow10", laid_internal_strconv_uint64pow10)] }
def DipRootsSaid : Prop := dipRootsRow.holds Tryd.pinned (OpenSpec.ofChange dipRootsSpec)

/-- ITS FALSE NEIGHBOUR: 'it returns false'. Refute it at one input. -/
def dipRootsWrong : ChangeSpec := { name := "dipRoots", fn := fun _ => fun
  | [d1, d2] => { results := [.lit (.bool false)], args := [d1, d2] }
  | _ => none }
def DipRootsWrongFalsely : Prop := dipRootsRow.holds Tryd.pinned (OpenSpec.ofChange dipRootsWrong)

/- THE SECOND FORM. 'bulk': how many values and letters a reading holds, each counted each time it is reached (what is shared counts as often as it is met; a slice's spare places count too). A statement '..UptoSaid' is the law's where the arguments, and the package variables that the reading takes, are together of bulk at most 1048576: NARROWER than '..Said'. Prove '..Said' where nothing that the law and all that it calls make is longer than what came in: it says more and counts as full. Else prove '..UptoSaid'. A law counts once. -/
mutual
def uptoBulk {H : Type} : DataW H → Nat
  | .lit (.string bytes) => bytes.length + 1
  | .lit _ => 1
  | .nil => 1
  | .ptr d => uptoBulk d + 1
  | .slice elems spare => uptoBulkAll elems + uptoBulkAll spare + 1
  | .agg parts => uptoBulkAll parts + 1
  | .iface _ d => uptoBulk d + 1
  | .map entries => uptoBulkEntries entries + 1
  | .held _ => 1
def uptoBulkAll {H : Type} : List (DataW H) → Nat
  | [] => 0
  | d :: r => uptoBulk d + uptoBulkAll r
def uptoBulkEntries {H : Type} : List (Lit × DataW H) → Nat
  | [] => 0
  | x :: r => uptoBulkEntry x + uptoBulkEntries r
def uptoBulkEntry {H : Type} : Lit × DataW H → Nat
  | (.string bytes, d) => bytes.length + uptoBulk d + 1
  | (_, d) => uptoBulk d + 1
 end
def uptoSmall : (H : Type) → List (DataW H) → Bool := fun _ ds => decide (uptoBulkAll ds ≤ 1048576)
def OpenSpec.upto (s : _root_.Go.ChangeSpec) : _root_.Go.OpenSpec := { _root_.Go.OpenSpec.ofChange s with cond := some uptoSmall }

/-- 'almucantarlaw19.DipDips', WHERE WHAT IT READS IS OF BULK AT MOST 1048576: true; the input reads as it did. -/
def dipDipsUptoRow : OpenClaim := { program := "ytfcdcegamcjaiaadoor", sum := "d653cc0865ea0b5c55836164f7ca613a094b79fe038dd1cabb64987af409b39c", func := "almucantar/almucantarlaw19.DipDips", spec := "dipDips", inPlace := ["internal/abi.NoEscape", "internal/bytealg.MakeNoZero"], named := ["internal/strconv.uint64pow10", "math/bits.deBruijn32tab", "math/bits.deBruijn64tab"], apart := false, laid := [("math/bits.deBruijn32tab", laid_math_bits_deBruijn32tab), ("math/bits.deBruijn64tab", laid_math_bits_deBruijn64tab), ("internal/strconv.uint64pow10", laid_internal_strconv_uint64pow10)], narrowed := true }
def DipDipsUptoSaid : Prop := dipDipsUptoRow.holds Tryd.pinned (OpenSpec.upto dipDipsSpec)

/-- 'almucantarlaw19.DipTables', WHERE WHAT IT READS IS OF BULK AT MOST 1048576: true; the input reads as it did. -/
def dipTablesUptoRow : OpenClaim := { program := "ytfcdcegamcjaiaadoor", sum := "d653cc0865ea0b5c55836164f7ca613a094b79fe038dd1cabb64987af409b39c", func := "almucantar/almucantarlaw19.DipTables", spec := "dipTables", inPlace := ["internal/abi.NoEscape", "internal/bytealg.MakeNoZero"], recurses := true, named := ["internal/strconv.uint64pow10", "math/bits.deBruijn32tab", "math/bits.deBruijn64tab"], apart := false, laid := [("math/bits.deBruijn32tab", laid_math_bits_deBruijn32tab), ("math/bits.deBruijn64tab", laid_math_bits_deBruijn64tab), ("internal/strconv.uint64pow10", laid_internal_strconv_uint64pow10)], narrowed := true }
def DipTablesUptoSaid : Prop := dipTablesUptoRow.holds Tryd.pinned (OpenSpec.upto dipTablesSpec)

/-- 'almucantarlaw19.DipShort', WHERE WHAT IT READS IS OF BULK AT MOST 1048576: true; the input reads as it did. -/
def dipShortUptoRow : OpenClaim := { program := "ytfcdcegamcjaiaadoor", sum := "d653cc0865ea0b5c55836164f7ca613a094b79fe038dd1cabb64987af409b39c", func := "almucantar/almucantarlaw19.DipShort", spec := "dipShort", inPlace := ["internal/abi.NoEscape", "internal/bytealg.MakeNoZero"], named := ["internal/strconv.uint64pow10", "math/bits.deBruijn32tab", "math/bits.deBruijn64tab"], apart := false, laid := [("math/bits.deBruijn32tab", laid_math_bits_deBruijn32tab), ("math/bits.deBruijn64tab", laid_math_bits_deBruijn64tab), ("internal/strconv.uint64pow10", laid_internal_strconv_uint64pow10)], narrowed := true }
def DipShortUptoSaid : Prop := dipShortUptoRow.holds Tryd.pinned (OpenSpec.upto dipShortSpec)

/-- 'almucantarlaw19.DipLines', WHERE WHAT IT READS IS OF BULK AT MOST 1048576: true; the input reads as it did. -/
def dipLinesUptoRow : OpenClaim := { program := "ytfcdcegamcjaiaadoor", sum := "d653cc0865ea0b5c55836164f7ca613a094b79fe038dd1cabb64987af409b39c", func := "almucantar/almucantarlaw19.DipLines", spec := "dipLines", inPlace := ["internal/abi.NoEscape", "internal/bytealg.MakeNoZero"], named := ["internal/strconv.uint64pow10", "math/bits.deBruijn32tab", "math/bits.deBruijn64tab"], apart := false, laid := [("math/bits.deBruijn32tab", laid_math_bits_deBruijn32tab), ("math/bits.deBruijn64tab", laid_math_bits_deBruijn64tab), ("internal/strconv.uint64pow10", laid_internal_strconv_uint64pow10)], narrowed := true }
def DipLinesUptoSaid : Prop := dipLinesUptoRow.holds Tryd.pinned (OpenSpec.upto dipLinesSpec)

/-- 'almucantarlaw19.DipDistances', WHERE WHAT IT READS IS OF BULK AT MOST 1048576: true; the input reads as it did. -/
def dipDistancesUptoRow : OpenClaim := { program := "ytfcdcegamcjaiaadoor", sum := "d653cc0865ea0b5c55836164f7ca613a094b79fe038dd1cabb64987af409b39c", func := "almucantar/almucantarlaw19.DipDistances", spec := "dipDistances", inPlace := ["internal/abi.NoEscape", "internal/bytealg.MakeNoZero"], named := ["internal/strconv.uint64pow10", "math/bits.deBruijn32tab", "math/bits.deBruijn64tab"], apart := false, laid := [("math/bits.deBruijn32tab", laid_math_bits_deBruijn32tab), ("math/bits.deBruijn64tab", laid_math_bits_deBruijn64tab), ("internal/strconv.uint64pow10", laid_internal_strconv_uint64pow10)], narrowed := true }
def DipDistancesUptoSaid : Prop := dipDistancesUptoRow.holds Tryd.pinned (OpenSpec.upto dipDistancesSpec)

/-- 'almucantarlaw19.DipRoots', WHERE WHAT IT READS IS OF BULK AT MOST 1048576: true; the input reads as it did. -/
def dipRootsUptoRow : OpenClaim := { program := "ytfcdcegamcjaiaadoor", sum := "d653cc0865ea0b5c55836164f7ca613a094b79fe038dd1cabb64987af409b39c", func := "almucantar/almucantarlaw19.DipRoots", spec := "dipRoots", inPlace := ["internal/abi.NoEscape", "internal/bytealg.MakeNoZero"], named := ["internal/strconv.uint64pow10", "math/bits.deBruijn32tab", "math/bits.deBruijn64tab"], apart := false, laid := [("math/bits.deBruijn32tab", laid_math_bits_deBruijn32tab), ("math/bits.deBruijn64tab", laid_math_bits_deBruijn64tab), ("internal/strconv.uint64pow10", laid_internal_strconv_uint64pow10)], narrowed := true }
def DipRootsUptoSaid : Prop := dipRootsUptoRow.holds Tryd.pinned (OpenSpec.upto dipRootsSpec)

end Rows
end Go.Proofs.YtfcdcegamcjaiaaDoor
