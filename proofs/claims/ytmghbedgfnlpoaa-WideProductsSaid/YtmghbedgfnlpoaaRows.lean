/-
  No cell of these rows narrows 'for every input' (looked for: loops, veiled, ifaces, maps, wideKeys, modest, calm, conditions, laid).
  DERIVED. THE GIVEN ROWS OF THIS SEAT. 9 by the template 'for every input the law returns true; each argument reads behind the call as it read before'; 0 by the template 'total and deterministic' (their statements: YtmghbedgfnlpoaaTotals.lean).
  GIVEN WITH THE SEED: the statements are not yours to turn. If you find one false, say at which input.
  Laid BY PROGRAM, IN A SANDBOX (cutbox-rows.mjs): the forced cells as the released guide's own fill.sh prints them over the translation 3b4392e66fe46140… (all of the seat's roots in one cut). By AI agents, Wed Nov 11 2026. No macro, syntax, notation, axiom, sorry.
-/
import Derived.Test.YtmghbedgfnlpoaaChecked
import GoSem.Claim
import GoSem.ClaimJoined
import GoSem.ClaimMapViews
import Derived.JoinedTies
import Derived.KernelRfl
namespace Go.Proofs.Ytmghbedgfnlpoaa
/- THE CELL 'sum', in the pinned program and in every row, IS THE sha256 OF THE DUMP (.gsa) THAT YtmghbedgfnlpoaaProg.lean LOADS. Nothing in Lean hashes anything: it is a label: what it is worth is what the hold of that sum in a sandbox is worth. -/
noncomputable def Try.pinned : Pinned := { name := "ytmghbedgfnlpoaa", sum := "3b4392e66fe46140d341df5f97bdb16bdf1f68f17288899b9efc866d096f5ff1", checked := Try.checked }
namespace Rows
def none {H : Type} : Left H := { results := [], args := [] }

/-- 'almucantarlaw02.WideProducts': WHATEVER THE INPUT: true; the input reads as it did. -/
def wideProductsSpec : ChangeSpec := { name := "wideProducts", fn := fun _ => fun
  | [d1, d2] => { results := [.lit (.bool true)], args := [d1, d2] }
  | _ => none }
def wideProductsRow : OpenClaim := { program := "ytmghbedgfnlpoaa", sum := "3b4392e66fe46140d341df5f97bdb16bdf1f68f17288899b9efc866d096f5ff1", func := "almucantar/almucantarlaw02.WideProducts", spec := "wideProducts", named := ["math/bits.divideError", "math/bits.overflowError"], apart := false }
def WideProductsSaid : Prop := wideProductsRow.holds Try.pinned (OpenSpec.ofChange wideProductsSpec)

/-- ITS FALSE NEIGHBOUR: 'it returns false'. Refute it at one input. -/
def wideProductsWrong : ChangeSpec := { name := "wideProducts", fn := fun _ => fun
  | [d1, d2] => { results := [.lit (.bool false)], args := [d1, d2] }
  | _ => none }
def WideProductsWrongFalsely : Prop := wideProductsRow.holds Try.pinned (OpenSpec.ofChange wideProductsWrong)

/-- 'almucantarlaw02.WideQuotients': WHATEVER THE INPUT: true; the input reads as it did. -/
def wideQuotientsSpec : ChangeSpec := { name := "wideQuotients", fn := fun _ => fun
  | [d1, d2] => { results := [.lit (.bool true)], args := [d1, d2] }
  | _ => none }
def wideQuotientsRow : OpenClaim := { program := "ytmghbedgfnlpoaa", sum := "3b4392e66fe46140d341df5f97bdb16bdf1f68f17288899b9efc866d096f5ff1", func := "almucantar/almucantarlaw02.WideQuotients", spec := "wideQuotients", named := ["math/bits.divideError", "math/bits.overflowError"], apart := false }
def WideQuotientsSaid : Prop := wideQuotientsRow.holds Try.pinned (OpenSpec.ofChange wideQuotientsSpec)

/-- ITS FALSE NEIGHBOUR: 'it returns false'. Refute it at one input. -/
def wideQuotientsWrong : ChangeSpec := { name := "wideQuotients", fn := fun _ => fun
  | [d1, d2] => { results := [.lit (.bool false)], args := [d1, d2] }
  | _ => none }
def WideQuotientsWrongFalsely : Prop := wideQuotientsRow.holds Try.pinned (OpenSpec.ofChange wideQuotientsWrong)

/-- 'almucantarlaw02.WideRoots': WHATEVER THE INPUT: true; the input reads as it did. -/
def wideRootsSpec : ChangeSpec := { name := "wideRoots", fn := fun _ => fun
  | [d] => { results := [.lit (.bool true)], args := [d] }
  | _ => none }
def wideRootsRow : OpenClaim := { program := "ytmghbedgfnlpoaa", sum := "3b4392e66fe46140d341df5f97bdb16bdf1f68f17288899b9efc866d096f5ff1", func := "almucantar/almucantarlaw02.WideRoots", spec := "wideRoots", named := ["math/bits.divideError", "math/bits.overflowError"], apart := false }
def WideRootsSaid : Prop := wideRootsRow.holds Try.pinned (OpenSpec.ofChange wideRootsSpec)

/-- ITS FALSE NEIGHBOUR: 'it returns false'. Refute it at one input. -/
def wideRootsWrong : ChangeSpec := { name := "wideRoots", fn := fun _ => fun
  | [d] => { results := [.lit (.bool false)], args := [d] }
  | _ => none }
def WideRootsWrongFalsely : Prop := wideRootsRow.holds Try.pinned (OpenSpec.ofChange wideRootsWrong)

/-- 'almucantarlaw02.WideFactors': WHATEVER THE INPUT: true; the input reads as it did. -/
def wideFactorsSpec : ChangeSpec := { name := "wideFactors", fn := fun _ => fun
  | [d1, d2, d3] => { results := [.lit (.bool true)], args := [d1, d2, d3] }
  | _ => none }
def wideFactorsRow : OpenClaim := { program := "ytmghbedgfnlpoaa", sum := "3b4392e66fe46140d341df5f97bdb16bdf1f68f17288899b9efc866d096f5ff1", func := "almucantar/almucantarlaw02.WideFactors", spec := "wideFactors", unfollowed := true, recurses := true, named := ["math/bits.divideError", "math/bits.overflowError"], apart := false }
def WideFactorsSaid : Prop := wideFactorsRow.holds Try.pinned (OpenSpec.ofChange wideFactorsSpec)

/-- ITS FALSE NEIGHBOUR: 'it returns false'. Refute it at one input. -/
def wideFactorsWrong : ChangeSpec := { name := "wideFactors", fn := fun _ => fun
  | [d1, d2, d3] => { results := [.lit (.bool false)], args := [d1, d2, d3] }
  | _ => none }
def WideFactorsWrongFalsely : Prop := wideFactorsRow.holds Try.pinned (OpenSpec.ofChange wideFactorsWrong)

/-- 'almucantarlaw02.WideForms': WHATEVER THE INPUT: true; the input reads as it did. -/
def wideFormsSpec : ChangeSpec := { name := "wideForms", fn := fun _ => fun
  | [d1, d2] => { results := [.lit (.bool true)], args := [d1, d2] }
  | _ => none }
def wideFormsRow : OpenClaim := { program := "ytmghbedgfnlpoaa", sum := "3b4392e66fe46140d341df5f97bdb16bdf1f68f17288899b9efc866d096f5ff1", func := "almucantar/almucantarlaw02.WideForms", spec := "wideForms", named := ["math/bits.divideError", "math/bits.overflowError"], apart := false }
def WideFormsSaid : Prop := wideFormsRow.holds Try.pinned (OpenSpec.ofChange wideFormsSpec)

/-- ITS FALSE NEIGHBOUR: 'it returns false'. Refute it at one input. -/
def wideFormsWrong : ChangeSpec := { name := "wideForms", fn := fun _ => fun
  | [d1, d2] => { results := [.lit (.bool false)], args := [d1, d2] }
  | _ => none }
def WideFormsWrongFalsely : Prop := wideFormsRow.holds Try.pinned (OpenSpec.ofChange wideFormsWrong)

/-- 'almucantarlaw02.WideSquares': WHATEVER THE INPUT: true; the input reads as it did. -/
def wideSquaresSpec : ChangeSpec := { name := "wideSquares", fn := fun _ => fun
  | [d1, d2] => { results := [.lit (.bool true)], args := [d1, d2] }
  | _ => none }
def wideSquaresRow : OpenClaim := { program := "ytmghbedgfnlpoaa", sum := "3b4392e66fe46140d341df5f97bdb16bdf1f68f17288899b9efc866d096f5ff1", func := "almucantar/almucantarlaw02.WideSquares", spec := "wideSquares", named := ["math/bits.divideError", "math/bits.overflowError"], apart := false }
def WideSquaresSaid : Prop := wideSquaresRow.holds Try.pinned (OpenSpec.ofChange wideSquaresSpec)

/-- ITS FALSE NEIGHBOUR: 'it returns false'. Refute it at one input. -/
def wideSquaresWrong : ChangeSpec := { name := "wideSquares", fn := fun _ => fun
  | [d1, d2] => { results := [.lit (.bool false)], args := [d1, d2] }
  | _ => none }
def WideSquaresWrongFalsely : Prop := wideSquaresRow.holds Try.pinned (OpenSpec.ofChange wideSquaresWrong)

/-- 'almucantarlaw02.WideFloors': WHATEVER THE INPUT: true; the input reads as it did. -/
def wideFloorsSpec : ChangeSpec := { name := "wideFloors", fn := fun _ => fun
  | [d1, d2] => { results := [.lit (.bool true)], args := [d1, d2] }
  | _ => none }
def wideFloorsRow : OpenClaim := { program := "ytmghbedgfnlpoaa", sum := "3b4392e66fe46140d341df5f97bdb16bdf1f68f17288899b9efc866d096f5ff1", func := "almucantar/almucantarlaw02.WideFloors", spec := "wideFloors", named := ["math/bits.divideError", "math/bits.overflowError"], apart := false }
def WideFloorsSaid : Prop := wideFloorsRow.holds Try.pinned (OpenSpec.ofChange wideFloorsSpec)

/-- ITS FALSE NEIGHBOUR: 'it returns false'. Refute it at one input. -/
def wideFloorsWrong : ChangeSpec := { name := "wideFloors", fn := fun _ => fun
  | [d1, d2] => { results := [.lit (.bool false)], args := [d1, d2] }
  | _ => none }
def WideFloorsWrongFalsely : Prop := wideFloorsRow.holds Try.pinned (OpenSpec.ofChange wideFloorsWrong)

/-- 'almucantarlaw02.WideSums': WHATEVER THE INPUT: true; the input reads as it did. -/
def wideSumsSpec : ChangeSpec := { name := "wideSums", fn := fun _ => fun
  | [d1, d2] => { results := [.lit (.bool true)], args := [d1, d2] }
  | _ => none }
def wideSumsRow : OpenClaim := { program := "ytmghbedgfnlpoaa", sum := "3b4392e66fe46140d341df5f97bdb16bdf1f68f17288899b9efc866d096f5ff1", func := "almucantar/almucantarlaw02.WideSums", spec := "wideSums", named := ["math/bits.divideError", "math/bits.overflowError"], apart := false }
def WideSumsSaid : Prop := wideSumsRow.holds Try.pinned (OpenSpec.ofChange wideSumsSpec)

/-- ITS FALSE NEIGHBOUR: 'it returns false'. Refute it at one input. -/
def wideSumsWrong : ChangeSpec := { name := "wideSums", fn := fun _ => fun
  | [d1, d2] => { results := [.lit (.bool false)], args := [d1, d2] }
  | _ => none }
def WideSumsWrongFalsely : Prop := wideSumsRow.holds Try.pinned (OpenSpec.ofChange wideSumsWrong)

/-- 'almucantarlaw02.WideBack': WHATEVER THE INPUT: true; the input reads as it did. -/
def wideBackSpec : ChangeSpec := { name := "wideBack", fn := fun _ => fun
  | [d1, d2, d3] => { results := [.lit (.bool true)], args := [d1, d2, d3] }
  | _ => none }
def wideBackRow : OpenClaim := { program := "ytmghbedgfnlpoaa", sum := "3b4392e66fe46140d341df5f97bdb16bdf1f68f17288899b9efc866d096f5ff1", func := "almucantar/almucantarlaw02.WideBack", spec := "wideBack", named := ["math/bits.divideError", "math/bits.overflowError"], apart := false }
def WideBackSaid : Prop := wideBackRow.holds Try.pinned (OpenSpec.ofChange wideBackSpec)

/-- ITS FALSE NEIGHBOUR: 'it returns false'. Refute it at one input. -/
def wideBackWrong : ChangeSpec := { name := "wideBack", fn := fun _ => fun
  | [d1, d2, d3] => { results := [.lit (.bool false)], args := [d1, d2, d3] }
  | _ => none }
def WideBackWrongFalsely : Prop := wideBackRow.holds Try.pinned (OpenSpec.ofChange wideBackWrong)

/- THE SECOND FORM. 'bulk': how many values and letters a reading holds, each counted each time it is reached (what is shared counts as often as it is met; a slice's spare places count too). A statement '..UptoSaid' is the law's where the arguments, and the package variables that the reading takes, are together of bulk at most 1048576: NARROWER than '..Said'. Prove '..Said' where nothing that the law and all that it calls make is longer than what came in: it says more and counts as full. Else prove '..UptoSaid'. A law counts once. -/
mutual
def uptoBulk {H : Type} : DataW H → Nat
  | .lit (.string bytes) => bytes.length + 1
  | .lit _ => 1
  | .nil => 1
  | .ptr d => uptoBulk d + 1
  | .slice elems spare => uptoBulkAll elems + uptoBulkAll spare + 1
  | .agg parts => uptoBulkAll parts + 1
  | .iface _ d => uptoBulk d + 1
  | .map entries => uptoBulkEntries entries + 1
  | .held _ => 1
def uptoBulkAll {H : Type} : List (DataW H) → Nat
  | [] => 0
  | d :: r => uptoBulk d + uptoBulkAll r
def uptoBulkEntries {H : Type} : List (Lit × DataW H) → Nat
  | [] => 0
  | x :: r => uptoBulkEntry x + uptoBulkEntries r
def uptoBulkEntry {H : Type} : Lit × DataW H → Nat
  | (.string bytes, d) => bytes.length + uptoBulk d + 1
  | (_, d) => uptoBulk d + 1
 end
def uptoSmall : (H : Type) → List (DataW H) → Bool := fun _ ds => decide (uptoBulkAll ds ≤ 1048576)
def OpenSpec.upto (s : _root_.Go.ChangeSpec) : _root_.Go.OpenSpec := { _root_.Go.OpenSpec.ofChange s with cond := some uptoSmall }

/-- 'almucantarlaw02.WideProducts', WHERE WHAT IT READS IS OF BULK AT MOST 1048576: true; the input reads as it did. -/
def wideProductsUptoRow : OpenClaim := { program := "ytmghbedgfnlpoaa", sum := "3b4392e66fe46140d341df5f97bdb16bdf1f68f17288899b9efc866d096f5ff1", func := "almucantar/almucantarlaw02.WideProducts", spec := "wideProducts", named := ["math/bits.divideError", "math/bits.overflowError"], apart := false, narrowed := true }
def WideProductsUptoSaid : Prop := wideProductsUptoRow.holds Try.pinned (OpenSpec.upto wideProductsSpec)

/-- 'almucantarlaw02.WideQuotients', WHERE WHAT IT READS IS OF BULK AT MOST 1048576: true; the input reads as it did. -/
def wideQuotientsUptoRow : OpenClaim := { program := "ytmghbedgfnlpoaa", sum := "3b4392e66fe46140d341df5f97bdb16bdf1f68f17288899b9efc866d096f5ff1", func := "almucantar/almucantarlaw02.WideQuotients", spec := "wideQuotients", named := ["math/bits.divideError", "math/bits.overflowError"], apart := false, narrowed := true }
def WideQuotientsUptoSaid : Prop := wideQuotientsUptoRow.holds Try.pinned (OpenSpec.upto wideQuotientsSpec)

/-- 'almucantarlaw02.WideRoots', WHERE WHAT IT READS IS OF BULK AT MOST 1048576: true; the input reads as it did. -/
def wideRootsUptoRow : OpenClaim := { program := "ytmghbedgfnlpoaa", sum := "3b4392e66fe46140d341df5f97bdb16bdf1f68f17288899b9efc866d096f5ff1", func := "almucantar/almucantarlaw02.WideRoots", spec := "wideRoots", named := ["math/bits.divideError", "math/bits.overflowError"], apart := false, narrowed := true }
def WideRootsUptoSaid : Prop := wideRootsUptoRow.holds Try.pinned (OpenSpec.upto wideRootsSpec)

/-- 'almucantarlaw02.WideFactors', WHERE WHAT IT READS IS OF BULK AT MOST 1048576: true; the input reads as it did. -/
def wideFactorsUptoRow : OpenClaim := { program := "ytmghbedgfnlpoaa", sum := "3b4392e66fe46140d341df5f97bdb16bdf1f68f17288899b9efc866d096f5ff1", func := "almucantar/almucantarlaw02.WideFactors", spec := "wideFactors", unfollowed := true, recurses := true, named := ["math/bits.divideError", "math/bits.overflowError"], apart := false, narrowed := true }
def WideFactorsUptoSaid : Prop := wideFactorsUptoRow.holds Try.pinned (OpenSpec.upto wideFactorsSpec)

/-- 'almucantarlaw02.WideForms', WHERE WHAT IT READS IS OF BULK AT MOST 1048576: true; the input reads as it did. -/
def wideFormsUptoRow : OpenClaim := { program := "ytmghbedgfnlpoaa", sum := "3b4392e66fe46140d341df5f97bdb16bdf1f68f17288899b9efc866d096f5ff1", func := "almucantar/almucantarlaw02.WideForms", spec := "wideForms", named := ["math/bits.divideError", "math/bits.overflowError"], apart := false, narrowed := true }
def WideFormsUptoSaid : Prop := wideFormsUptoRow.holds Try.pinned (OpenSpec.upto wideFormsSpec)

/-- 'almucantarlaw02.WideSquares', WHERE WHAT IT READS IS OF BULK AT MOST 1048576: true; the input reads as it did. -/
def wideSquaresUptoRow : OpenClaim := { program := "ytmghbedgfnlpoaa", sum := "3b4392e66fe46140d341df5f97bdb16bdf1f68f17288899b9efc866d096f5ff1", func := "almucantar/almucantarlaw02.WideSquares", spec := "wideSquares", named := ["math/bits.divideError", "math/bits.overflowError"], apart := false, narrowed := true }
def WideSquaresUptoSaid : Prop := wideSquaresUptoRow.holds Try.pinned (OpenSpec.upto wideSquaresSpec)

/-- 'almucantarlaw02.WideFloors', WHERE WHAT IT READS IS OF BULK AT MOST 1048576: true; the input reads as it did. -/
def wideFloorsUptoRow : OpenClaim := { program := "ytmghbedgfnlpoaa", sum := "3b4392e66fe46140d341df5f97bdb16bdf1f68f17288899b9efc866d096f5ff1", func := "almucantar/almucantarlaw02.WideFloors", spec := "wideFloors", named := ["math/bits.divideError", "math/bits.overflowError"], apart := false, narrowed := true }
def WideFloorsUptoSaid : Prop := wideFloorsUptoRow.holds Try.pinned (OpenSpec.upto wideFloorsSpec)

/-- 'almucantarlaw02.WideSums', WHERE WHAT IT READS IS OF BULK AT MOST 1048576: true; the input reads as it did. -/
def wideSumsUptoRow : OpenClaim := { program := "ytmghbedgfnlpoaa", sum := "3b4392e66fe46140d341df5f97bdb16bdf1f68f17288899b9efc866d096f5ff1", func := "almucantar/almucantarlaw02.WideSums", spec := "wideSums", named := ["math/bits.divideError", "math/bits.overflowError"], apart := false, narrowed := true }
def WideSumsUptoSaid : Prop := wideSumsUptoRow.holds Try.pinned (OpenSpec.upto wideSumsSpec)

/-- 'almucantarlaw02.WideBack', WHERE WHAT IT READS IS OF BULK AT MOST 1048576: true; the input reads as it did. -/
def wideBackUptoRow : OpenClaim := { program := "ytmghbedgfnlpoaa", sum := "3b4392e66fe46140d341df5f97bdb16bdf1f68f17288899b9efc866d096f5ff1", func := "almucantar/almucantarlaw02.WideBack", spec := "wideBack", named := ["math/bits.divideError", "math/bits.overflowError"], apart := false, narrowed := true }
def WideBackUptoSaid : Prop := wideBackUptoRow.holds Try.pinned (OpenSpec.upto wideBackSpec)

end Rows
end Go.Proofs.Ytmghbedgfnlpoaa
