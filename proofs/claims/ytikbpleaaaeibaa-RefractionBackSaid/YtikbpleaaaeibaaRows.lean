/-
  No cell of these rows narrows 'for every input' (looked for: loops, veiled, ifaces, maps, wideKeys, modest, calm, conditions, laid).
  DERIVED. THE GIVEN ROWS OF THIS SEAT. 3 by the template 'for every input the law returns true; each argument reads behind the call as it read before'; 0 by the template 'total and deterministic' (their statements: YtikbpleaaaeibaaTotals.lean).
  GIVEN WITH THE SEED: the statements are not yours to turn. If you find one false, say at which input.
  Laid BY PROGRAM, IN A SANDBOX (cutbox-rows.mjs): the forced cells as the released guide's own fill.sh prints them over the translation 3e0a95108e4e6a80… (all of the seat's roots in one cut). By AI agents, Wed Nov 11 2026. No macro, syntax, notation, axiom, sorry.
-/
import Derived.Test.YtikbpleaaaeibaaChecked
import GoSem.Claim
import GoSem.ClaimJoined
import GoSem.ClaimMapViews
import Derived.JoinedTies
import Derived.KernelRfl
namespace Go.Proofs.Ytikbpleaaaeibaa
/- THE CELL 'sum', in the pinned program and in every row, IS THE sha256 OF THE DUMP (.gsa) THAT YtikbpleaaaeibaaProg.lean LOADS. Nothing in Lean hashes anything: it is a label: what it is worth is what the hold of that sum in a sandbox is worth. -/
noncomputable def Try.pinned : Pinned := { name := "ytikbpleaaaeibaa", sum := "3e0a95108e4e6a809e589e6852842c56aad81bb275c45f21a49921d5b2e9eee9", checked := Try.checked }
namespace Rows
def none {H : Type} : Left H := { results := [], args := [] }

/-- 'almucantarlaw20.RefractionLess': WHATEVER THE INPUT: true; the input reads as it did. -/
def refractionLessSpec : ChangeSpec := { name := "refractionLess", fn := fun _ => fun
  | [d1, d2, d3, d4, d5] => { results := [.lit (.bool true)], args := [d1, d2, d3, d4, d5] }
  | _ => none }
def refractionLessRow : OpenClaim := { program := "ytikbpleaaaeibaa", sum := "3e0a95108e4e6a809e589e6852842c56aad81bb275c45f21a49921d5b2e9eee9", func := "almucantar/almucantarlaw20.RefractionLess", spec := "refractionLess", inPlace := ["math/bits.Add64", "math/bits.Sub64"], unfollowed := true, recurses := true, named := ["math/bits.divideError", "math/bits.overflowError"], apart := false }
def RefractionLessSaid : Prop := refractionLessRow.holds Try.pinned (OpenSpec.ofChange refractionLessSpec)

/-- ITS FALSE NEIGHBOUR: 'it returns false'. Refute it at one input. -/
def refractionLessWrong : ChangeSpec := { name := "refractionLess", fn := fun _ => fun
  | [d1, d2, d3, d4, d5] => { results := [.lit (.bool false)], args := [d1, d2, d3, d4, d5] }
  | _ => none }
def RefractionLessWrongFalsely : Prop := refractionLessRow.holds Try.pinned (OpenSpec.ofChange refractionLessWrong)

/-- 'almucantarlaw20.RefractionWeather': WHATEVER THE INPUT: true; the input reads as it did. -/
def refractionWeatherSpec : ChangeSpec := { name := "refractionWeather", fn := fun _ => fun
  | [d1, d2, d3, d4, d5] => { results := [.lit (.bool true)], args := [d1, d2, d3, d4, d5] }
  | _ => none }
def refractionWeatherRow : OpenClaim := { program := "ytikbpleaaaeibaa", sum := "3e0a95108e4e6a809e589e6852842c56aad81bb275c45f21a49921d5b2e9eee9", func := "almucantar/almucantarlaw20.RefractionWeather", spec := "refractionWeather", inPlace := ["math/bits.Add64", "math/bits.Sub64"], unfollowed := true, recurses := true, named := ["math/bits.divideError", "math/bits.overflowError"], apart := false }
def RefractionWeatherSaid : Prop := refractionWeatherRow.holds Try.pinned (OpenSpec.ofChange refractionWeatherSpec)

/-- ITS FALSE NEIGHBOUR: 'it returns false'. Refute it at one input. -/
def refractionWeatherWrong : ChangeSpec := { name := "refractionWeather", fn := fun _ => fun
  | [d1, d2, d3, d4, d5] => { results := [.lit (.bool false)], args := [d1, d2, d3, d4, d5] }
  | _ => none }
def RefractionWeatherWrongFalsely : Prop := refractionWeatherRow.holds Try.pinned (OpenSpec.ofChange refractionWeatherWrong)

/-- 'almucantarlaw20.RefractionBack': WHATEVER THE INPUT: true; the input reads as it did. -/
def refractionBackSpec : ChangeSpec := { name := "refractionBack", fn := fun _ => fun
  | [d1, d2, d3, d4] => { results := [.lit (.bool true)], args := [d1, d2, d3, d4] }
  | _ => none }
def refractionBackRow : OpenClaim := { program := "ytikbpleaaaeibaa", sum := "3e0a95108e4e6a809e589e6852842c56aad81bb275c45f21a49921d5b2e9eee9", func := "almucantar/almucantarlaw20.RefractionBack", spec := "refractionBack", inPlace := ["math/bits.Add64", "math/bits.Sub64"], unfollowed := true, recurses := true, named := ["math/bits.divideError", "math/bits.overflowError"], apart := false }
def RefractionBackSaid : Prop := refractionBackRow.holds Try.pinned (OpenSpec.ofChange refractionBackSpec)

/-- ITS FALSE NEIGHBOUR: 'it returns false'. Refute it at one input. -/
def refractionBackWrong : ChangeSpec := { name := "refractionBack", fn := fun _ => fun
  | [d1, d2, d3, d4] => { results := [.lit (.bool false)], args := [d1, d2, d3, d4] }
  | _ => none }
def RefractionBackWrongFalsely : Prop := refractionBackRow.holds Try.pinned (OpenSpec.ofChange refractionBackWrong)

/- THE SECOND FORM. 'bulk': how many values and letters a reading holds, each counted each time it is reached (what is shared counts as often as it is met; a slice's spare places count too). A statement '..UptoSaid' is the law's where the arguments, and the package variables that the reading takes, are together of bulk at most 1048576: NARROWER than '..Said'. Prove '..Said' where nothing that the law and all that it calls make is longer than what came in: it says more and counts as full. Else prove '..UptoSaid'. A law counts once. -/
mutual
def uptoBulk {H : Type} : DataW H → Nat
  | .lit (.string bytes) => bytes.length + 1
  | .lit _ => 1
  | .nil => 1
  | .ptr d => uptoBulk d + 1
  | .slice elems spare => uptoBulkAll elems + uptoBulkAll spare + 1
  | .agg parts => uptoBulkAll parts + 1
  | .iface _ d => uptoBulk d + 1
  | .map entries => uptoBulkEntries entries + 1
  | .held _ => 1
def uptoBulkAll {H : Type} : List (DataW H) → Nat
  | [] => 0
  | d :: r => uptoBulk d + uptoBulkAll r
def uptoBulkEntries {H : Type} : List (Lit × DataW H) → Nat
  | [] => 0
  | x :: r => uptoBulkEntry x + uptoBulkEntries r
def uptoBulkEntry {H : Type} : Lit × DataW H → Nat
  | (.string bytes, d) => bytes.length + uptoBulk d + 1
  | (_, d) => uptoBulk d + 1
 end
def uptoSmall : (H : Type) → List (DataW H) → Bool := fun _ ds => decide (uptoBulkAll ds ≤ 1048576)
def OpenSpec.upto (s : _root_.Go.ChangeSpec) : _root_.Go.OpenSpec := { _root_.Go.OpenSpec.ofChange s with cond := some uptoSmall }

/-- 'almucantarlaw20.RefractionLess', WHERE WHAT IT READS IS OF BULK AT MOST 1048576: true; the input reads as it did. -/
def refractionLessUptoRow : OpenClaim := { program := "ytikbpleaaaeibaa", sum := "3e0a95108e4e6a809e589e6852842c56aad81bb275c45f21a49921d5b2e9eee9", func := "almucantar/almucantarlaw20.RefractionLess", spec := "refractionLess", inPlace := ["math/bits.Add64", "math/bits.Sub64"], unfollowed := true, recurses := true, named := ["math/bits.divideError", "math/bits.overflowError"], apart := false, narrowed := true }
def RefractionLessUptoSaid : Prop := refractionLessUptoRow.holds Try.pinned (OpenSpec.upto refractionLessSpec)

/-- 'almucantarlaw20.RefractionWeather', WHERE WHAT IT READS IS OF BULK AT MOST 1048576: true; the input reads as it did. -/
def refractionWeatherUptoRow : OpenClaim := { program := "ytikbpleaaaeibaa", sum := "3e0a95108e4e6a809e589e6852842c56aad81bb275c45f21a49921d5b2e9eee9", func := "almucantar/almucantarlaw20.RefractionWeather", spec := "refractionWeather", inPlace := ["math/bits.Add64", "math/bits.Sub64"], unfollowed := true, recurses := true, named := ["math/bits.divideError", "math/bits.overflowError"], apart := false, narrowed := true }
def RefractionWeatherUptoSaid : Prop := refractionWeatherUptoRow.holds Try.pinned (OpenSpec.upto refractionWeatherSpec)

/-- 'almucantarlaw20.RefractionBack', WHERE WHAT IT READS IS OF BULK AT MOST 1048576: true; the input reads as it did. -/
def refractionBackUptoRow : OpenClaim := { program := "ytikbpleaaaeibaa", sum := "3e0a95108e4e6a809e589e6852842c56aad81bb275c45f21a49921d5b2e9eee9", func := "almucantar/almucantarlaw20.RefractionBack", spec := "refractionBack", inPlace := ["math/bits.Add64", "math/bits.Sub64"], unfollowed := true, recurses := true, named := ["math/bits.divideError", "math/bits.overflowError"], apart := false, narrowed := true }
def RefractionBackUptoSaid : Prop := refractionBackUptoRow.holds Try.pinned (OpenSpec.upto refractionBackSpec)

end Rows
end Go.Proofs.Ytikbpleaaaeibaa
