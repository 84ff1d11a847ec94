/-
  No cell of these rows narrows 'for every input' (looked for: loops, veiled, ifaces, maps, wideKeys, modest, calm, conditions, laid).
  DERIVED. THE GIVEN ROWS OF THIS SEAT. 6 by the template 'for every input the law returns true; each argument reads behind the call as it read before'; 0 by the template 'total and deterministic' (their statements: YtdjlickmjfpokaaTotals.lean).
  GIVEN WITH THE SEED: the statements are not yours to turn. If you find one false, say at which input.
  Laid BY PROGRAM, IN A SANDBOX (cutbox-rows.mjs): the forced cells as the released guide's own fill.sh prints them over the translation 4d1954cc83425971… (all of the seat's roots in one cut). By AI agents, Wed Nov 11 2026. No macro, syntax, notation, axiom, sorry.
-/
import Derived.Test.YtdjlickmjfpokaaChecked
import GoSem.Claim
import GoSem.ClaimJoined
import GoSem.ClaimMapViews
import Derived.JoinedTies
import Derived.KernelRfl
namespace Go.Proofs.Ytdjlickmjfpokaa
/- THE CELL 'sum', in the pinned program and in every row, IS THE sha256 OF THE DUMP (.gsa) THAT YtdjlickmjfpokaaProg.lean LOADS. Nothing in Lean hashes anything: it is a label: what it is worth is what the hold of that sum in a sandbox is worth. -/
noncomputable def Try.pinned : Pinned := { name := "ytdjlickmjfpokaa", sum := "4d1954cc83425971d33dc0931e4aa5c07c3e47ca663bf20819520b8ccce0ba1c", checked := Try.checked }
namespace Rows
def none {H : Type} : Left H := { results := [], args := [] }

/-- 'almucantarlaw18.InstrumentIndex': WHATEVER THE INPUT: true; the input reads as it did. -/
def instrumentIndexSpec : ChangeSpec := { name := "instrumentIndex", fn := fun _ => fun
  | [d1, d2] => { results := [.lit (.bool true)], args := [d1, d2] }
  | _ => none }
def instrumentIndexRow : OpenClaim := { program := "ytdjlickmjfpokaa", sum := "4d1954cc83425971d33dc0931e4aa5c07c3e47ca663bf20819520b8ccce0ba1c", func := "almucantar/almucantarlaw18.InstrumentIndex", spec := "instrumentIndex", unfollowed := true, recurses := true, apart := false }
def InstrumentIndexSaid : Prop := instrumentIndexRow.holds Try.pinned (OpenSpec.ofChange instrumentIndexSpec)

/-- ITS FALSE NEIGHBOUR: 'it returns false'. Refute it at one input. -/
def instrumentIndexWrong : ChangeSpec := { name := "instrumentIndex", fn := fun _ => fun
  | [d1, d2] => { results := [.lit (.bool false)], args := [d1, d2] }
  | _ => none }
def InstrumentIndexWrongFalsely : Prop := instrumentIndexRow.holds Try.pinned (OpenSpec.ofChange instrumentIndexWrong)

/-- 'almucantarlaw18.InstrumentMeans': WHATEVER THE INPUT: true; the input reads as it did. -/
def instrumentMeansSpec : ChangeSpec := { name := "instrumentMeans", fn := fun _ => fun
  | [d1, d2] => { results := [.lit (.bool true)], args := [d1, d2] }
  | _ => none }
def instrumentMeansRow : OpenClaim := { program := "ytdjlickmjfpokaa", sum := "4d1954cc83425971d33dc0931e4aa5c07c3e47ca663bf20819520b8ccce0ba1c", func := "almucantar/almucantarlaw18.InstrumentMeans", spec := "instrumentMeans", unfollowed := true, recurses := true, apart := false }
def InstrumentMeansSaid : Prop := instrumentMeansRow.holds Try.pinned (OpenSpec.ofChange instrumentMeansSpec)

/-- ITS FALSE NEIGHBOUR: 'it returns false'. Refute it at one input. -/
def instrumentMeansWrong : ChangeSpec := { name := "instrumentMeans", fn := fun _ => fun
  | [d1, d2] => { results := [.lit (.bool false)], args := [d1, d2] }
  | _ => none }
def InstrumentMeansWrongFalsely : Prop := instrumentMeansRow.holds Try.pinned (OpenSpec.ofChange instrumentMeansWrong)

/-- 'almucantarlaw18.InstrumentCorrects': WHATEVER THE INPUT: true; the input reads as it did. -/
def instrumentCorrectsSpec : ChangeSpec := { name := "instrumentCorrects", fn := fun _ => fun
  | [d1, d2, d3] => { results := [.lit (.bool true)], args := [d1, d2, d3] }
  | _ => none }
def instrumentCorrectsRow : OpenClaim := { program := "ytdjlickmjfpokaa", sum := "4d1954cc83425971d33dc0931e4aa5c07c3e47ca663bf20819520b8ccce0ba1c", func := "almucantar/almucantarlaw18.InstrumentCorrects", spec := "instrumentCorrects", unfollowed := true, recurses := true, apart := false }
def InstrumentCorrectsSaid : Prop := instrumentCorrectsRow.holds Try.pinned (OpenSpec.ofChange instrumentCorrectsSpec)

/-- ITS FALSE NEIGHBOUR: 'it returns false'. Refute it at one input. -/
def instrumentCorrectsWrong : ChangeSpec := { name := "instrumentCorrects", fn := fun _ => fun
  | [d1, d2, d3] => { results := [.lit (.bool false)], args := [d1, d2, d3] }
  | _ => none }
def InstrumentCorrectsWrongFalsely : Prop := instrumentCorrectsRow.holds Try.pinned (OpenSpec.ofChange instrumentCorrectsWrong)

/-- 'almucantarlaw18.InstrumentBetween': WHATEVER THE INPUT: true; the input reads as it did. -/
def instrumentBetweenSpec : ChangeSpec := { name := "instrumentBetween", fn := fun _ => fun
  | [d1, d2, d3, d4] => { results := [.lit (.bool true)], args := [d1, d2, d3, d4] }
  | _ => none }
def instrumentBetweenRow : OpenClaim := { program := "ytdjlickmjfpokaa", sum := "4d1954cc83425971d33dc0931e4aa5c07c3e47ca663bf20819520b8ccce0ba1c", func := "almucantar/almucantarlaw18.InstrumentBetween", spec := "instrumentBetween", unfollowed := true, recurses := true, apart := false }
def InstrumentBetweenSaid : Prop := instrumentBetweenRow.holds Try.pinned (OpenSpec.ofChange instrumentBetweenSpec)

/-- ITS FALSE NEIGHBOUR: 'it returns false'. Refute it at one input. -/
def instrumentBetweenWrong : ChangeSpec := { name := "instrumentBetween", fn := fun _ => fun
  | [d1, d2, d3, d4] => { results := [.lit (.bool false)], args := [d1, d2, d3, d4] }
  | _ => none }
def InstrumentBetweenWrongFalsely : Prop := instrumentBetweenRow.holds Try.pinned (OpenSpec.ofChange instrumentBetweenWrong)

/-- 'almucantarlaw18.InstrumentTrue': WHATEVER THE INPUT: true; the input reads as it did. -/
def instrumentTrueSpec : ChangeSpec := { name := "instrumentTrue", fn := fun _ => fun
  | [d1, d2, d3, d4] => { results := [.lit (.bool true)], args := [d1, d2, d3, d4] }
  | _ => none }
def instrumentTrueRow : OpenClaim := { program := "ytdjlickmjfpokaa", sum := "4d1954cc83425971d33dc0931e4aa5c07c3e47ca663bf20819520b8ccce0ba1c", func := "almucantar/almucantarlaw18.InstrumentTrue", spec := "instrumentTrue", unfollowed := true, recurses := true, apart := false }
def InstrumentTrueSaid : Prop := instrumentTrueRow.holds Try.pinned (OpenSpec.ofChange instrumentTrueSpec)

/-- ITS FALSE NEIGHBOUR: 'it returns false'. Refute it at one input. -/
def instrumentTrueWrong : ChangeSpec := { name := "instrumentTrue", fn := fun _ => fun
  | [d1, d2, d3, d4] => { results := [.lit (.bool false)], args := [d1, d2, d3, d4] }
  | _ => none }
def InstrumentTrueWrongFalsely : Prop := instrumentTrueRow.holds Try.pinned (OpenSpec.ofChange instrumentTrueWrong)

/-- 'almucantarlaw18.InstrumentStraight': WHATEVER THE INPUT: true; the input reads as it did. -/
def instrumentStraightSpec : ChangeSpec := { name := "instrumentStraight", fn := fun _ => fun
  | [d1, d2, d3, d4] => { results := [.lit (.bool true)], args := [d1, d2, d3, d4] }
  | _ => none }
def instrumentStraightRow : OpenClaim := { program := "ytdjlickmjfpokaa", sum := "4d1954cc83425971d33dc0931e4aa5c07c3e47ca663bf20819520b8ccce0ba1c", func := "almucantar/almucantarlaw18.InstrumentStraight", spec := "instrumentStraight", inPlace := ["slices.overlaps[almucantar/api.Error]"], unfollowed := true, recurses := true, apart := false }
def InstrumentStraightSaid : Prop := instrumentStraightRow.holds Try.pinned (OpenSpec.ofChange instrumentStraightSpec)

/-- ITS FALSE NEIGHBOUR: 'it returns false'. Refute it at one input. -/
def instrumentStraightWrong : ChangeSpec := { name := "instrumentStraight", fn := fun _ => fun
  | [d1, d2, d3, d4] => { results := [.lit (.bool false)], args := [d1, d2, d3, d4] }
  | _ => none }
def InstrumentStraightWrongFalsely : Prop := instrumentStraightRow.holds Try.pinned (OpenSpec.ofChange instrumentStraightWrong)

/- THE SECOND FORM. 'bulk': how many values and letters a reading holds, each counted each time it is reached (what is shared counts as often as it is met; a slice's spare places count too). A statement '..UptoSaid' is the law's where the arguments, and the package variables that the reading takes, are together of bulk at most 1048576: NARROWER than '..Said'. Prove '..Said' where nothing that the law and all that it calls make is longer than what came in: it says more and counts as full. Else prove '..UptoSaid'. A law counts once. -/
mutual
def uptoBulk {H : Type} : DataW H → Nat
  | .lit (.string bytes) => bytes.length + 1
  | .lit _ => 1
  | .nil => 1
  | .ptr d => uptoBulk d + 1
  | .slice elems spare => uptoBulkAll elems + uptoBulkAll spare + 1
  | .agg parts => uptoBulkAll parts + 1
  | .iface _ d => uptoBulk d + 1
  | .map entries => uptoBulkEntries entries + 1
  | .held _ => 1
def uptoBulkAll {H : Type} : List (DataW H) → Nat
  | [] => 0
  | d :: r => uptoBulk d + uptoBulkAll r
def uptoBulkEntries {H : Type} : List (Lit × DataW H) → Nat
  | [] => 0
  | x :: r => uptoBulkEntry x + uptoBulkEntries r
def uptoBulkEntry {H : Type} : Lit × DataW H → Nat
  | (.string bytes, d) => bytes.length + uptoBulk d + 1
  | (_, d) => uptoBulk d + 1
 end
def uptoSmall : (H : Type) → List (DataW H) → Bool := fun _ ds => decide (uptoBulkAll ds ≤ 1048576)
def OpenSpec.upto (s : _root_.Go.ChangeSpec) : _root_.Go.OpenSpec := { _root_.Go.OpenSpec.ofChange s with cond := some uptoSmall }

/-- 'almucantarlaw18.InstrumentIndex', WHERE WHAT IT READS IS OF BULK AT MOST 1048576: true; the input reads as it did. -/
def instrumentIndexUptoRow : OpenClaim := { program := "ytdjlickmjfpokaa", sum := "4d1954cc83425971d33dc0931e4aa5c07c3e47ca663bf20819520b8ccce0ba1c", func := "almucantar/almucantarlaw18.InstrumentIndex", spec := "instrumentIndex", unfollowed := true, recurses := true, apart := false, narrowed := true }
def InstrumentIndexUptoSaid : Prop := instrumentIndexUptoRow.holds Try.pinned (OpenSpec.upto instrumentIndexSpec)

/-- 'almucantarlaw18.InstrumentMeans', WHERE WHAT IT READS IS OF BULK AT MOST 1048576: true; the input reads as it did. -/
def instrumentMeansUptoRow : OpenClaim := { program := "ytdjlickmjfpokaa", sum := "4d1954cc83425971d33dc0931e4aa5c07c3e47ca663bf20819520b8ccce0ba1c", func := "almucantar/almucantarlaw18.InstrumentMeans", spec := "instrumentMeans", unfollowed := true, recurses := true, apart := false, narrowed := true }
def InstrumentMeansUptoSaid : Prop := instrumentMeansUptoRow.holds Try.pinned (OpenSpec.upto instrumentMeansSpec)

/-- 'almucantarlaw18.InstrumentCorrects', WHERE WHAT IT READS IS OF BULK AT MOST 1048576: true; the input reads as it did. -/
def instrumentCorrectsUptoRow : OpenClaim := { program := "ytdjlickmjfpokaa", sum := "4d1954cc83425971d33dc0931e4aa5c07c3e47ca663bf20819520b8ccce0ba1c", func := "almucantar/almucantarlaw18.InstrumentCorrects", spec := "instrumentCorrects", unfollowed := true, recurses := true, apart := false, narrowed := true }
def InstrumentCorrectsUptoSaid : Prop := instrumentCorrectsUptoRow.holds Try.pinned (OpenSpec.upto instrumentCorrectsSpec)

/-- 'almucantarlaw18.InstrumentBetween', WHERE WHAT IT READS IS OF BULK AT MOST 1048576: true; the input reads as it did. -/
def instrumentBetweenUptoRow : OpenClaim := { program := "ytdjlickmjfpokaa", sum := "4d1954cc83425971d33dc0931e4aa5c07c3e47ca663bf20819520b8ccce0ba1c", func := "almucantar/almucantarlaw18.InstrumentBetween", spec := "instrumentBetween", unfollowed := true, recurses := true, apart := false, narrowed := true }
def InstrumentBetweenUptoSaid : Prop := instrumentBetweenUptoRow.holds Try.pinned (OpenSpec.upto instrumentBetweenSpec)

/-- 'almucantarlaw18.InstrumentTrue', WHERE WHAT IT READS IS OF BULK AT MOST 1048576: true; the input reads as it did. -/
def instrumentTrueUptoRow : OpenClaim := { program := "ytdjlickmjfpokaa", sum := "4d1954cc83425971d33dc0931e4aa5c07c3e47ca663bf20819520b8ccce0ba1c", func := "almucantar/almucantarlaw18.InstrumentTrue", spec := "instrumentTrue", unfollowed := true, recurses := true, apart := false, narrowed := true }
def InstrumentTrueUptoSaid : Prop := instrumentTrueUptoRow.holds Try.pinned (OpenSpec.upto instrumentTrueSpec)

/-- 'almucantarlaw18.InstrumentStraight', WHERE WHAT IT READS IS OF BULK AT MOST 1048576: true; the input reads as it did. -/
def instrumentStraightUptoRow : OpenClaim := { program := "ytdjlickmjfpokaa", sum := "4d1954cc83425971d33dc0931e4aa5c07c3e47ca663bf20819520b8ccce0ba1c", func := "almucantar/almucantarlaw18.InstrumentStraight", spec := "instrumentStraight", inPlace := ["slices.overlaps[almucantar/api.Error]"], unfollowed := true, recurses := true, apart := false, narrowed := true }
def InstrumentStraightUptoSaid : Prop := instrumentStraightUptoRow.holds Try.pinned (OpenSpec.upto instrumentStraightSpec)

end Rows
end Go.Proofs.Ytdjlickmjfpokaa
