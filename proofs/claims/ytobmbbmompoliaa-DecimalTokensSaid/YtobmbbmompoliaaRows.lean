/-
  No cell of these rows narrows 'for every input' (looked for: loops, veiled, ifaces, maps, wideKeys, modest, calm, conditions, laid).
  DERIVED. THE GIVEN ROWS OF THIS SEAT. 4 by the template 'for every input the law returns true; each argument reads behind the call as it read before'; 0 by the template 'total and deterministic' (their statements: YtobmbbmompoliaaTotals.lean).
  GIVEN WITH THE SEED: the statements are not yours to turn. If you find one false, say at which input.
  Laid BY PROGRAM, IN A SANDBOX (cutbox-rows.mjs): the forced cells as the released guide's own fill.sh prints them over the translation f3f3fb10348c579b… (all of the seat's roots in one cut). By AI agents, Wed Nov 11 2026. No macro, syntax, notation, axiom, sorry.
-/
import Derived.Test.YtobmbbmompoliaaChecked
import GoSem.Claim
import GoSem.ClaimJoined
import GoSem.ClaimMapViews
import Derived.JoinedTies
import Derived.KernelRfl
namespace Go.Proofs.Ytobmbbmompoliaa
/- THE CELL 'sum', in the pinned program and in every row, IS THE sha256 OF THE DUMP (.gsa) THAT YtobmbbmompoliaaProg.lean LOADS. Nothing in Lean hashes anything: it is a label: what it is worth is what the hold of that sum in a sandbox is worth. -/
noncomputable def Try.pinned : Pinned := { name := "ytobmbbmompoliaa", sum := "f3f3fb10348c579b696d53c03a26ace8b9de83208abfddec02e7d4a990127823", checked := Try.checked }
namespace Rows
def none {H : Type} : Left H := { results := [], args := [] }

/-- 'almucantarlaw01.DecimalFormats': WHATEVER THE INPUT: true; the input reads as it did. -/
def decimalFormatsSpec : ChangeSpec := { name := "decimalFormats", fn := fun _ => fun
  | [d1, d2] => { results := [.lit (.bool true)], args := [d1, d2] }
  | _ => none }
def decimalFormatsRow : OpenClaim := { program := "ytobmbbmompoliaa", sum := "f3f3fb10348c579b696d53c03a26ace8b9de83208abfddec02e7d4a990127823", func := "almucantar/almucantarlaw01.DecimalFormats", spec := "decimalFormats", inPlace := ["internal/bytealg.IndexByteString", "internal/bytealg.IndexString", "internal/abi.NoEscape", "internal/bytealg.MakeNoZero"], unfollowed := true, recurses := true, named := ["internal/bytealg.MaxLen"], apart := false }
def DecimalFormatsSaid : Prop := decimalFormatsRow.holds Try.pinned (OpenSpec.ofChange decimalFormatsSpec)

/-- ITS FALSE NEIGHBOUR: 'it returns false'. Refute it at one input. -/
def decimalFormatsWrong : ChangeSpec := { name := "decimalFormats", fn := fun _ => fun
  | [d1, d2] => { results := [.lit (.bool false)], args := [d1, d2] }
  | _ => none }
def DecimalFormatsWrongFalsely : Prop := decimalFormatsRow.holds Try.pinned (OpenSpec.ofChange decimalFormatsWrong)

/-- 'almucantarlaw01.DecimalRounds': WHATEVER THE INPUT: true; the input reads as it did. -/
def decimalRoundsSpec : ChangeSpec := { name := "decimalRounds", fn := fun _ => fun
  | [d1, d2, d3, d4] => { results := [.lit (.bool true)], args := [d1, d2, d3, d4] }
  | _ => none }
def decimalRoundsRow : OpenClaim := { program := "ytobmbbmompoliaa", sum := "f3f3fb10348c579b696d53c03a26ace8b9de83208abfddec02e7d4a990127823", func := "almucantar/almucantarlaw01.DecimalRounds", spec := "decimalRounds", inPlace := ["internal/bytealg.IndexByteString", "internal/bytealg.IndexString", "internal/abi.NoEscape", "internal/bytealg.MakeNoZero"], unfollowed := true, recurses := true, named := ["internal/bytealg.MaxLen"], apart := false }
def DecimalRoundsSaid : Prop := decimalRoundsRow.holds Try.pinned (OpenSpec.ofChange decimalRoundsSpec)

/-- ITS FALSE NEIGHBOUR: 'it returns false'. Refute it at one input. -/
def decimalRoundsWrong : ChangeSpec := { name := "decimalRounds", fn := fun _ => fun
  | [d1, d2, d3, d4] => { results := [.lit (.bool false)], args := [d1, d2, d3, d4] }
  | _ => none }
def DecimalRoundsWrongFalsely : Prop := decimalRoundsRow.holds Try.pinned (OpenSpec.ofChange decimalRoundsWrong)

/-- 'almucantarlaw01.DecimalNear': WHATEVER THE INPUT: true; the input reads as it did. -/
def decimalNearSpec : ChangeSpec := { name := "decimalNear", fn := fun _ => fun
  | [d1, d2, d3, d4] => { results := [.lit (.bool true)], args := [d1, d2, d3, d4] }
  | _ => none }
def decimalNearRow : OpenClaim := { program := "ytobmbbmompoliaa", sum := "f3f3fb10348c579b696d53c03a26ace8b9de83208abfddec02e7d4a990127823", func := "almucantar/almucantarlaw01.DecimalNear", spec := "decimalNear", inPlace := ["internal/bytealg.IndexByteString", "internal/bytealg.IndexString", "internal/abi.NoEscape", "internal/bytealg.MakeNoZero"], unfollowed := true, recurses := true, named := ["internal/bytealg.MaxLen"], apart := false }
def DecimalNearSaid : Prop := decimalNearRow.holds Try.pinned (OpenSpec.ofChange decimalNearSpec)

/-- ITS FALSE NEIGHBOUR: 'it returns false'. Refute it at one input. -/
def decimalNearWrong : ChangeSpec := { name := "decimalNear", fn := fun _ => fun
  | [d1, d2, d3, d4] => { results := [.lit (.bool false)], args := [d1, d2, d3, d4] }
  | _ => none }
def DecimalNearWrongFalsely : Prop := decimalNearRow.holds Try.pinned (OpenSpec.ofChange decimalNearWrong)

/-- 'almucantarlaw01.DecimalTokens': WHATEVER THE INPUT: true; the input reads as it did. -/
def decimalTokensSpec : ChangeSpec := { name := "decimalTokens", fn := fun _ => fun
  | [d] => { results := [.lit (.bool true)], args := [d] }
  | _ => none }
def decimalTokensRow : OpenClaim := { program := "ytobmbbmompoliaa", sum := "f3f3fb10348c579b696d53c03a26ace8b9de83208abfddec02e7d4a990127823", func := "almucantar/almucantarlaw01.DecimalTokens", spec := "decimalTokens", inPlace := ["internal/bytealg.IndexByteString", "internal/bytealg.IndexString", "internal/abi.NoEscape", "internal/bytealg.MakeNoZero"], unfollowed := true, recurses := true, named := ["internal/bytealg.MaxLen"], apart := false }
def DecimalTokensSaid : Prop := decimalTokensRow.holds Try.pinned (OpenSpec.ofChange decimalTokensSpec)

/-- ITS FALSE NEIGHBOUR: 'it returns false'. Refute it at one input. -/
def decimalTokensWrong : ChangeSpec := { name := "decimalTokens", fn := fun _ => fun
  | [d] => { results := [.lit (.bool false)], args := [d] }
  | _ => none }
def DecimalTokensWrongFalsely : Prop := decimalTokensRow.holds Try.pinned (OpenSpec.ofChange decimalTokensWrong)

/- THE SECOND FORM. 'bulk': how many values and letters a reading holds, each counted each time it is reached (what is shared counts as often as it is met; a slice's spare places count too). A statement '..UptoSaid' is the law's where the arguments, and the package variables that the reading takes, are together of bulk at most 1048576: NARROWER than '..Said'. Prove '..Said' where nothing that the law and all that it calls make is longer than what came in: it says more and counts as full. Else prove '..UptoSaid'. A law counts once. -/
mutual
def uptoBulk {H : Type} : DataW H → Nat
  | .lit (.string bytes) => bytes.length + 1
  | .lit _ => 1
  | .nil => 1
  | .ptr d => uptoBulk d + 1
  | .slice elems spare => uptoBulkAll elems + uptoBulkAll spare + 1
  | .agg parts => uptoBulkAll parts + 1
  | .iface _ d => uptoBulk d + 1
  | .map entries => uptoBulkEntries entries + 1
  | .held _ => 1
def uptoBulkAll {H : Type} : List (DataW H) → Nat
  | [] => 0
  | d :: r => uptoBulk d + uptoBulkAll r
def uptoBulkEntries {H : Type} : List (Lit × DataW H) → Nat
  | [] => 0
  | x :: r => uptoBulkEntry x + uptoBulkEntries r
def uptoBulkEntry {H : Type} : Lit × DataW H → Nat
  | (.string bytes, d) => bytes.length + uptoBulk d + 1
  | (_, d) => uptoBulk d + 1
 end
def uptoSmall : (H : Type) → List (DataW H) → Bool := fun _ ds => decide (uptoBulkAll ds ≤ 1048576)
def OpenSpec.upto (s : _root_.Go.ChangeSpec) : _root_.Go.OpenSpec := { _root_.Go.OpenSpec.ofChange s with cond := some uptoSmall }

/-- 'almucantarlaw01.DecimalFormats', WHERE WHAT IT READS IS OF BULK AT MOST 1048576: true; the input reads as it did. -/
def decimalFormatsUptoRow : OpenClaim := { program := "ytobmbbmompoliaa", sum := "f3f3fb10348c579b696d53c03a26ace8b9de83208abfddec02e7d4a990127823", func := "almucantar/almucantarlaw01.DecimalFormats", spec := "decimalFormats", inPlace := ["internal/bytealg.IndexByteString", "internal/bytealg.IndexString", "internal/abi.NoEscape", "internal/bytealg.MakeNoZero"], unfollowed := true, recurses := true, named := ["internal/bytealg.MaxLen"], apart := false, narrowed := true }
def DecimalFormatsUptoSaid : Prop := decimalFormatsUptoRow.holds Try.pinned (OpenSpec.upto decimalFormatsSpec)

/-- 'almucantarlaw01.DecimalRounds', WHERE WHAT IT READS IS OF BULK AT MOST 1048576: true; the input reads as it did. -/
def decimalRoundsUptoRow : OpenClaim := { program := "ytobmbbmompoliaa", sum := "f3f3fb10348c579b696d53c03a26ace8b9de83208abfddec02e7d4a990127823", func := "almucantar/almucantarlaw01.DecimalRounds", spec := "decimalRounds", inPlace := ["internal/bytealg.IndexByteString", "internal/bytealg.IndexString", "internal/abi.NoEscape", "internal/bytealg.MakeNoZero"], unfollowed := true, recurses := true, named := ["internal/bytealg.MaxLen"], apart := false, narrowed := true }
def DecimalRoundsUptoSaid : Prop := decimalRoundsUptoRow.holds Try.pinned (OpenSpec.upto decimalRoundsSpec)

/-- 'almucantarlaw01.DecimalNear', WHERE WHAT IT READS IS OF BULK AT MOST 1048576: true; the input reads as it did. -/
def decimalNearUptoRow : OpenClaim := { program := "ytobmbbmompoliaa", sum := "f3f3fb10348c579b696d53c03a26ace8b9de83208abfddec02e7d4a990127823", func := "almucantar/almucantarlaw01.DecimalNear", spec := "decimalNear", inPlace := ["internal/bytealg.IndexByteString", "internal/bytealg.IndexString", "internal/abi.NoEscape", "internal/bytealg.MakeNoZero"], unfollowed := true, recurses := true, named := ["internal/bytealg.MaxLen"], apart := false, narrowed := true }
def DecimalNearUptoSaid : Prop := decimalNearUptoRow.holds Try.pinned (OpenSpec.upto decimalNearSpec)

/-- 'almucantarlaw01.DecimalTokens', WHERE WHAT IT READS IS OF BULK AT MOST 1048576: true; the input reads as it did. -/
def decimalTokensUptoRow : OpenClaim := { program := "ytobmbbmompoliaa", sum := "f3f3fb10348c579b696d53c03a26ace8b9de83208abfddec02e7d4a990127823", func := "almucantar/almucantarlaw01.DecimalTokens", spec := "decimalTokens", inPlace := ["internal/bytealg.IndexByteString", "internal/bytealg.IndexString", "internal/abi.NoEscape", "internal/bytealg.MakeNoZero"], unfollowed := true, recurses := true, named := ["internal/bytealg.MaxLen"], apart := false, narrowed := true }
def DecimalTokensUptoSaid : Prop := decimalTokensUptoRow.holds Try.pinned (OpenSpec.upto decimalTokensSpec)

end Rows
end Go.Proofs.Ytobmbbmompoliaa
