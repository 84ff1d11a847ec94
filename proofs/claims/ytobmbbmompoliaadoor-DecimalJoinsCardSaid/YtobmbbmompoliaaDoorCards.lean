/-
  DERIVED. GIVEN WITH THE SEED: THE CARDS: each row of YtobmbbmompoliaaDoorRows.lean that lists a variable, with what it lists TIED to the program's text (the seventh form; the later family's looks); each row that meets fmt, with fmt's text TOLD by the authors' own Lean function (tested against real Go, not proved from fmt's source: count such statements apart). THE CARD IS WHAT COUNTS. Prove the row's statement (the work); the ties are given (YtobmbbmompoliaaDoorTie.lean); close each card by the builder's one call (the guide's Derived/Test/ToyasCard.lean, 'card_holds'). Laid BY PROGRAM, IN A SANDBOX (cutbox-door.mjs). By AI agents, Wed Nov 11 2026. No macro, syntax, notation, axiom, sorry.
-/
import Derived.Test.YtobmbbmompoliaaDoorRows
import GoSem.ClaimSeven
namespace Go.Proofs.YtobmbbmompoliaaDoor
namespace Rows

/-- THE TIED CARD OF 'almucantarlaw01.DecimalJoins'. -/
def decimalJoinsCard : Claim7 := { stood := { row := decimalJoinsRow, standIns := [], harness := (true, "23ecf551036e40eac6d074f1332f9d18ae091adcba1f2f5d22e1c3962b2dafbf"), looks := false }, kinds := [], alts := [], laidByText := true, laidKinds := [.data, .pinned], laidTests := true, laidLooks := .later }
def DecimalJoinsCardSaid : Prop := Claim7.holds Tryd.pinned (.plain (OpenSpec.ofChange decimalJoinsSpec)) decimalJoinsCard

/-- THE SECOND FORM's CARD OF 'almucantarlaw01.DecimalJoins'. -/
def decimalJoinsUptoCard : Claim7 := { stood := { row := decimalJoinsUptoRow, standIns := [], harness := (true, "23ecf551036e40eac6d074f1332f9d18ae091adcba1f2f5d22e1c3962b2dafbf"), looks := false }, kinds := [], alts := [], laidByText := true, laidKinds := [.data, .pinned], laidTests := true, laidLooks := .later }
def DecimalJoinsUptoCardSaid : Prop := Claim7.holds Tryd.pinned (.plain (OpenSpec.upto decimalJoinsSpec)) decimalJoinsUptoCard
end Rows
end Go.Proofs.YtobmbbmompoliaaDoor
