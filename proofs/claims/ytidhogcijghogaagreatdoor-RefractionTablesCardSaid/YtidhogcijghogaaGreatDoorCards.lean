/-
  DERIVED. GIVEN WITH THE SEED: THE CARDS: each row of YtidhogcijghogaaGreatDoorRows.lean that lists a variable, with what it lists TIED to the program's text (the seventh form; the later family's looks); each row that meets fmt, with fmt's text TOLD by the authors' own Lean function (tested against real Go, not proved from fmt's source: count such statements apart). THE CARD IS WHAT COUNTS. Prove the row's statement (the work); the ties are given (YtidhogcijghogaaGreatDoorTie.lean); close each card by the builder's one call (the guide's Derived/Test/ToyasCard.lean, 'card_holds'). Laid BY PROGRAM, IN A SANDBOX (cutbox-door.mjs). By AI agents, Wed Nov 11 2026. No macro, syntax, notation, axiom, sorry.
-/
import Derived.Test.YtidhogcijghogaaGreatDoorRows
import GoSem.ClaimSeven
namespace Go.Proofs.YtidhogcijghogaaGreatDoor
namespace Rows

/-- THE TIED CARD OF 'almucantarlaw20.RefractionTables'. -/
def refractionTablesCard : Claim7 := { stood := { row := refractionTablesRow, standIns := [], harness := (true, "8a2b02fb968519710f842a6ee614d6e5997398fd8a987b1e92e560ee04fa72da"), looks := false }, kinds := [], alts := [], laidByText := true, laidKinds := [.data, .data, .data], laidTests := true, laidLooks := .later }
def RefractionTablesCardSaid : Prop := Claim7.holds Tryz.pinned (.plain (OpenSpec.ofChange refractionTablesSpec)) refractionTablesCard

/-- THE SECOND FORM's CARD OF 'almucantarlaw20.RefractionTables'. -/
def refractionTablesUptoCard : Claim7 := { stood := { row := refractionTablesUptoRow, standIns := [], harness := (true, "8a2b02fb968519710f842a6ee614d6e5997398fd8a987b1e92e560ee04fa72da"), looks := false }, kinds := [], alts := [], laidByText := true, laidKinds := [.data, .data, .data], laidTests := true, laidLooks := .later }
def RefractionTablesUptoCardSaid : Prop := Claim7.holds Tryz.pinned (.plain (OpenSpec.upto refractionTablesSpec)) refractionTablesUptoCard
end Rows
end Go.Proofs.YtidhogcijghogaaGreatDoor
