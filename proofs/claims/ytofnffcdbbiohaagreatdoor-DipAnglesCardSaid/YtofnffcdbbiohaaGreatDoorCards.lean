/-
  DERIVED. GIVEN WITH THE SEED: THE CARDS: each row of YtofnffcdbbiohaaGreatDoorRows.lean that lists a variable, with what it lists TIED to the program's text (the seventh form; the later family's looks); each row that meets fmt, with fmt's text TOLD by the authors' own Lean function (tested against real Go, not proved from fmt's source: count such statements apart). THE CARD IS WHAT COUNTS. Prove the row's statement (the work); the ties are given (YtofnffcdbbiohaaGreatDoorTie.lean); close each card by the builder's one call (the guide's Derived/Test/ToyasCard.lean, 'card_holds'). Laid BY PROGRAM, IN A SANDBOX (cutbox-door.mjs). By AI agents, Wed Nov 11 2026. No macro, syntax, notation, axiom, sorry.
-/
import Derived.Test.YtofnffcdbbiohaaGreatDoorRows
import GoSem.ClaimSeven
namespace Go.Proofs.YtofnffcdbbiohaaGreatDoor
namespace Rows

/-- THE TIED CARD OF 'almucantarlaw19.DipAngles'. -/
def dipAnglesCard : Claim7 := { stood := { row := dipAnglesRow, standIns := [], harness := (true, "ff42c3b29b378d0ec376062c6a92f60dcdebfc390aaba2744f6859890a2b4275"), looks := false }, kinds := [], alts := [], laidByText := true, laidKinds := [.data, .data, .data], laidTests := true, laidLooks := .later }
def DipAnglesCardSaid : Prop := Claim7.holds Tryz.pinned (.plain (OpenSpec.ofChange dipAnglesSpec)) dipAnglesCard

/-- THE SECOND FORM's CARD OF 'almucantarlaw19.DipAngles'. -/
def dipAnglesUptoCard : Claim7 := { stood := { row := dipAnglesUptoRow, standIns := [], harness := (true, "ff42c3b29b378d0ec376062c6a92f60dcdebfc390aaba2744f6859890a2b4275"), looks := false }, kinds := [], alts := [], laidByText := true, laidKinds := [.data, .data, .data], laidTests := true, laidLooks := .later }
def DipAnglesUptoCardSaid : Prop := Claim7.holds Tryz.pinned (.plain (OpenSpec.upto dipAnglesSpec)) dipAnglesUptoCard
end Rows
end Go.Proofs.YtofnffcdbbiohaaGreatDoor
