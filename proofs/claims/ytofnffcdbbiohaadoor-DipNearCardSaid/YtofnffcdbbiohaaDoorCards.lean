/-
  DERIVED. GIVEN WITH THE SEED: THE CARDS: each row of YtofnffcdbbiohaaDoorRows.lean that lists a variable, with what it lists TIED to the program's text (the seventh form; the later family's looks); each row that meets fmt, with fmt's text TOLD by the authors' own Lean function (tested against real Go, not proved from fmt's source: count such statements apart). THE CARD IS WHAT COUNTS. Prove the row's statement (the work); the ties are given (YtofnffcdbbiohaaDoorTie.lean); close each card by the builder's one call (the guide's Derived/Test/ToyasCard.lean, 'card_holds'). Laid BY PROGRAM, IN A SANDBOX (cutbox-door.mjs). By AI agents, Wed Nov 11 2026. No macro, syntax, notation, axiom, sorry.
-/
import Derived.Test.YtofnffcdbbiohaaDoorRows
import GoSem.ClaimSeven
namespace Go.Proofs.YtofnffcdbbiohaaDoor
namespace Rows

/-- THE TIED CARD OF 'almucantarlaw19.DipNear'. -/
def dipNearCard : Claim7 := { stood := { row := dipNearRow, standIns := [], harness := (true, "cf62fff1313bdcb5a53f72a1b0282f0519dffea455ca9aa097d04bfb44bfa7d1"), looks := false }, kinds := [], alts := [], laidByText := true, laidKinds := [.data, .data, .data], laidTests := true, laidLooks := .later }
def DipNearCardSaid : Prop := Claim7.holds Tryd.pinned (.plain (OpenSpec.ofChange dipNearSpec)) dipNearCard

/-- THE SECOND FORM's CARD OF 'almucantarlaw19.DipNear'. -/
def dipNearUptoCard : Claim7 := { stood := { row := dipNearUptoRow, standIns := [], harness := (true, "cf62fff1313bdcb5a53f72a1b0282f0519dffea455ca9aa097d04bfb44bfa7d1"), looks := false }, kinds := [], alts := [], laidByText := true, laidKinds := [.data, .data, .data], laidTests := true, laidLooks := .later }
def DipNearUptoCardSaid : Prop := Claim7.holds Tryd.pinned (.plain (OpenSpec.upto dipNearSpec)) dipNearUptoCard
end Rows
end Go.Proofs.YtofnffcdbbiohaaDoor
