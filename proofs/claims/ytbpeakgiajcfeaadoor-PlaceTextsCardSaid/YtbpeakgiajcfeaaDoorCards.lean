/-
  DERIVED. GIVEN WITH THE SEED: THE CARDS: each row of YtbpeakgiajcfeaaDoorRows.lean that lists a variable, with what it lists TIED to the program's text (the seventh form; the later family's looks); each row that meets fmt, with fmt's text TOLD by the authors' own Lean function (tested against real Go, not proved from fmt's source: count such statements apart). THE CARD IS WHAT COUNTS. Prove the row's statement (the work); the ties are given (YtbpeakgiajcfeaaDoorTie.lean); close each card by the builder's one call (the guide's Derived/Test/ToyasCard.lean, 'card_holds'). Laid BY PROGRAM, IN A SANDBOX (cutbox-door.mjs). By AI agents, Wed Nov 11 2026. No macro, syntax, notation, axiom, sorry.
-/
import Derived.Test.YtbpeakgiajcfeaaDoorRows
import GoSem.ClaimSeven
namespace Go.Proofs.YtbpeakgiajcfeaaDoor
namespace Rows

/-- THE TIED CARD OF 'almucantarlaw08.PlaceBack'. -/
def placeBackCard : Claim7 := { stood := { row := placeBackRow, standIns := [], harness := (true, "456c08558a869e2975137fa479be251f53375dad5b7ff7b7995850a625451285"), looks := false }, kinds := [], alts := [], laidByText := true, laidKinds := [.data, .data, .data], laidTests := true, laidLooks := .later }
def PlaceBackCardSaid : Prop := Claim7.holds Tryd.pinned (.plain (OpenSpec.ofChange placeBackSpec)) placeBackCard

/-- THE TIED CARD OF 'almucantarlaw08.PlaceTexts'. -/
def placeTextsCard : Claim7 := { stood := { row := placeTextsRow, standIns := [], harness := (true, "456c08558a869e2975137fa479be251f53375dad5b7ff7b7995850a625451285"), looks := false }, kinds := [], alts := [], laidByText := true, laidKinds := [.data, .data, .data], laidTests := true, laidLooks := .later }
def PlaceTextsCardSaid : Prop := Claim7.holds Tryd.pinned (.plain (OpenSpec.ofChange placeTextsSpec)) placeTextsCard

/-- THE SECOND FORM's CARD OF 'almucantarlaw08.PlaceBack'. -/
def placeBackUptoCard : Claim7 := { stood := { row := placeBackUptoRow, standIns := [], harness := (true, "456c08558a869e2975137fa479be251f53375dad5b7ff7b7995850a625451285"), looks := false }, kinds := [], alts := [], laidByText := true, laidKinds := [.data, .data, .data], laidTests := true, laidLooks := .later }
def PlaceBackUptoCardSaid : Prop := Claim7.holds Tryd.pinned (.plain (OpenSpec.upto placeBackSpec)) placeBackUptoCard

/-- THE SECOND FORM's CARD OF 'almucantarlaw08.PlaceTexts'. -/
def placeTextsUptoCard : Claim7 := { stood := { row := placeTextsUptoRow, standIns := [], harness := (true, "456c08558a869e2975137fa479be251f53375dad5b7ff7b7995850a625451285"), looks := false }, kinds := [], alts := [], laidByText := true, laidKinds := [.data, .data, .data], laidTests := true, laidLooks := .later }
def PlaceTextsUptoCardSaid : Prop := Claim7.holds Tryd.pinned (.plain (OpenSpec.upto placeTextsSpec)) placeTextsUptoCard
end Rows
end Go.Proofs.YtbpeakgiajcfeaaDoor
