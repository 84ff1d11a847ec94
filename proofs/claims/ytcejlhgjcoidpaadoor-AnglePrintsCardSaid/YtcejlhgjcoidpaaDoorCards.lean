/-
  DERIVED. GIVEN WITH THE SEED: THE CARDS: each row of YtcejlhgjcoidpaaDoorRows.lean that lists a variable, with what it lists TIED to the program's text (the seventh form; the later family's looks); each row that meets fmt, with fmt's text TOLD by the authors' own Lean function (tested against real Go, not proved from fmt's source: count such statements apart). THE CARD IS WHAT COUNTS. Prove the row's statement (the work); the ties are given (YtcejlhgjcoidpaaDoorTie.lean); close each card by the builder's one call (the guide's Derived/Test/ToyasCard.lean, 'card_holds'). Laid BY PROGRAM, IN A SANDBOX (cutbox-door.mjs). By AI agents, Wed Nov 11 2026. No macro, syntax, notation, axiom, sorry.
-/
import Derived.Test.YtcejlhgjcoidpaaDoorRows
import GoSem.ClaimSeven
namespace Go.Proofs.YtcejlhgjcoidpaaDoor
namespace Rows

/-- THE TIED CARD OF 'almucantarlaw05.AngleWraps'. -/
def angleWrapsCard : Claim7 := { stood := { row := angleWrapsRow, standIns := [], harness := (true, "8436489b384dc914ce6779e3b2995c4cf9e57c3d697f568dff9c063f397b2ad5"), looks := false }, kinds := [], alts := [], laidByText := true, laidKinds := [.data, .data, .data], laidTests := true, laidLooks := .later }
def AngleWrapsCardSaid : Prop := Claim7.holds Tryd.pinned (.plain (OpenSpec.ofChange angleWrapsSpec)) angleWrapsCard

/-- THE TIED CARD OF 'almucantarlaw05.AngleTurns'. -/
def angleTurnsCard : Claim7 := { stood := { row := angleTurnsRow, standIns := [], harness := (true, "8436489b384dc914ce6779e3b2995c4cf9e57c3d697f568dff9c063f397b2ad5"), looks := false }, kinds := [], alts := [], laidByText := true, laidKinds := [.data, .data, .data], laidTests := true, laidLooks := .later }
def AngleTurnsCardSaid : Prop := Claim7.holds Tryd.pinned (.plain (OpenSpec.ofChange angleTurnsSpec)) angleTurnsCard

/-- THE TIED CARD OF 'almucantarlaw05.AngleDirections'. -/
def angleDirectionsCard : Claim7 := { stood := { row := angleDirectionsRow, standIns := [], harness := (true, "8436489b384dc914ce6779e3b2995c4cf9e57c3d697f568dff9c063f397b2ad5"), looks := false }, kinds := [], alts := [], laidByText := true, laidKinds := [.data, .data, .data], laidTests := true, laidLooks := .later }
def AngleDirectionsCardSaid : Prop := Claim7.holds Tryd.pinned (.plain (OpenSpec.ofChange angleDirectionsSpec)) angleDirectionsCard

/-- THE TIED CARD OF 'almucantarlaw05.AngleSums'. -/
def angleSumsCard : Claim7 := { stood := { row := angleSumsRow, standIns := [], harness := (true, "8436489b384dc914ce6779e3b2995c4cf9e57c3d697f568dff9c063f397b2ad5"), looks := false }, kinds := [], alts := [], laidByText := true, laidKinds := [.data, .data, .data], laidTests := true, laidLooks := .later }
def AngleSumsCardSaid : Prop := Claim7.holds Tryd.pinned (.plain (OpenSpec.ofChange angleSumsSpec)) angleSumsCard

/-- THE TIED CARD OF 'almucantarlaw05.AngleMeets'. -/
def angleMeetsCard : Claim7 := { stood := { row := angleMeetsRow, standIns := [], harness := (true, "8436489b384dc914ce6779e3b2995c4cf9e57c3d697f568dff9c063f397b2ad5"), looks := false }, kinds := [], alts := [], laidByText := true, laidKinds := [.data, .data, .data], laidTests := true, laidLooks := .later }
def AngleMeetsCardSaid : Prop := Claim7.holds Tryd.pinned (.plain (OpenSpec.ofChange angleMeetsSpec)) angleMeetsCard

/-- THE TIED CARD OF 'almucantarlaw05.AngleUndoes'. -/
def angleUndoesCard : Claim7 := { stood := { row := angleUndoesRow, standIns := [], harness := (true, "8436489b384dc914ce6779e3b2995c4cf9e57c3d697f568dff9c063f397b2ad5"), looks := false }, kinds := [], alts := [], laidByText := true, laidKinds := [.data, .data, .data], laidTests := true, laidLooks := .later }
def AngleUndoesCardSaid : Prop := Claim7.holds Tryd.pinned (.plain (OpenSpec.ofChange angleUndoesSpec)) angleUndoesCard

/-- THE TIED CARD OF 'almucantarlaw05.AngleTexts'. -/
def angleTextsCard : Claim7 := { stood := { row := angleTextsRow, standIns := [], harness := (true, "8436489b384dc914ce6779e3b2995c4cf9e57c3d697f568dff9c063f397b2ad5"), looks := false }, kinds := [], alts := [], laidByText := true, laidKinds := [.data, .data, .data], laidTests := true, laidLooks := .later }
def AngleTextsCardSaid : Prop := Claim7.holds Tryd.pinned (.plain (OpenSpec.ofChange angleTextsSpec)) angleTextsCard

/-- THE TIED CARD OF 'almucantarlaw05.AnglePrints'. -/
def anglePrintsCard : Claim7 := { stood := { row := anglePrintsRow, standIns := [], harness := (true, "8436489b384dc914ce6779e3b2995c4cf9e57c3d697f568dff9c063f397b2ad5"), looks := false }, kinds := [], alts := [], laidByText := true, laidKinds := [.data, .data, .data, .data, .pinned], laidTests := true, laidLooks := .later }
def AnglePrintsCardSaid : Prop := Claim7.holds Tryd.pinned (.plain (OpenSpec.ofChange anglePrintsSpec)) anglePrintsCard

/-- THE SECOND FORM's CARD OF 'almucantarlaw05.AngleWraps'. -/
def angleWrapsUptoCard : Claim7 := { stood := { row := angleWrapsUptoRow, standIns := [], harness := (true, "8436489b384dc914ce6779e3b2995c4cf9e57c3d697f568dff9c063f397b2ad5"), looks := false }, kinds := [], alts := [], laidByText := true, laidKinds := [.data, .data, .data], laidTests := true, laidLooks := .later }
def AngleWrapsUptoCardSaid : Prop := Claim7.holds Tryd.pinned (.plain (OpenSpec.upto angleWrapsSpec)) angleWrapsUptoCard

/-- THE SECOND FORM's CARD OF 'almucantarlaw05.AngleTurns'. -/
def angleTurnsUptoCard : Claim7 := { stood := { row := angleTurnsUptoRow, standIns := [], harness := (true, "8436489b384dc914ce6779e3b2995c4cf9e57c3d697f568dff9c063f397b2ad5"), looks := false }, kinds := [], alts := [], laidByText := true, laidKinds := [.data, .data, .data], laidTests := true, laidLooks := .later }
def AngleTurnsUptoCardSaid : Prop := Claim7.holds Tryd.pinned (.plain (OpenSpec.upto angleTurnsSpec)) angleTurnsUptoCard

/-- THE SECOND FORM's CARD OF 'almucantarlaw05.AngleDirections'. -/
def angleDirectionsUptoCard : Claim7 := { stood := { row := angleDirectionsUptoRow, standIns := [], harness := (true, "8436489b384dc914ce6779e3b2995c4cf9e57c3d697f568dff9c063f397b2ad5"), looks := false }, kinds := [], alts := [], laidByText := true, laidKinds := [.data, .data, .data], laidTests := true, laidLooks := .later }
def AngleDirectionsUptoCardSaid : Prop := Claim7.holds Tryd.pinned (.plain (OpenSpec.upto angleDirectionsSpec)) angleDirectionsUptoCard

/-- THE SECOND FORM's CARD OF 'almucantarlaw05.AngleSums'. -/
def angleSumsUptoCard : Claim7 := { stood := { row := angleSumsUptoRow, standIns := [], harness := (true, "8436489b384dc914ce6779e3b2995c4cf9e57c3d697f568dff9c063f397b2ad5"), looks := false }, kinds := [], alts := [], laidByText := true, laidKinds := [.data, .data, .data], laidTests := true, laidLooks := .later }
def AngleSumsUptoCardSaid : Prop := Claim7.holds Tryd.pinned (.plain (OpenSpec.upto angleSumsSpec)) angleSumsUptoCard

/-- THE SECOND FORM's CARD OF 'almucantarlaw05.AngleMeets'. -/
def angleMeetsUptoCard : Claim7 := { stood := { row := angleMeetsUptoRow, standIns := [], harness := (true, "8436489b384dc914ce6779e3b2995c4cf9e57c3d697f568dff9c063f397b2ad5"), looks := false }, kinds := [], alts := [], laidByText := true, laidKinds := [.data, .data, .data], laidTests := true, laidLooks := .later }
def AngleMeetsUptoCardSaid : Prop := Claim7.holds Tryd.pinned (.plain (OpenSpec.upto angleMeetsSpec)) angleMeetsUptoCard

/-- THE SECOND FORM's CARD OF 'almucantarlaw05.AngleUndoes'. -/
def angleUndoesUptoCard : Claim7 := { stood := { row := angleUndoesUptoRow, standIns := [], harness := (true, "8436489b384dc914ce6779e3b2995c4cf9e57c3d697f568dff9c063f397b2ad5"), looks := false }, kinds := [], alts := [], laidByText := true, laidKinds := [.data, .data, .data], laidTests := true, laidLooks := .later }
def AngleUndoesUptoCardSaid : Prop := Claim7.holds Tryd.pinned (.plain (OpenSpec.upto angleUndoesSpec)) angleUndoesUptoCard

/-- THE SECOND FORM's CARD OF 'almucantarlaw05.AngleTexts'. -/
def angleTextsUptoCard : Claim7 := { stood := { row := angleTextsUptoRow, standIns := [], harness := (true, "8436489b384dc914ce6779e3b2995c4cf9e57c3d697f568dff9c063f397b2ad5"), looks := false }, kinds := [], alts := [], laidByText := true, laidKinds := [.data, .data, .data], laidTests := true, laidLooks := .later }
def AngleTextsUptoCardSaid : Prop := Claim7.holds Tryd.pinned (.plain (OpenSpec.upto angleTextsSpec)) angleTextsUptoCard

/-- THE SECOND FORM's CARD OF 'almucantarlaw05.AnglePrints'. -/
def anglePrintsUptoCard : Claim7 := { stood := { row := anglePrintsUptoRow, standIns := [], harness := (true, "8436489b384dc914ce6779e3b2995c4cf9e57c3d697f568dff9c063f397b2ad5"), looks := false }, kinds := [], alts := [], laidByText := true, laidKinds := [.data, .data, .data, .data, .pinned], laidTests := true, laidLooks := .later }
def AnglePrintsUptoCardSaid : Prop := Claim7.holds Tryd.pinned (.plain (OpenSpec.upto anglePrintsSpec)) anglePrintsUptoCard
end Rows
end Go.Proofs.YtcejlhgjcoidpaaDoor
