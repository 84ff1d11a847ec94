/-
  DERIVED. GIVEN WITH THE SEED: THE CARDS: each row of YtkcelhhhbbpbpaaDoorRows.lean that lists a variable, with what it lists TIED to the program's text (the seventh form; the later family's looks); each row that meets fmt, with fmt's text TOLD by the authors' own Lean function (tested against real Go, not proved from fmt's source: count such statements apart). THE CARD IS WHAT COUNTS. Prove the row's statement (the work); the ties are given (YtkcelhhhbbpbpaaDoorTie.lean); close each card by the builder's one call (the guide's Derived/Test/ToyasCard.lean, 'card_holds'). Laid BY PROGRAM, IN A SANDBOX (cutbox-door.mjs). By AI agents, Wed Nov 11 2026. No macro, syntax, notation, axiom, sorry.
-/
import Derived.Test.YtkcelhhhbbpbpaaDoorRows
import GoSem.ClaimSeven
namespace Go.Proofs.YtkcelhhhbbpbpaaDoor
namespace Rows

/-- THE TIED CARD OF 'almucantarlaw18.InstrumentTexts'. -/
def instrumentTextsCard : Claim7 := { stood := { row := instrumentTextsRow, standIns := [], harness := (true, "8974c5b1f455faf6a96778f78131d541a2b0f34e495bc9395965e520a81b7cf4"), looks := false }, kinds := [], alts := [], laidByText := true, laidKinds := [.data, .data, .data, .data, .pinned], laidTests := true, laidLooks := .later }
def InstrumentTextsCardSaid : Prop := Claim7.holds Tryd.pinned (.plain (OpenSpec.ofChange instrumentTextsSpec)) instrumentTextsCard

/-- THE TIED CARD OF 'almucantarlaw18.InstrumentBack'. -/
def instrumentBackCard : Claim7 := { stood := { row := instrumentBackRow, standIns := [], harness := (true, "8974c5b1f455faf6a96778f78131d541a2b0f34e495bc9395965e520a81b7cf4"), looks := false }, kinds := [], alts := [], laidByText := true, laidKinds := [.data, .data, .data, .data, .pinned], laidTests := true, laidLooks := .later }
def InstrumentBackCardSaid : Prop := Claim7.holds Tryd.pinned (.plain (OpenSpec.ofChange instrumentBackSpec)) instrumentBackCard

/-- THE SECOND FORM's CARD OF 'almucantarlaw18.InstrumentTexts'. -/
def instrumentTextsUptoCard : Claim7 := { stood := { row := instrumentTextsUptoRow, standIns := [], harness := (true, "8974c5b1f455faf6a96778f78131d541a2b0f34e495bc9395965e520a81b7cf4"), looks := false }, kinds := [], alts := [], laidByText := true, laidKinds := [.data, .data, .data, .data, .pinned], laidTests := true, laidLooks := .later }
def InstrumentTextsUptoCardSaid : Prop := Claim7.holds Tryd.pinned (.plain (OpenSpec.upto instrumentTextsSpec)) instrumentTextsUptoCard

/-- THE SECOND FORM's CARD OF 'almucantarlaw18.InstrumentBack'. -/
def instrumentBackUptoCard : Claim7 := { stood := { row := instrumentBackUptoRow, standIns := [], harness := (true, "8974c5b1f455faf6a96778f78131d541a2b0f34e495bc9395965e520a81b7cf4"), looks := false }, kinds := [], alts := [], laidByText := true, laidKinds := [.data, .data, .data, .data, .pinned], laidTests := true, laidLooks := .later }
def InstrumentBackUptoCardSaid : Prop := Claim7.holds Tryd.pinned (.plain (OpenSpec.upto instrumentBackSpec)) instrumentBackUptoCard
end Rows
end Go.Proofs.YtkcelhhhbbpbpaaDoor
