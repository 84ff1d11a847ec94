/-
  DERIVED. GIVEN WITH THE SEED: THE CARDS: each row of YtfcdcegamcjaiaaDoorRows.lean that lists a variable, with what it lists TIED to the program's text (the seventh form; the later family's looks); each row that meets fmt, with fmt's text TOLD by the authors' own Lean function (tested against real Go, not proved from fmt's source: count such statements apart). THE CARD IS WHAT COUNTS. Prove the row's statement (the work); the ties are given (YtfcdcegamcjaiaaDoorTie.lean); close each card by the builder's one call (the guide's Derived/Test/ToyasCard.lean, 'card_holds'). Laid BY PROGRAM, IN A SANDBOX (cutbox-door.mjs). By AI agents, Wed Nov 11 2026. No macro, syntax, notation, axiom, sorry.
-/
import Derived.Test.YtfcdcegamcjaiaaDoorRows
import GoSem.ClaimSeven
namespace Go.Proofs.YtfcdcegamcjaiaaDoor
namespace Rows

/-- THE TIED CARD OF 'almucantarlaw19.DipDips'. -/
def dipDipsCard : Claim7 := { stood := { row := dipDipsRow, standIns := [], harness := (true, "0b7bbcacdcd5cea210e63f997cfa2eb3940e21f9766652d667d78328125d8fe2"), looks := false }, kinds := [], alts := [], laidByText := true, laidKinds := [.data, .data, .data], laidTests := true, laidLooks := .later }
def DipDipsCardSaid : Prop := Claim7.holds Tryd.pinned (.plain (OpenSpec.ofChange dipDipsSpec)) dipDipsCard

/-- THE TIED CARD OF 'almucantarlaw19.DipTables'. -/
def dipTablesCard : Claim7 := { stood := { row := dipTablesRow, standIns := [], harness := (true, "0b7bbcacdcd5cea210e63f997cfa2eb3940e21f9766652d667d78328125d8fe2"), looks := false }, kinds := [], alts := [], laidByText := true, laidKinds := [.data, .data, .data], laidTests := true, laidLooks := .later }
def DipTablesCardSaid : Prop := Claim7.holds Tryd.pinned (.plain (OpenSpec.ofChange dipTablesSpec)) dipTablesCard

/-- THE TIED CARD OF 'almucantarlaw19.DipShort'. -/
def dipShortCard : Claim7 := { stood := { row := dipShortRow, standIns := [], harness := (true, "0b7bbcacdcd5cea210e63f997cfa2eb3940e21f9766652d667d78328125d8fe2"), looks := false }, kinds := [], alts := [], laidByText := true, laidKinds := [.data, .data, .data], laidTests := true, laidLooks := .later }
def DipShortCardSaid : Prop := Claim7.holds Tryd.pinned (.plain (OpenSpec.ofChange dipShortSpec)) dipShortCard

/-- THE TIED CARD OF 'almucantarlaw19.DipLines'. -/
def dipLinesCard : Claim7 := { stood := { row := dipLinesRow, standIns := [], harness := (true, "0b7bbcacdcd5cea210e63f997cfa2eb3940e21f9766652d667d78328125d8fe2"), looks := false }, kinds := [], alts := [], laidByText := true, laidKinds := [.data, .data, .data], laidTests := true, laidLooks := .later }
def DipLinesCardSaid : Prop := Claim7.holds Tryd.pinned (.plain (OpenSpec.ofChange dipLinesSpec)) dipLinesCard

/-- THE TIED CARD OF 'almucantarlaw19.DipDistances'. -/
def dipDistancesCard : Claim7 := { stood := { row := dipDistancesRow, standIns := [], harness := (true, "0b7bbcacdcd5cea210e63f997cfa2eb3940e21f9766652d667d78328125d8fe2"), looks := false }, kinds := [], alts := [], laidByText := true, laidKinds := [.data, .data, .data], laidTests := true, laidLooks := .later }
def DipDistancesCardSaid : Prop := Claim7.holds Tryd.pinned (.plain (OpenSpec.ofChange dipDistancesSpec)) dipDistancesCard

/-- THE TIED CARD OF 'almucantarlaw19.DipRoots'. -/
def dipRootsCard : Claim7 := { stood := { row := dipRootsRow, standIns := [], harness := (true, "0b7bbcacdcd5cea210e63f997cfa2eb3940e21f9766652d667d78328125d8fe2"), looks := false }, kinds := [], alts := [], laidByText := true, laidKinds := [.data, .data, .data], laidTests := true, laidLooks := .later }
def DipRootsCardSaid : Prop := Claim7.holds Tryd.pinned (.plain (OpenSpec.ofChange dipRootsSpec)) dipRootsCard

/-- THE SECOND FORM's CARD OF 'almucantarlaw19.DipDips'. -/
def dipDipsUptoCard : Claim7 := { stood := { row := dipDipsUptoRow, standIns := [], harness := (true, "0b7bbcacdcd5cea210e63f997cfa2eb3940e21f9766652d667d78328125d8fe2"), looks := false }, kinds := [], alts := [], laidByText := true, laidKinds := [.data, .data, .data], laidTests := true, laidLooks := .later }
def DipDipsUptoCardSaid : Prop := Claim7.holds Tryd.pinned (.plain (OpenSpec.upto dipDipsSpec)) dipDipsUptoCard

/-- THE SECOND FORM's CARD OF 'almucantarlaw19.DipTables'. -/
def dipTablesUptoCard : Claim7 := { stood := { row := dipTablesUptoRow, standIns := [], harness := (true, "0b7bbcacdcd5cea210e63f997cfa2eb3940e21f9766652d667d78328125d8fe2"), looks := false }, kinds := [], alts := [], laidByText := true, laidKinds := [.data, .data, .data], laidTests := true, laidLooks := .later }
def DipTablesUptoCardSaid : Prop := Claim7.holds Tryd.pinned (.plain (OpenSpec.upto dipTablesSpec)) dipTablesUptoCard

/-- THE SECOND FORM's CARD OF 'almucantarlaw19.DipShort'. -/
def dipShortUptoCard : Claim7 := { stood := { row := dipShortUptoRow, standIns := [], harness := (true, "0b7bbcacdcd5cea210e63f997cfa2eb3940e21f9766652d667d78328125d8fe2"), looks := false }, kinds := [], alts := [], laidByText := true, laidKinds := [.data, .data, .data], laidTests := true, laidLooks := .later }
def DipShortUptoCardSaid : Prop := Claim7.holds Tryd.pinned (.plain (OpenSpec.upto dipShortSpec)) dipShortUptoCard

/-- THE SECOND FORM's CARD OF 'almucantarlaw19.DipLines'. -/
def dipLinesUptoCard : Claim7 := { stood := { row := dipLinesUptoRow, standIns := [], harness := (true, "0b7bbcacdcd5cea210e63f997cfa2eb3940e21f9766652d667d78328125d8fe2"), looks := false }, kinds := [], alts := [], laidByText := true, laidKinds := [.data, .data, .data], laidTests := true, laidLooks := .later }
def DipLinesUptoCardSaid : Prop := Claim7.holds Tryd.pinned (.plain (OpenSpec.upto dipLinesSpec)) dipLinesUptoCard

/-- THE SECOND FORM's CARD OF 'almucantarlaw19.DipDistances'. -/
def dipDistancesUptoCard : Claim7 := { stood := { row := dipDistancesUptoRow, standIns := [], harness := (true, "0b7bbcacdcd5cea210e63f997cfa2eb3940e21f9766652d667d78328125d8fe2"), looks := false }, kinds := [], alts := [], laidByText := true, laidKinds := [.data, .data, .data], laidTests := true, laidLooks := .later }
def DipDistancesUptoCardSaid : Prop := Claim7.holds Tryd.pinned (.plain (OpenSpec.upto dipDistancesSpec)) dipDistancesUptoCard

/-- THE SECOND FORM's CARD OF 'almucantarlaw19.DipRoots'. -/
def dipRootsUptoCard : Claim7 := { stood := { row := dipRootsUptoRow, standIns := [], harness := (true, "0b7bbcacdcd5cea210e63f997cfa2eb3940e21f9766652d667d78328125d8fe2"), looks := false }, kinds := [], alts := [], laidByText := true, laidKinds := [.data, .data, .data], laidTests := true, laidLooks := .later }
def DipRootsUptoCardSaid : Prop := Claim7.holds Tryd.pinned (.plain (OpenSpec.upto dipRootsSpec)) dipRootsUptoCard
end Rows
end Go.Proofs.YtfcdcegamcjaiaaDoor
