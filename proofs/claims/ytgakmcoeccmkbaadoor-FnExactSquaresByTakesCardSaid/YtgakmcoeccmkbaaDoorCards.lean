/-
  DERIVED. GIVEN WITH THE SEED: THE CARDS: each row of YtgakmcoeccmkbaaDoorRows.lean that lists a variable, with what it lists TIED to the program's text (the seventh form; the later family's looks); each row that meets fmt, with fmt's text TOLD by the authors' own Lean function (tested against real Go, not proved from fmt's source: count such statements apart). THE CARD IS WHAT COUNTS. Prove the row's statement (the work); the ties are given (YtgakmcoeccmkbaaDoorTie.lean); close each card by the builder's one call (the guide's Derived/Test/ToyasCard.lean, 'card_holds'). Laid BY PROGRAM, IN A SANDBOX (cutbox-door.mjs). By AI agents, Wed Nov 11 2026. No macro, syntax, notation, axiom, sorry.
-/
import Derived.Test.YtgakmcoeccmkbaaDoorRows
import GoSem.ClaimSeven
namespace Go.Proofs.YtgakmcoeccmkbaaDoor
namespace Rows

/-- THE TIED CARD OF 'laws.FnExactCountMoves'. -/
def fnExactCountMovesCard : Claim7 := { stood := { row := fnExactCountMovesRow, standIns := [], harness := (true, "84dbcbb6d9f469cebc263a6c6d20e1bf822bb068502ed41622d5dfe969e5e19b"), looks := false }, kinds := [], alts := [], laidByText := true, laidKinds := [.data], laidTests := true, laidLooks := .later }
def FnExactCountMovesCardSaid : Prop := Claim7.holds Tryd.pinned (.plain (OpenSpec.ofChange fnExactCountMovesSpec)) fnExactCountMovesCard

/-- THE TIED CARD OF 'laws.FnExactCountTakes'. -/
def fnExactCountTakesCard : Claim7 := { stood := { row := fnExactCountTakesRow, standIns := [], harness := (true, "84dbcbb6d9f469cebc263a6c6d20e1bf822bb068502ed41622d5dfe969e5e19b"), looks := false }, kinds := [], alts := [], laidByText := true, laidKinds := [.data], laidTests := true, laidLooks := .later }
def FnExactCountTakesCardSaid : Prop := Claim7.holds Tryd.pinned (.plain (OpenSpec.ofChange fnExactCountTakesSpec)) fnExactCountTakesCard

/-- THE TIED CARD OF 'laws.FnExactCountTidyMoves'. -/
def fnExactCountTidyMovesCard : Claim7 := { stood := { row := fnExactCountTidyMovesRow, standIns := [], harness := (true, "84dbcbb6d9f469cebc263a6c6d20e1bf822bb068502ed41622d5dfe969e5e19b"), looks := false }, kinds := [], alts := [], laidByText := true, laidKinds := [.data], laidTests := true, laidLooks := .later }
def FnExactCountTidyMovesCardSaid : Prop := Claim7.holds Tryd.pinned (.plain (OpenSpec.ofChange fnExactCountTidyMovesSpec)) fnExactCountTidyMovesCard

/-- THE TIED CARD OF 'laws.FnExactCountTidyTakes'. -/
def fnExactCountTidyTakesCard : Claim7 := { stood := { row := fnExactCountTidyTakesRow, standIns := [], harness := (true, "84dbcbb6d9f469cebc263a6c6d20e1bf822bb068502ed41622d5dfe969e5e19b"), looks := false }, kinds := [], alts := [], laidByText := true, laidKinds := [.data], laidTests := true, laidLooks := .later }
def FnExactCountTidyTakesCardSaid : Prop := Claim7.holds Tryd.pinned (.plain (OpenSpec.ofChange fnExactCountTidyTakesSpec)) fnExactCountTidyTakesCard

/-- THE TIED CARD OF 'laws.FnExactFewestMoves'. -/
def fnExactFewestMovesCard : Claim7 := { stood := { row := fnExactFewestMovesRow, standIns := [], harness := (true, "84dbcbb6d9f469cebc263a6c6d20e1bf822bb068502ed41622d5dfe969e5e19b"), looks := false }, kinds := [], alts := [], laidByText := true, laidKinds := [.data], laidTests := true, laidLooks := .later }
def FnExactFewestMovesCardSaid : Prop := Claim7.holds Tryd.pinned (.plain (OpenSpec.ofChange fnExactFewestMovesSpec)) fnExactFewestMovesCard

/-- THE TIED CARD OF 'laws.FnExactFewestTakes'. -/
def fnExactFewestTakesCard : Claim7 := { stood := { row := fnExactFewestTakesRow, standIns := [], harness := (true, "84dbcbb6d9f469cebc263a6c6d20e1bf822bb068502ed41622d5dfe969e5e19b"), looks := false }, kinds := [], alts := [], laidByText := true, laidKinds := [.data], laidTests := true, laidLooks := .later }
def FnExactFewestTakesCardSaid : Prop := Claim7.holds Tryd.pinned (.plain (OpenSpec.ofChange fnExactFewestTakesSpec)) fnExactFewestTakesCard

/-- THE TIED CARD OF 'laws.FnExactSquaresByMoves'. -/
def fnExactSquaresByMovesCard : Claim7 := { stood := { row := fnExactSquaresByMovesRow, standIns := [], harness := (true, "84dbcbb6d9f469cebc263a6c6d20e1bf822bb068502ed41622d5dfe969e5e19b"), looks := false }, kinds := [], alts := [], laidByText := true, laidKinds := [.data], laidTests := true, laidLooks := .later }
def FnExactSquaresByMovesCardSaid : Prop := Claim7.holds Tryd.pinned (.plain (OpenSpec.ofChange fnExactSquaresByMovesSpec)) fnExactSquaresByMovesCard

/-- THE TIED CARD OF 'laws.FnExactSquaresByTakes'. -/
def fnExactSquaresByTakesCard : Claim7 := { stood := { row := fnExactSquaresByTakesRow, standIns := [], harness := (true, "84dbcbb6d9f469cebc263a6c6d20e1bf822bb068502ed41622d5dfe969e5e19b"), looks := false }, kinds := [], alts := [], laidByText := true, laidKinds := [.data], laidTests := true, laidLooks := .later }
def FnExactSquaresByTakesCardSaid : Prop := Claim7.holds Tryd.pinned (.plain (OpenSpec.ofChange fnExactSquaresByTakesSpec)) fnExactSquaresByTakesCard

/-- THE SECOND FORM's CARD OF 'laws.FnExactCountMoves'. -/
def fnExactCountMovesUptoCard : Claim7 := { stood := { row := fnExactCountMovesUptoRow, standIns := [], harness := (true, "84dbcbb6d9f469cebc263a6c6d20e1bf822bb068502ed41622d5dfe969e5e19b"), looks := false }, kinds := [], alts := [], laidByText := true, laidKinds := [.data], laidTests := true, laidLooks := .later }
def FnExactCountMovesUptoCardSaid : Prop := Claim7.holds Tryd.pinned (.plain (OpenSpec.upto fnExactCountMovesSpec)) fnExactCountMovesUptoCard

/-- THE SECOND FORM's CARD OF 'laws.FnExactCountTakes'. -/
def fnExactCountTakesUptoCard : Claim7 := { stood := { row := fnExactCountTakesUptoRow, standIns := [], harness := (true, "84dbcbb6d9f469cebc263a6c6d20e1bf822bb068502ed41622d5dfe969e5e19b"), looks := false }, kinds := [], alts := [], laidByText := true, laidKinds := [.data], laidTests := true, laidLooks := .later }
def FnExactCountTakesUptoCardSaid : Prop := Claim7.holds Tryd.pinned (.plain (OpenSpec.upto fnExactCountTakesSpec)) fnExactCountTakesUptoCard

/-- THE SECOND FORM's CARD OF 'laws.FnExactCountTidyMoves'. -/
def fnExactCountTidyMovesUptoCard : Claim7 := { stood := { row := fnExactCountTidyMovesUptoRow, standIns := [], harness := (true, "84dbcbb6d9f469cebc263a6c6d20e1bf822bb068502ed41622d5dfe969e5e19b"), looks := false }, kinds := [], alts := [], laidByText := true, laidKinds := [.data], laidTests := true, laidLooks := .later }
def FnExactCountTidyMovesUptoCardSaid : Prop := Claim7.holds Tryd.pinned (.plain (OpenSpec.upto fnExactCountTidyMovesSpec)) fnExactCountTidyMovesUptoCard

/-- THE SECOND FORM's CARD OF 'laws.FnExactCountTidyTakes'. -/
def fnExactCountTidyTakesUptoCard : Claim7 := { stood := { row := fnExactCountTidyTakesUptoRow, standIns := [], harness := (true, "84dbcbb6d9f469cebc263a6c6d20e1bf822bb068502ed41622d5dfe969e5e19b"), looks := false }, kinds := [], alts := [], laidByText := true, laidKinds := [.data], laidTests := true, laidLooks := .later }
def FnExactCountTidyTakesUptoCardSaid : Prop := Claim7.holds Tryd.pinned (.plain (OpenSpec.upto fnExactCountTidyTakesSpec)) fnExactCountTidyTakesUptoCard

/-- THE SECOND FORM's CARD OF 'laws.FnExactFewestMoves'. -/
def fnExactFewestMovesUptoCard : Claim7 := { stood := { row := fnExactFewestMovesUptoRow, standIns := [], harness := (true, "84dbcbb6d9f469cebc263a6c6d20e1bf822bb068502ed41622d5dfe969e5e19b"), looks := false }, kinds := [], alts := [], laidByText := true, laidKinds := [.data], laidTests := true, laidLooks := .later }
def FnExactFewestMovesUptoCardSaid : Prop := Claim7.holds Tryd.pinned (.plain (OpenSpec.upto fnExactFewestMovesSpec)) fnExactFewestMovesUptoCard

/-- THE SECOND FORM's CARD OF 'laws.FnExactFewestTakes'. -/
def fnExactFewestTakesUptoCard : Claim7 := { stood := { row := fnExactFewestTakesUptoRow, standIns := [], harness := (true, "84dbcbb6d9f469cebc263a6c6d20e1bf822bb068502ed41622d5dfe969e5e19b"), looks := false }, kinds := [], alts := [], laidByText := true, laidKinds := [.data], laidTests := true, laidLooks := .later }
def FnExactFewestTakesUptoCardSaid : Prop := Claim7.holds Tryd.pinned (.plain (OpenSpec.upto fnExactFewestTakesSpec)) fnExactFewestTakesUptoCard

/-- THE SECOND FORM's CARD OF 'laws.FnExactSquaresByMoves'. -/
def fnExactSquaresByMovesUptoCard : Claim7 := { stood := { row := fnExactSquaresByMovesUptoRow, standIns := [], harness := (true, "84dbcbb6d9f469cebc263a6c6d20e1bf822bb068502ed41622d5dfe969e5e19b"), looks := false }, kinds := [], alts := [], laidByText := true, laidKinds := [.data], laidTests := true, laidLooks := .later }
def FnExactSquaresByMovesUptoCardSaid : Prop := Claim7.holds Tryd.pinned (.plain (OpenSpec.upto fnExactSquaresByMovesSpec)) fnExactSquaresByMovesUptoCard

/-- THE SECOND FORM's CARD OF 'laws.FnExactSquaresByTakes'. -/
def fnExactSquaresByTakesUptoCard : Claim7 := { stood := { row := fnExactSquaresByTakesUptoRow, standIns := [], harness := (true, "84dbcbb6d9f469cebc263a6c6d20e1bf822bb068502ed41622d5dfe969e5e19b"), looks := false }, kinds := [], alts := [], laidByText := true, laidKinds := [.data], laidTests := true, laidLooks := .later }
def FnExactSquaresByTakesUptoCardSaid : Prop := Claim7.holds Tryd.pinned (.plain (OpenSpec.upto fnExactSquaresByTakesSpec)) fnExactSquaresByTakesUptoCard
end Rows
end Go.Proofs.YtgakmcoeccmkbaaDoor
