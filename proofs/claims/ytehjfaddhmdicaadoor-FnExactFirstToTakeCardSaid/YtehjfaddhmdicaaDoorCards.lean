/-
  DERIVED. GIVEN WITH THE SEED: THE CARDS: each row of YtehjfaddhmdicaaDoorRows.lean that lists a variable, with what it lists TIED to the program's text (the seventh form; the later family's looks); each row that meets fmt, with fmt's text TOLD by the authors' own Lean function (tested against real Go, not proved from fmt's source: count such statements apart). THE CARD IS WHAT COUNTS. Prove the row's statement (the work); the ties are given (YtehjfaddhmdicaaDoorTie.lean); close each card by the builder's one call (the guide's Derived/Test/ToyasCard.lean, 'card_holds'). Laid BY PROGRAM, IN A SANDBOX (cutbox-door.mjs). By AI agents, Wed Nov 11 2026. No macro, syntax, notation, axiom, sorry.
-/
import Derived.Test.YtehjfaddhmdicaaDoorRows
import GoSem.ClaimSeven
namespace Go.Proofs.YtehjfaddhmdicaaDoor
namespace Rows

/-- THE TIED CARD OF 'laws.FnExactFewestTriTakes'. -/
def fnExactFewestTriTakesCard : Claim7 := { stood := { row := fnExactFewestTriTakesRow, standIns := [], harness := (true, "51a81812d70b6a8fa3f4660c1a3f95587944b71932d92a023d035a6397cb1daa"), looks := false }, kinds := [], alts := [], laidByText := true, laidKinds := [.data], laidTests := true, laidLooks := .later }
def FnExactFewestTriTakesCardSaid : Prop := Claim7.holds Tryd.pinned (.plain (OpenSpec.ofChange fnExactFewestTriTakesSpec)) fnExactFewestTriTakesCard

/-- THE TIED CARD OF 'laws.FnExactCountToTake'. -/
def fnExactCountToTakeCard : Claim7 := { stood := { row := fnExactCountToTakeRow, standIns := [], harness := (true, "51a81812d70b6a8fa3f4660c1a3f95587944b71932d92a023d035a6397cb1daa"), looks := false }, kinds := [], alts := [], laidByText := true, laidKinds := [.data], laidTests := true, laidLooks := .later }
def FnExactCountToTakeCardSaid : Prop := Claim7.holds Tryd.pinned (.plain (OpenSpec.ofChange fnExactCountToTakeSpec)) fnExactCountToTakeCard

/-- THE TIED CARD OF 'laws.FnExactFewestToTake'. -/
def fnExactFewestToTakeCard : Claim7 := { stood := { row := fnExactFewestToTakeRow, standIns := [], harness := (true, "51a81812d70b6a8fa3f4660c1a3f95587944b71932d92a023d035a6397cb1daa"), looks := false }, kinds := [], alts := [], laidByText := true, laidKinds := [.data], laidTests := true, laidLooks := .later }
def FnExactFewestToTakeCardSaid : Prop := Claim7.holds Tryd.pinned (.plain (OpenSpec.ofChange fnExactFewestToTakeSpec)) fnExactFewestToTakeCard

/-- THE TIED CARD OF 'laws.FnExactParseFigure'. -/
def fnExactParseFigureCard : Claim7 := { stood := { row := fnExactParseFigureRow, standIns := [], harness := (true, "51a81812d70b6a8fa3f4660c1a3f95587944b71932d92a023d035a6397cb1daa"), looks := false }, kinds := [], alts := [], laidByText := true, laidKinds := [.data, .data, .pinned], laidTests := true, laidLooks := .later }
def FnExactParseFigureCardSaid : Prop := Claim7.holds Tryd.pinned (.plain (OpenSpec.ofChange fnExactParseFigureSpec)) fnExactParseFigureCard

/-- THE TIED CARD OF 'laws.FnExactFigureOfLoop'. -/
def fnExactFigureOfLoopCard : Claim7 := { stood := { row := fnExactFigureOfLoopRow, standIns := [], harness := (true, "51a81812d70b6a8fa3f4660c1a3f95587944b71932d92a023d035a6397cb1daa"), looks := false }, kinds := [], alts := [], laidByText := true, laidKinds := [.data, .data, .pinned], laidTests := true, laidLooks := .later }
def FnExactFigureOfLoopCardSaid : Prop := Claim7.holds Tryd.pinned (.plain (OpenSpec.ofChange fnExactFigureOfLoopSpec)) fnExactFigureOfLoopCard

/-- THE TIED CARD OF 'laws.FnExactFirstToTake'. -/
def fnExactFirstToTakeCard : Claim7 := { stood := { row := fnExactFirstToTakeRow, standIns := [], harness := (true, "51a81812d70b6a8fa3f4660c1a3f95587944b71932d92a023d035a6397cb1daa"), looks := false }, kinds := [], alts := [], laidByText := true, laidKinds := [.data], laidTests := true, laidLooks := .later }
def FnExactFirstToTakeCardSaid : Prop := Claim7.holds Tryd.pinned (.plain (OpenSpec.ofChange fnExactFirstToTakeSpec)) fnExactFirstToTakeCard

/-- THE SECOND FORM's CARD OF 'laws.FnExactFewestTriTakes'. -/
def fnExactFewestTriTakesUptoCard : Claim7 := { stood := { row := fnExactFewestTriTakesUptoRow, standIns := [], harness := (true, "51a81812d70b6a8fa3f4660c1a3f95587944b71932d92a023d035a6397cb1daa"), looks := false }, kinds := [], alts := [], laidByText := true, laidKinds := [.data], laidTests := true, laidLooks := .later }
def FnExactFewestTriTakesUptoCardSaid : Prop := Claim7.holds Tryd.pinned (.plain (OpenSpec.upto fnExactFewestTriTakesSpec)) fnExactFewestTriTakesUptoCard

/-- THE SECOND FORM's CARD OF 'laws.FnExactCountToTake'. -/
def fnExactCountToTakeUptoCard : Claim7 := { stood := { row := fnExactCountToTakeUptoRow, standIns := [], harness := (true, "51a81812d70b6a8fa3f4660c1a3f95587944b71932d92a023d035a6397cb1daa"), looks := false }, kinds := [], alts := [], laidByText := true, laidKinds := [.data], laidTests := true, laidLooks := .later }
def FnExactCountToTakeUptoCardSaid : Prop := Claim7.holds Tryd.pinned (.plain (OpenSpec.upto fnExactCountToTakeSpec)) fnExactCountToTakeUptoCard

/-- THE SECOND FORM's CARD OF 'laws.FnExactFewestToTake'. -/
def fnExactFewestToTakeUptoCard : Claim7 := { stood := { row := fnExactFewestToTakeUptoRow, standIns := [], harness := (true, "51a81812d70b6a8fa3f4660c1a3f95587944b71932d92a023d035a6397cb1daa"), looks := false }, kinds := [], alts := [], laidByText := true, laidKinds := [.data], laidTests := true, laidLooks := .later }
def FnExactFewestToTakeUptoCardSaid : Prop := Claim7.holds Tryd.pinned (.plain (OpenSpec.upto fnExactFewestToTakeSpec)) fnExactFewestToTakeUptoCard

/-- THE SECOND FORM's CARD OF 'laws.FnExactParseFigure'. -/
def fnExactParseFigureUptoCard : Claim7 := { stood := { row := fnExactParseFigureUptoRow, standIns := [], harness := (true, "51a81812d70b6a8fa3f4660c1a3f95587944b71932d92a023d035a6397cb1daa"), looks := false }, kinds := [], alts := [], laidByText := true, laidKinds := [.data, .data, .pinned], laidTests := true, laidLooks := .later }
def FnExactParseFigureUptoCardSaid : Prop := Claim7.holds Tryd.pinned (.plain (OpenSpec.upto fnExactParseFigureSpec)) fnExactParseFigureUptoCard

/-- THE SECOND FORM's CARD OF 'laws.FnExactFigureOfLoop'. -/
def fnExactFigureOfLoopUptoCard : Claim7 := { stood := { row := fnExactFigureOfLoopUptoRow, standIns := [], harness := (true, "51a81812d70b6a8fa3f4660c1a3f95587944b71932d92a023d035a6397cb1daa"), looks := false }, kinds := [], alts := [], laidByText := true, laidKinds := [.data, .data, .pinned], laidTests := true, laidLooks := .later }
def FnExactFigureOfLoopUptoCardSaid : Prop := Claim7.holds Tryd.pinned (.plain (OpenSpec.upto fnExactFigureOfLoopSpec)) fnExactFigureOfLoopUptoCard

/-- THE SECOND FORM's CARD OF 'laws.FnExactFirstToTake'. -/
def fnExactFirstToTakeUptoCard : Claim7 := { stood := { row := fnExactFirstToTakeUptoRow, standIns := [], harness := (true, "51a81812d70b6a8fa3f4660c1a3f95587944b71932d92a023d035a6397cb1daa"), looks := false }, kinds := [], alts := [], laidByText := true, laidKinds := [.data], laidTests := true, laidLooks := .later }
def FnExactFirstToTakeUptoCardSaid : Prop := Claim7.holds Tryd.pinned (.plain (OpenSpec.upto fnExactFirstToTakeSpec)) fnExactFirstToTakeUptoCard
end Rows
end Go.Proofs.YtehjfaddhmdicaaDoor
