/-
  DERIVED. GIVEN WITH THE SEED: THE CARDS: each row of YtjoaaicbnojoaaaDoorRows.lean that lists a variable, with what it lists TIED to the program's text (the seventh form; the later family's looks); each row that meets fmt, with fmt's text TOLD by the authors' own Lean function (tested against real Go, not proved from fmt's source: count such statements apart). THE CARD IS WHAT COUNTS. Prove the row's statement (the work); the ties are given (YtjoaaicbnojoaaaDoorTie.lean); close each card by the builder's one call (the guide's Derived/Test/ToyasCard.lean, 'card_holds'). Laid BY PROGRAM, IN A SANDBOX (cutbox-door.mjs). By AI agents, Wed Nov 11 2026. No macro, syntax, notation, axiom, sorry.
-/
import Derived.Test.YtjoaaicbnojoaaaDoorRows
import GoSem.ClaimSeven
namespace Go.Proofs.YtjoaaicbnojoaaaDoor
namespace Rows

/-- THE TIED CARD OF 'laws.FnExactFewestTriTakes'. -/
def fnExactFewestTriTakesCard : Claim7 := { stood := { row := fnExactFewestTriTakesRow, standIns := [], harness := (true, "67943fe34563749f8cb922a1af988408c6b787843d514db13d0f8a6126bdce4b"), looks := false }, kinds := [], alts := [], laidByText := true, laidKinds := [.data], laidTests := true, laidLooks := .later }
def FnExactFewestTriTakesCardSaid : Prop := Claim7.holds Tryd.pinned (.plain (OpenSpec.ofChange fnExactFewestTriTakesSpec)) fnExactFewestTriTakesCard

/-- THE TIED CARD OF 'laws.FnExactCountToTake'. -/
def fnExactCountToTakeCard : Claim7 := { stood := { row := fnExactCountToTakeRow, standIns := [], harness := (true, "67943fe34563749f8cb922a1af988408c6b787843d514db13d0f8a6126bdce4b"), looks := false }, kinds := [], alts := [], laidByText := true, laidKinds := [.data], laidTests := true, laidLooks := .later }
def FnExactCountToTakeCardSaid : Prop := Claim7.holds Tryd.pinned (.plain (OpenSpec.ofChange fnExactCountToTakeSpec)) fnExactCountToTakeCard

/-- THE TIED CARD OF 'laws.FnExactFewestToTake'. -/
def fnExactFewestToTakeCard : Claim7 := { stood := { row := fnExactFewestToTakeRow, standIns := [], harness := (true, "67943fe34563749f8cb922a1af988408c6b787843d514db13d0f8a6126bdce4b"), looks := false }, kinds := [], alts := [], laidByText := true, laidKinds := [.data], laidTests := true, laidLooks := .later }
def FnExactFewestToTakeCardSaid : Prop := Claim7.holds Tryd.pinned (.plain (OpenSpec.ofChange fnExactFewestToTakeSpec)) fnExactFewestToTakeCard

/-- THE TIED CARD OF 'laws.FnExactParseFigure'. -/
def fnExactParseFigureCard : Claim7 := { stood := { row := fnExactParseFigureRow, standIns := [], harness := (true, "67943fe34563749f8cb922a1af988408c6b787843d514db13d0f8a6126bdce4b"), looks := false }, kinds := [], alts := [], laidByText := true, laidKinds := [.data, .data, .pinned], laidTests := true, laidLooks := .later }
def FnExactParseFigureCardSaid : Prop := Claim7.holds Tryd.pinned (.plain (OpenSpec.ofChange fnExactParseFigureSpec)) fnExactParseFigureCard

/-- THE TIED CARD OF 'laws.FnExactParseTri'. -/
def fnExactParseTriCard : Claim7 := { stood := { row := fnExactParseTriRow, standIns := [], harness := (true, "67943fe34563749f8cb922a1af988408c6b787843d514db13d0f8a6126bdce4b"), looks := false }, kinds := [], alts := [], laidByText := true, laidKinds := [.data, .data, .pinned], laidTests := true, laidLooks := .later }
def FnExactParseTriCardSaid : Prop := Claim7.holds Tryd.pinned (.plain (OpenSpec.ofChange fnExactParseTriSpec)) fnExactParseTriCard

/-- THE TIED CARD OF 'laws.FnExactFigureOfLoop'. -/
def fnExactFigureOfLoopCard : Claim7 := { stood := { row := fnExactFigureOfLoopRow, standIns := [], harness := (true, "67943fe34563749f8cb922a1af988408c6b787843d514db13d0f8a6126bdce4b"), looks := false }, kinds := [], alts := [], laidByText := true, laidKinds := [.data, .data, .pinned], laidTests := true, laidLooks := .later }
def FnExactFigureOfLoopCardSaid : Prop := Claim7.holds Tryd.pinned (.plain (OpenSpec.ofChange fnExactFigureOfLoopSpec)) fnExactFigureOfLoopCard

/-- THE SECOND FORM's CARD OF 'laws.FnExactFewestTriTakes'. -/
def fnExactFewestTriTakesUptoCard : Claim7 := { stood := { row := fnExactFewestTriTakesUptoRow, standIns := [], harness := (true, "67943fe34563749f8cb922a1af988408c6b787843d514db13d0f8a6126bdce4b"), looks := false }, kinds := [], alts := [], laidByText := true, laidKinds := [.data], laidTests := true, laidLooks := .later }
def FnExactFewestTriTakesUptoCardSaid : Prop := Claim7.holds Tryd.pinned (.plain (OpenSpec.upto fnExactFewestTriTakesSpec)) fnExactFewestTriTakesUptoCard

/-- THE SECOND FORM's CARD OF 'laws.FnExactCountToTake'. -/
def fnExactCountToTakeUptoCard : Claim7 := { stood := { row := fnExactCountToTakeUptoRow, standIns := [], harness := (true, "67943fe34563749f8cb922a1af988408c6b787843d514db13d0f8a6126bdce4b"), looks := false }, kinds := [], alts := [], laidByText := true, laidKinds := [.data], laidTests := true, laidLooks := .later }
def FnExactCountToTakeUptoCardSaid : Prop := Claim7.holds Tryd.pinned (.plain (OpenSpec.upto fnExactCountToTakeSpec)) fnExactCountToTakeUptoCard

/-- THE SECOND FORM's CARD OF 'laws.FnExactFewestToTake'. -/
def fnExactFewestToTakeUptoCard : Claim7 := { stood := { row := fnExactFewestToTakeUptoRow, standIns := [], harness := (true, "67943fe34563749f8cb922a1af988408c6b787843d514db13d0f8a6126bdce4b"), looks := false }, kinds := [], alts := [], laidByText := true, laidKinds := [.data], laidTests := true, laidLooks := .later }
def FnExactFewestToTakeUptoCardSaid : Prop := Claim7.holds Tryd.pinned (.plain (OpenSpec.upto fnExactFewestToTakeSpec)) fnExactFewestToTakeUptoCard

/-- THE SECOND FORM's CARD OF 'laws.FnExactParseFigure'. -/
def fnExactParseFigureUptoCard : Claim7 := { stood := { row := fnExactParseFigureUptoRow, standIns := [], harness := (true, "67943fe34563749f8cb922a1af988408c6b787843d514db13d0f8a6126bdce4b"), looks := false }, kinds := [], alts := [], laidByText := true, laidKinds := [.data, .data, .pinned], laidTests := true, laidLooks := .later }
def FnExactParseFigureUptoCardSaid : Prop := Claim7.holds Tryd.pinned (.plain (OpenSpec.upto fnExactParseFigureSpec)) fnExactParseFigureUptoCard

/-- THE SECOND FORM's CARD OF 'laws.FnExactParseTri'. -/
def fnExactParseTriUptoCard : Claim7 := { stood := { row := fnExactParseTriUptoRow, standIns := [], harness := (true, "67943fe34563749f8cb922a1af988408c6b787843d514db13d0f8a6126bdce4b"), looks := false }, kinds := [], alts := [], laidByText := true, laidKinds := [.data, .data, .pinned], laidTests := true, laidLooks := .later }
def FnExactParseTriUptoCardSaid : Prop := Claim7.holds Tryd.pinned (.plain (OpenSpec.upto fnExactParseTriSpec)) fnExactParseTriUptoCard

/-- THE SECOND FORM's CARD OF 'laws.FnExactFigureOfLoop'. -/
def fnExactFigureOfLoopUptoCard : Claim7 := { stood := { row := fnExactFigureOfLoopUptoRow, standIns := [], harness := (true, "67943fe34563749f8cb922a1af988408c6b787843d514db13d0f8a6126bdce4b"), looks := false }, kinds := [], alts := [], laidByText := true, laidKinds := [.data, .data, .pinned], laidTests := true, laidLooks := .later }
def FnExactFigureOfLoopUptoCardSaid : Prop := Claim7.holds Tryd.pinned (.plain (OpenSpec.upto fnExactFigureOfLoopSpec)) fnExactFigureOfLoopUptoCard
end Rows
end Go.Proofs.YtjoaaicbnojoaaaDoor
