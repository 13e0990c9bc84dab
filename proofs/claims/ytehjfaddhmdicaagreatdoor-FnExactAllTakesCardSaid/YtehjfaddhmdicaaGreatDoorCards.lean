/-
  DERIVED. GIVEN WITH THE SEED: THE CARDS: each row of YtehjfaddhmdicaaGreatDoorRows.lean that lists a variable, with what it lists TIED to the program's text (the seventh form; the later family's looks); each row that meets fmt, with fmt's text TOLD by the authors' own Lean function (tested against real Go, not proved from fmt's source: count such statements apart). THE CARD IS WHAT COUNTS. Prove the row's statement (the work); the ties are given (YtehjfaddhmdicaaGreatDoorTie.lean); close each card by the builder's one call (the guide's Derived/Test/ToyasCard.lean, 'card_holds'). Laid BY PROGRAM, IN A SANDBOX (cutbox-door.mjs). By AI agents, Wed Nov 11 2026. No macro, syntax, notation, axiom, sorry.
-/
import Derived.Test.YtehjfaddhmdicaaGreatDoorRows
import GoSem.ClaimSeven
namespace Go.Proofs.YtehjfaddhmdicaaGreatDoor
namespace Rows

/-- THE TIED CARD OF 'laws.FnExactFirstTidyTake'. -/
def fnExactFirstTidyTakeCard : Claim7 := { stood := { row := fnExactFirstTidyTakeRow, standIns := [], harness := (true, "09797953e7075cab7d6d9996ecb93b1fb5fd9987416a131e5383d57410b0ea4f"), looks := false }, kinds := [], alts := [], laidByText := true, laidKinds := [.data], laidTests := true, laidLooks := .later }
def FnExactFirstTidyTakeCardSaid : Prop := Claim7.holds Tryz.pinned (.plain (OpenSpec.ofChange fnExactFirstTidyTakeSpec)) fnExactFirstTidyTakeCard

/-- THE TIED CARD OF 'laws.FnExactFirstTidyMove'. -/
def fnExactFirstTidyMoveCard : Claim7 := { stood := { row := fnExactFirstTidyMoveRow, standIns := [], harness := (true, "09797953e7075cab7d6d9996ecb93b1fb5fd9987416a131e5383d57410b0ea4f"), looks := false }, kinds := [], alts := [], laidByText := true, laidKinds := [.data], laidTests := true, laidLooks := .later }
def FnExactFirstTidyMoveCardSaid : Prop := Claim7.holds Tryz.pinned (.plain (OpenSpec.ofChange fnExactFirstTidyMoveSpec)) fnExactFirstTidyMoveCard

/-- THE TIED CARD OF 'laws.FnExactAllTakes'. -/
def fnExactAllTakesCard : Claim7 := { stood := { row := fnExactAllTakesRow, standIns := [], harness := (true, "09797953e7075cab7d6d9996ecb93b1fb5fd9987416a131e5383d57410b0ea4f"), looks := false }, kinds := [], alts := [], laidByText := true, laidKinds := [.data], laidTests := true, laidLooks := .later }
def FnExactAllTakesCardSaid : Prop := Claim7.holds Tryz.pinned (.plain (OpenSpec.ofChange fnExactAllTakesSpec)) fnExactAllTakesCard

/-- THE TIED CARD OF 'laws.FnExactAllMoves'. -/
def fnExactAllMovesCard : Claim7 := { stood := { row := fnExactAllMovesRow, standIns := [], harness := (true, "09797953e7075cab7d6d9996ecb93b1fb5fd9987416a131e5383d57410b0ea4f"), looks := false }, kinds := [], alts := [], laidByText := true, laidKinds := [.data], laidTests := true, laidLooks := .later }
def FnExactAllMovesCardSaid : Prop := Claim7.holds Tryz.pinned (.plain (OpenSpec.ofChange fnExactAllMovesSpec)) fnExactAllMovesCard

/-- THE SECOND FORM's CARD OF 'laws.FnExactFirstTidyTake'. -/
def fnExactFirstTidyTakeUptoCard : Claim7 := { stood := { row := fnExactFirstTidyTakeUptoRow, standIns := [], harness := (true, "09797953e7075cab7d6d9996ecb93b1fb5fd9987416a131e5383d57410b0ea4f"), looks := false }, kinds := [], alts := [], laidByText := true, laidKinds := [.data], laidTests := true, laidLooks := .later }
def FnExactFirstTidyTakeUptoCardSaid : Prop := Claim7.holds Tryz.pinned (.plain (OpenSpec.upto fnExactFirstTidyTakeSpec)) fnExactFirstTidyTakeUptoCard

/-- THE SECOND FORM's CARD OF 'laws.FnExactFirstTidyMove'. -/
def fnExactFirstTidyMoveUptoCard : Claim7 := { stood := { row := fnExactFirstTidyMoveUptoRow, standIns := [], harness := (true, "09797953e7075cab7d6d9996ecb93b1fb5fd9987416a131e5383d57410b0ea4f"), looks := false }, kinds := [], alts := [], laidByText := true, laidKinds := [.data], laidTests := true, laidLooks := .later }
def FnExactFirstTidyMoveUptoCardSaid : Prop := Claim7.holds Tryz.pinned (.plain (OpenSpec.upto fnExactFirstTidyMoveSpec)) fnExactFirstTidyMoveUptoCard

/-- THE SECOND FORM's CARD OF 'laws.FnExactAllTakes'. -/
def fnExactAllTakesUptoCard : Claim7 := { stood := { row := fnExactAllTakesUptoRow, standIns := [], harness := (true, "09797953e7075cab7d6d9996ecb93b1fb5fd9987416a131e5383d57410b0ea4f"), looks := false }, kinds := [], alts := [], laidByText := true, laidKinds := [.data], laidTests := true, laidLooks := .later }
def FnExactAllTakesUptoCardSaid : Prop := Claim7.holds Tryz.pinned (.plain (OpenSpec.upto fnExactAllTakesSpec)) fnExactAllTakesUptoCard

/-- THE SECOND FORM's CARD OF 'laws.FnExactAllMoves'. -/
def fnExactAllMovesUptoCard : Claim7 := { stood := { row := fnExactAllMovesUptoRow, standIns := [], harness := (true, "09797953e7075cab7d6d9996ecb93b1fb5fd9987416a131e5383d57410b0ea4f"), looks := false }, kinds := [], alts := [], laidByText := true, laidKinds := [.data], laidTests := true, laidLooks := .later }
def FnExactAllMovesUptoCardSaid : Prop := Claim7.holds Tryz.pinned (.plain (OpenSpec.upto fnExactAllMovesSpec)) fnExactAllMovesUptoCard
end Rows
end Go.Proofs.YtehjfaddhmdicaaGreatDoor
