/-
  DERIVED. GIVEN WITH THE SEED: THE CARDS: each row of YtjnajeplfgdklaaDoorRows.lean that lists a variable, with what it lists TIED to the program's text (the seventh form; the later family's looks); each row that meets fmt, with fmt's text TOLD by the authors' own Lean function (tested against real Go, not proved from fmt's source: count such statements apart). THE CARD IS WHAT COUNTS. Prove the row's statement (the work); the ties are given (YtjnajeplfgdklaaDoorTie.lean); close each card by the builder's one call (the guide's Derived/Test/ToyasCard.lean, 'card_holds'). Laid BY PROGRAM, IN A SANDBOX (cutbox-door.mjs). By AI agents, Wed Nov 11 2026. No macro, syntax, notation, axiom, sorry.
-/
import Derived.Test.YtjnajeplfgdklaaDoorRows
import GoSem.ClaimSeven
namespace Go.Proofs.YtjnajeplfgdklaaDoor
namespace Rows

/-- THE TIED CARD OF 'laws.FnExactJoinFigures'. -/
def fnExactJoinFiguresCard : Claim7 := { stood := { row := fnExactJoinFiguresRow, standIns := [], harness := (true, "881df8fd4cc24539997f6b0e4a4c9c78cd9d90516025012de697bc07ffd4fb01"), looks := false }, kinds := [], alts := [], laidByText := true, laidKinds := [.data], laidTests := true, laidLooks := .later }
def FnExactJoinFiguresCardSaid : Prop := Claim7.holds Tryd.pinned (.plain (OpenSpec.ofChange fnExactJoinFiguresSpec)) fnExactJoinFiguresCard

/-- THE TIED CARD OF 'laws.FnExactAddCell'. -/
def fnExactAddCellCard : Claim7 := { stood := { row := fnExactAddCellRow, standIns := [], harness := (true, "881df8fd4cc24539997f6b0e4a4c9c78cd9d90516025012de697bc07ffd4fb01"), looks := false }, kinds := [], alts := [], laidByText := true, laidKinds := [.data], laidTests := true, laidLooks := .later }
def FnExactAddCellCardSaid : Prop := Claim7.holds Tryd.pinned (.plain (OpenSpec.ofChange fnExactAddCellSpec)) fnExactAddCellCard

/-- THE TIED CARD OF 'laws.FnExactAddMatch'. -/
def fnExactAddMatchCard : Claim7 := { stood := { row := fnExactAddMatchRow, standIns := [], harness := (true, "881df8fd4cc24539997f6b0e4a4c9c78cd9d90516025012de697bc07ffd4fb01"), looks := false }, kinds := [], alts := [], laidByText := true, laidKinds := [.data], laidTests := true, laidLooks := .later }
def FnExactAddMatchCardSaid : Prop := Claim7.holds Tryd.pinned (.plain (OpenSpec.ofChange fnExactAddMatchSpec)) fnExactAddMatchCard

/-- THE TIED CARD OF 'laws.FnExactTakeMatch'. -/
def fnExactTakeMatchCard : Claim7 := { stood := { row := fnExactTakeMatchRow, standIns := [], harness := (true, "881df8fd4cc24539997f6b0e4a4c9c78cd9d90516025012de697bc07ffd4fb01"), looks := false }, kinds := [], alts := [], laidByText := true, laidKinds := [.data], laidTests := true, laidLooks := .later }
def FnExactTakeMatchCardSaid : Prop := Claim7.holds Tryd.pinned (.plain (OpenSpec.ofChange fnExactTakeMatchSpec)) fnExactTakeMatchCard

/-- THE TIED CARD OF 'laws.FnExactNeedlessMatches'. -/
def fnExactNeedlessMatchesCard : Claim7 := { stood := { row := fnExactNeedlessMatchesRow, standIns := [], harness := (true, "881df8fd4cc24539997f6b0e4a4c9c78cd9d90516025012de697bc07ffd4fb01"), looks := false }, kinds := [], alts := [], laidByText := true, laidKinds := [.data], laidTests := true, laidLooks := .later }
def FnExactNeedlessMatchesCardSaid : Prop := Claim7.holds Tryd.pinned (.plain (OpenSpec.ofChange fnExactNeedlessMatchesSpec)) fnExactNeedlessMatchesCard

/-- THE TIED CARD OF 'laws.FnExactGreedyTake'. -/
def fnExactGreedyTakeCard : Claim7 := { stood := { row := fnExactGreedyTakeRow, standIns := [], harness := (true, "881df8fd4cc24539997f6b0e4a4c9c78cd9d90516025012de697bc07ffd4fb01"), looks := false }, kinds := [], alts := [], laidByText := true, laidKinds := [.data], laidTests := true, laidLooks := .later }
def FnExactGreedyTakeCardSaid : Prop := Claim7.holds Tryd.pinned (.plain (OpenSpec.ofChange fnExactGreedyTakeSpec)) fnExactGreedyTakeCard

/-- THE TIED CARD OF 'laws.FnExactPartsOfFigure'. -/
def fnExactPartsOfFigureCard : Claim7 := { stood := { row := fnExactPartsOfFigureRow, standIns := [], harness := (true, "881df8fd4cc24539997f6b0e4a4c9c78cd9d90516025012de697bc07ffd4fb01"), looks := false }, kinds := [], alts := [], laidByText := true, laidKinds := [.data], laidTests := true, laidLooks := .later }
def FnExactPartsOfFigureCardSaid : Prop := Claim7.holds Tryd.pinned (.plain (OpenSpec.ofChange fnExactPartsOfFigureSpec)) fnExactPartsOfFigureCard

/-- THE SECOND FORM's CARD OF 'laws.FnExactJoinFigures'. -/
def fnExactJoinFiguresUptoCard : Claim7 := { stood := { row := fnExactJoinFiguresUptoRow, standIns := [], harness := (true, "881df8fd4cc24539997f6b0e4a4c9c78cd9d90516025012de697bc07ffd4fb01"), looks := false }, kinds := [], alts := [], laidByText := true, laidKinds := [.data], laidTests := true, laidLooks := .later }
def FnExactJoinFiguresUptoCardSaid : Prop := Claim7.holds Tryd.pinned (.plain (OpenSpec.upto fnExactJoinFiguresSpec)) fnExactJoinFiguresUptoCard

/-- THE SECOND FORM's CARD OF 'laws.FnExactAddCell'. -/
def fnExactAddCellUptoCard : Claim7 := { stood := { row := fnExactAddCellUptoRow, standIns := [], harness := (true, "881df8fd4cc24539997f6b0e4a4c9c78cd9d90516025012de697bc07ffd4fb01"), looks := false }, kinds := [], alts := [], laidByText := true, laidKinds := [.data], laidTests := true, laidLooks := .later }
def FnExactAddCellUptoCardSaid : Prop := Claim7.holds Tryd.pinned (.plain (OpenSpec.upto fnExactAddCellSpec)) fnExactAddCellUptoCard

/-- THE SECOND FORM's CARD OF 'laws.FnExactAddMatch'. -/
def fnExactAddMatchUptoCard : Claim7 := { stood := { row := fnExactAddMatchUptoRow, standIns := [], harness := (true, "881df8fd4cc24539997f6b0e4a4c9c78cd9d90516025012de697bc07ffd4fb01"), looks := false }, kinds := [], alts := [], laidByText := true, laidKinds := [.data], laidTests := true, laidLooks := .later }
def FnExactAddMatchUptoCardSaid : Prop := Claim7.holds Tryd.pinned (.plain (OpenSpec.upto fnExactAddMatchSpec)) fnExactAddMatchUptoCard

/-- THE SECOND FORM's CARD OF 'laws.FnExactTakeMatch'. -/
def fnExactTakeMatchUptoCard : Claim7 := { stood := { row := fnExactTakeMatchUptoRow, standIns := [], harness := (true, "881df8fd4cc24539997f6b0e4a4c9c78cd9d90516025012de697bc07ffd4fb01"), looks := false }, kinds := [], alts := [], laidByText := true, laidKinds := [.data], laidTests := true, laidLooks := .later }
def FnExactTakeMatchUptoCardSaid : Prop := Claim7.holds Tryd.pinned (.plain (OpenSpec.upto fnExactTakeMatchSpec)) fnExactTakeMatchUptoCard

/-- THE SECOND FORM's CARD OF 'laws.FnExactNeedlessMatches'. -/
def fnExactNeedlessMatchesUptoCard : Claim7 := { stood := { row := fnExactNeedlessMatchesUptoRow, standIns := [], harness := (true, "881df8fd4cc24539997f6b0e4a4c9c78cd9d90516025012de697bc07ffd4fb01"), looks := false }, kinds := [], alts := [], laidByText := true, laidKinds := [.data], laidTests := true, laidLooks := .later }
def FnExactNeedlessMatchesUptoCardSaid : Prop := Claim7.holds Tryd.pinned (.plain (OpenSpec.upto fnExactNeedlessMatchesSpec)) fnExactNeedlessMatchesUptoCard

/-- THE SECOND FORM's CARD OF 'laws.FnExactGreedyTake'. -/
def fnExactGreedyTakeUptoCard : Claim7 := { stood := { row := fnExactGreedyTakeUptoRow, standIns := [], harness := (true, "881df8fd4cc24539997f6b0e4a4c9c78cd9d90516025012de697bc07ffd4fb01"), looks := false }, kinds := [], alts := [], laidByText := true, laidKinds := [.data], laidTests := true, laidLooks := .later }
def FnExactGreedyTakeUptoCardSaid : Prop := Claim7.holds Tryd.pinned (.plain (OpenSpec.upto fnExactGreedyTakeSpec)) fnExactGreedyTakeUptoCard

/-- THE SECOND FORM's CARD OF 'laws.FnExactPartsOfFigure'. -/
def fnExactPartsOfFigureUptoCard : Claim7 := { stood := { row := fnExactPartsOfFigureUptoRow, standIns := [], harness := (true, "881df8fd4cc24539997f6b0e4a4c9c78cd9d90516025012de697bc07ffd4fb01"), looks := false }, kinds := [], alts := [], laidByText := true, laidKinds := [.data], laidTests := true, laidLooks := .later }
def FnExactPartsOfFigureUptoCardSaid : Prop := Claim7.holds Tryd.pinned (.plain (OpenSpec.upto fnExactPartsOfFigureSpec)) fnExactPartsOfFigureUptoCard
end Rows
end Go.Proofs.YtjnajeplfgdklaaDoor
