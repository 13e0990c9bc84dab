/-
  DERIVED. GIVEN WITH THE SEED: THE CARDS: each row of YtbnkdfmomcmmaaaDoorRows.lean that lists a variable, with what it lists TIED to the program's text (the seventh form; the later family's looks); each row that meets fmt, with fmt's text TOLD by the authors' own Lean function (tested against real Go, not proved from fmt's source: count such statements apart). THE CARD IS WHAT COUNTS. Prove the row's statement (the work); the ties are given (YtbnkdfmomcmmaaaDoorTie.lean); close each card by the builder's one call (the guide's Derived/Test/ToyasCard.lean, 'card_holds'). Laid BY PROGRAM, IN A SANDBOX (cutbox-door.mjs). By AI agents, Wed Nov 11 2026. No macro, syntax, notation, axiom, sorry.
-/
import Derived.Test.YtbnkdfmomcmmaaaDoorRows
import GoSem.ClaimSeven
namespace Go.Proofs.YtbnkdfmomcmmaaaDoor
namespace Rows

/-- THE TIED CARD OF 'laws.FnExactIsLoop'. -/
def fnExactIsLoopCard : Claim7 := { stood := { row := fnExactIsLoopRow, standIns := [], harness := (true, "84cda125a6e89d50074672a516acbbcdb2176f8dae58db17fa89f9ff50f1ca69"), looks := false }, kinds := [], alts := [], laidByText := true, laidKinds := [.data, .pinned], laidTests := true, laidLooks := .later }
def FnExactIsLoopCardSaid : Prop := Claim7.holds Tryd.pinned (.plain (OpenSpec.ofChange fnExactIsLoopSpec)) fnExactIsLoopCard

/-- THE TIED CARD OF 'laws.FnExactSizeOfLoop'. -/
def fnExactSizeOfLoopCard : Claim7 := { stood := { row := fnExactSizeOfLoopRow, standIns := [], harness := (true, "84cda125a6e89d50074672a516acbbcdb2176f8dae58db17fa89f9ff50f1ca69"), looks := false }, kinds := [], alts := [], laidByText := true, laidKinds := [.data, .pinned], laidTests := true, laidLooks := .later }
def FnExactSizeOfLoopCardSaid : Prop := Claim7.holds Tryd.pinned (.plain (OpenSpec.ofChange fnExactSizeOfLoopSpec)) fnExactSizeOfLoopCard

/-- THE TIED CARD OF 'laws.FnExactStartLoop'. -/
def fnExactStartLoopCard : Claim7 := { stood := { row := fnExactStartLoopRow, standIns := [], harness := (true, "84cda125a6e89d50074672a516acbbcdb2176f8dae58db17fa89f9ff50f1ca69"), looks := false }, kinds := [], alts := [], laidByText := true, laidKinds := [.data, .pinned], laidTests := true, laidLooks := .later }
def FnExactStartLoopCardSaid : Prop := Claim7.holds Tryd.pinned (.plain (OpenSpec.ofChange fnExactStartLoopSpec)) fnExactStartLoopCard

/-- THE TIED CARD OF 'laws.FnExactAreaOfLoop'. -/
def fnExactAreaOfLoopCard : Claim7 := { stood := { row := fnExactAreaOfLoopRow, standIns := [], harness := (true, "84cda125a6e89d50074672a516acbbcdb2176f8dae58db17fa89f9ff50f1ca69"), looks := false }, kinds := [], alts := [], laidByText := true, laidKinds := [.data, .pinned], laidTests := true, laidLooks := .later }
def FnExactAreaOfLoopCardSaid : Prop := Claim7.holds Tryd.pinned (.plain (OpenSpec.ofChange fnExactAreaOfLoopSpec)) fnExactAreaOfLoopCard

/-- THE TIED CARD OF 'laws.FnExactTurnsOfLoop'. -/
def fnExactTurnsOfLoopCard : Claim7 := { stood := { row := fnExactTurnsOfLoopRow, standIns := [], harness := (true, "84cda125a6e89d50074672a516acbbcdb2176f8dae58db17fa89f9ff50f1ca69"), looks := false }, kinds := [], alts := [], laidByText := true, laidKinds := [.data, .pinned], laidTests := true, laidLooks := .later }
def FnExactTurnsOfLoopCardSaid : Prop := Claim7.holds Tryd.pinned (.plain (OpenSpec.ofChange fnExactTurnsOfLoopSpec)) fnExactTurnsOfLoopCard

/-- THE TIED CARD OF 'laws.FnExactCellsOfLoop'. -/
def fnExactCellsOfLoopCard : Claim7 := { stood := { row := fnExactCellsOfLoopRow, standIns := [], harness := (true, "84cda125a6e89d50074672a516acbbcdb2176f8dae58db17fa89f9ff50f1ca69"), looks := false }, kinds := [], alts := [], laidByText := true, laidKinds := [.data, .pinned], laidTests := true, laidLooks := .later }
def FnExactCellsOfLoopCardSaid : Prop := Claim7.holds Tryd.pinned (.plain (OpenSpec.ofChange fnExactCellsOfLoopSpec)) fnExactCellsOfLoopCard

/-- THE TIED CARD OF 'laws.FnExactGrowLoop'. -/
def fnExactGrowLoopCard : Claim7 := { stood := { row := fnExactGrowLoopRow, standIns := [], harness := (true, "84cda125a6e89d50074672a516acbbcdb2176f8dae58db17fa89f9ff50f1ca69"), looks := false }, kinds := [], alts := [], laidByText := true, laidKinds := [.data, .pinned], laidTests := true, laidLooks := .later }
def FnExactGrowLoopCardSaid : Prop := Claim7.holds Tryd.pinned (.plain (OpenSpec.ofChange fnExactGrowLoopSpec)) fnExactGrowLoopCard

/-- THE SECOND FORM's CARD OF 'laws.FnExactIsLoop'. -/
def fnExactIsLoopUptoCard : Claim7 := { stood := { row := fnExactIsLoopUptoRow, standIns := [], harness := (true, "84cda125a6e89d50074672a516acbbcdb2176f8dae58db17fa89f9ff50f1ca69"), looks := false }, kinds := [], alts := [], laidByText := true, laidKinds := [.data, .pinned], laidTests := true, laidLooks := .later }
def FnExactIsLoopUptoCardSaid : Prop := Claim7.holds Tryd.pinned (.plain (OpenSpec.upto fnExactIsLoopSpec)) fnExactIsLoopUptoCard

/-- THE SECOND FORM's CARD OF 'laws.FnExactSizeOfLoop'. -/
def fnExactSizeOfLoopUptoCard : Claim7 := { stood := { row := fnExactSizeOfLoopUptoRow, standIns := [], harness := (true, "84cda125a6e89d50074672a516acbbcdb2176f8dae58db17fa89f9ff50f1ca69"), looks := false }, kinds := [], alts := [], laidByText := true, laidKinds := [.data, .pinned], laidTests := true, laidLooks := .later }
def FnExactSizeOfLoopUptoCardSaid : Prop := Claim7.holds Tryd.pinned (.plain (OpenSpec.upto fnExactSizeOfLoopSpec)) fnExactSizeOfLoopUptoCard

/-- THE SECOND FORM's CARD OF 'laws.FnExactStartLoop'. -/
def fnExactStartLoopUptoCard : Claim7 := { stood := { row := fnExactStartLoopUptoRow, standIns := [], harness := (true, "84cda125a6e89d50074672a516acbbcdb2176f8dae58db17fa89f9ff50f1ca69"), looks := false }, kinds := [], alts := [], laidByText := true, laidKinds := [.data, .pinned], laidTests := true, laidLooks := .later }
def FnExactStartLoopUptoCardSaid : Prop := Claim7.holds Tryd.pinned (.plain (OpenSpec.upto fnExactStartLoopSpec)) fnExactStartLoopUptoCard

/-- THE SECOND FORM's CARD OF 'laws.FnExactAreaOfLoop'. -/
def fnExactAreaOfLoopUptoCard : Claim7 := { stood := { row := fnExactAreaOfLoopUptoRow, standIns := [], harness := (true, "84cda125a6e89d50074672a516acbbcdb2176f8dae58db17fa89f9ff50f1ca69"), looks := false }, kinds := [], alts := [], laidByText := true, laidKinds := [.data, .pinned], laidTests := true, laidLooks := .later }
def FnExactAreaOfLoopUptoCardSaid : Prop := Claim7.holds Tryd.pinned (.plain (OpenSpec.upto fnExactAreaOfLoopSpec)) fnExactAreaOfLoopUptoCard

/-- THE SECOND FORM's CARD OF 'laws.FnExactTurnsOfLoop'. -/
def fnExactTurnsOfLoopUptoCard : Claim7 := { stood := { row := fnExactTurnsOfLoopUptoRow, standIns := [], harness := (true, "84cda125a6e89d50074672a516acbbcdb2176f8dae58db17fa89f9ff50f1ca69"), looks := false }, kinds := [], alts := [], laidByText := true, laidKinds := [.data, .pinned], laidTests := true, laidLooks := .later }
def FnExactTurnsOfLoopUptoCardSaid : Prop := Claim7.holds Tryd.pinned (.plain (OpenSpec.upto fnExactTurnsOfLoopSpec)) fnExactTurnsOfLoopUptoCard

/-- THE SECOND FORM's CARD OF 'laws.FnExactCellsOfLoop'. -/
def fnExactCellsOfLoopUptoCard : Claim7 := { stood := { row := fnExactCellsOfLoopUptoRow, standIns := [], harness := (true, "84cda125a6e89d50074672a516acbbcdb2176f8dae58db17fa89f9ff50f1ca69"), looks := false }, kinds := [], alts := [], laidByText := true, laidKinds := [.data, .pinned], laidTests := true, laidLooks := .later }
def FnExactCellsOfLoopUptoCardSaid : Prop := Claim7.holds Tryd.pinned (.plain (OpenSpec.upto fnExactCellsOfLoopSpec)) fnExactCellsOfLoopUptoCard

/-- THE SECOND FORM's CARD OF 'laws.FnExactGrowLoop'. -/
def fnExactGrowLoopUptoCard : Claim7 := { stood := { row := fnExactGrowLoopUptoRow, standIns := [], harness := (true, "84cda125a6e89d50074672a516acbbcdb2176f8dae58db17fa89f9ff50f1ca69"), looks := false }, kinds := [], alts := [], laidByText := true, laidKinds := [.data, .pinned], laidTests := true, laidLooks := .later }
def FnExactGrowLoopUptoCardSaid : Prop := Claim7.holds Tryd.pinned (.plain (OpenSpec.upto fnExactGrowLoopSpec)) fnExactGrowLoopUptoCard
end Rows
end Go.Proofs.YtbnkdfmomcmmaaaDoor
