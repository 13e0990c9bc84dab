/-
  DERIVED. GIVEN WITH THE SEED: THE CARDS: each row of YteaglkpplgbpaaaDoorRows.lean that lists a variable, with what it lists TIED to the program's text (the seventh form; the later family's looks); each row that meets fmt, with fmt's text TOLD by the authors' own Lean function (tested against real Go, not proved from fmt's source: count such statements apart). THE CARD IS WHAT COUNTS. Prove the row's statement (the work); the ties are given (YteaglkpplgbpaaaDoorTie.lean); close each card by the builder's one call (the guide's Derived/Test/ToyasCard.lean, 'card_holds'). Laid BY PROGRAM, IN A SANDBOX (cutbox-door.mjs). By AI agents, Wed Nov 11 2026. No macro, syntax, notation, axiom, sorry.
-/
import Derived.Test.YteaglkpplgbpaaaDoorRows
import GoSem.ClaimSeven
namespace Go.Proofs.YteaglkpplgbpaaaDoor
namespace Rows

/-- THE TIED CARD OF 'laws.FnExactIsStroke'. -/
def fnExactIsStrokeCard : Claim7 := { stood := { row := fnExactIsStrokeRow, standIns := [], harness := (true, "5975feb4701370c3220111bfbddb8b8fecb3303dc5e02049898fdbb3c0d3a4b4"), looks := false }, kinds := [], alts := [], laidByText := true, laidKinds := [.data, .pinned], laidTests := true, laidLooks := .later }
def FnExactIsStrokeCardSaid : Prop := Claim7.holds Tryd.pinned (.plain (OpenSpec.ofChange fnExactIsStrokeSpec)) fnExactIsStrokeCard

/-- THE SECOND FORM's CARD OF 'laws.FnExactIsStroke'. -/
def fnExactIsStrokeUptoCard : Claim7 := { stood := { row := fnExactIsStrokeUptoRow, standIns := [], harness := (true, "5975feb4701370c3220111bfbddb8b8fecb3303dc5e02049898fdbb3c0d3a4b4"), looks := false }, kinds := [], alts := [], laidByText := true, laidKinds := [.data, .pinned], laidTests := true, laidLooks := .later }
def FnExactIsStrokeUptoCardSaid : Prop := Claim7.holds Tryd.pinned (.plain (OpenSpec.upto fnExactIsStrokeSpec)) fnExactIsStrokeUptoCard
end Rows
end Go.Proofs.YteaglkpplgbpaaaDoor
