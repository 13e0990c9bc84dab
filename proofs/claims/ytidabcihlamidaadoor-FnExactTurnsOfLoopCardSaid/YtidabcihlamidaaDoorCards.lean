/-
  DERIVED. GIVEN WITH THE SEED: THE CARDS: each row of YtidabcihlamidaaDoorRows.lean that lists a variable, with what it lists TIED to the program's text (the seventh form; the later family's looks); each row that meets fmt, with fmt's text TOLD by the authors' own Lean function (tested against real Go, not proved from fmt's source: count such statements apart). THE CARD IS WHAT COUNTS. Prove the row's statement (the work); the ties are given (YtidabcihlamidaaDoorTie.lean); close each card by the builder's one call (the guide's Derived/Test/ToyasCard.lean, 'card_holds'). Laid BY PROGRAM, IN A SANDBOX (cutbox-door.mjs). By AI agents, Wed Nov 11 2026. No macro, syntax, notation, axiom, sorry.
-/
import Derived.Test.YtidabcihlamidaaDoorRows
import GoSem.ClaimSeven
namespace Go.Proofs.YtidabcihlamidaaDoor
namespace Rows

/-- THE TIED CARD OF 'laws.FnExactStartLoop'. -/
def fnExactStartLoopCard : Claim7 := { stood := { row := fnExactStartLoopRow, standIns := [], harness := (true, "39e9766c6d687e6b56245c8e51c8471dddc6b6a4ef44bfc62c7494308453a970"), looks := false }, kinds := [], alts := [], laidByText := true, laidKinds := [.data, .pinned], laidTests := true, laidLooks := .later }
def FnExactStartLoopCardSaid : Prop := Claim7.holds Tryd.pinned (.plain (OpenSpec.ofChange fnExactStartLoopSpec)) fnExactStartLoopCard

/-- THE TIED CARD OF 'laws.FnExactTurnsOfLoop'. -/
def fnExactTurnsOfLoopCard : Claim7 := { stood := { row := fnExactTurnsOfLoopRow, standIns := [], harness := (true, "39e9766c6d687e6b56245c8e51c8471dddc6b6a4ef44bfc62c7494308453a970"), looks := false }, kinds := [], alts := [], laidByText := true, laidKinds := [.data, .pinned], laidTests := true, laidLooks := .later }
def FnExactTurnsOfLoopCardSaid : Prop := Claim7.holds Tryd.pinned (.plain (OpenSpec.ofChange fnExactTurnsOfLoopSpec)) fnExactTurnsOfLoopCard

/-- THE TIED CARD OF 'laws.FnExactGrowLoop'. -/
def fnExactGrowLoopCard : Claim7 := { stood := { row := fnExactGrowLoopRow, standIns := [], harness := (true, "39e9766c6d687e6b56245c8e51c8471dddc6b6a4ef44bfc62c7494308453a970"), looks := false }, kinds := [], alts := [], laidByText := true, laidKinds := [.data, .pinned], laidTests := true, laidLooks := .later }
def FnExactGrowLoopCardSaid : Prop := Claim7.holds Tryd.pinned (.plain (OpenSpec.ofChange fnExactGrowLoopSpec)) fnExactGrowLoopCard

/-- THE SECOND FORM's CARD OF 'laws.FnExactStartLoop'. -/
def fnExactStartLoopUptoCard : Claim7 := { stood := { row := fnExactStartLoopUptoRow, standIns := [], harness := (true, "39e9766c6d687e6b56245c8e51c8471dddc6b6a4ef44bfc62c7494308453a970"), looks := false }, kinds := [], alts := [], laidByText := true, laidKinds := [.data, .pinned], laidTests := true, laidLooks := .later }
def FnExactStartLoopUptoCardSaid : Prop := Claim7.holds Tryd.pinned (.plain (OpenSpec.upto fnExactStartLoopSpec)) fnExactStartLoopUptoCard

/-- THE SECOND FORM's CARD OF 'laws.FnExactTurnsOfLoop'. -/
def fnExactTurnsOfLoopUptoCard : Claim7 := { stood := { row := fnExactTurnsOfLoopUptoRow, standIns := [], harness := (true, "39e9766c6d687e6b56245c8e51c8471dddc6b6a4ef44bfc62c7494308453a970"), looks := false }, kinds := [], alts := [], laidByText := true, laidKinds := [.data, .pinned], laidTests := true, laidLooks := .later }
def FnExactTurnsOfLoopUptoCardSaid : Prop := Claim7.holds Tryd.pinned (.plain (OpenSpec.upto fnExactTurnsOfLoopSpec)) fnExactTurnsOfLoopUptoCard

/-- THE SECOND FORM's CARD OF 'laws.FnExactGrowLoop'. -/
def fnExactGrowLoopUptoCard : Claim7 := { stood := { row := fnExactGrowLoopUptoRow, standIns := [], harness := (true, "39e9766c6d687e6b56245c8e51c8471dddc6b6a4ef44bfc62c7494308453a970"), looks := false }, kinds := [], alts := [], laidByText := true, laidKinds := [.data, .pinned], laidTests := true, laidLooks := .later }
def FnExactGrowLoopUptoCardSaid : Prop := Claim7.holds Tryd.pinned (.plain (OpenSpec.upto fnExactGrowLoopSpec)) fnExactGrowLoopUptoCard
end Rows
end Go.Proofs.YtidabcihlamidaaDoor
