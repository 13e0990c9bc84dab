import Derived.Test.YtehjfaddhmdicaaGreatDoorRows
import Derived.ProofKit
/- Closed facts of the whole program, proved once for all rows of the seat. -/
namespace Go.Proofs.YtehjfaddhmdicaaGreatDoor.Closed
set_option maxRecDepth 100000
abbrev q (n : Nat) : Char := Char.ofNat n
def ords : List Char := [q 104, q 97, q 114, q 110, q 101, q 115, q 115, q 32, q 48, q 57, q 55, q 57, q 55, q 57, q 53, q 51, q 101, q 55, q 48, q 55, q 53, q 99, q 97, q 98, q 55, q 100, q 54, q 100, q 57, q 57, q 57, q 54, q 101, q 99, q 98, q 57, q 51, q 98, q 49, q 102, q 98, q 53, q 102, q 100, q 57, q 57, q 56, q 55, q 52, q 49, q 54, q 97, q 49, q 51, q 49, q 101, q 53, q 51, q 56, q 51, q 100, q 53, q 55, q 52, q 49, q 48, q 98, q 48, q 101, q 97, q 52, q 102, q 32, q 99, q 117, q 116, q 32, q 97, q 116, q 32, q 108, q 111, q 111, q 112, q 46, q 101, q 120, q 97, q 109, q 112, q 108, q 101, q 47, q 103, q 48, q 49, q 50, q 51, q 51, q 47, q 108, q 97, q 119, q 115, q 46, q 70, q 110, q 69, q 120, q 97, q 99, q 116, q 70, q 105, q 114, q 115, q 116, q 84, q 105, q 100, q 121, q 84, q 97, q 107, q 101, q 32, q 108, q 111, q 111, q 112, q 46, q 101, q 120, q 97, q 109, q 112, q 108, q 101, q 47, q 103, q 48, q 49, q 50, q 51, q 51, q 47, q 108, q 97, q 119, q 115, q 46, q 70, q 110, q 69, q 120, q 97, q 99, q 116, q 70, q 105, q 114, q 115, q 116, q 84, q 105, q 100, q 121, q 77, q 111, q 118, q 101, q 32, q 108, q 111, q 111, q 112, q 46, q 101, q 120, q 97, q 109, q 112, q 108, q 101, q 47, q 103, q 48, q 49, q 50, q 51, q 51, q 47, q 108, q 97, q 119, q 115, q 46, q 70, q 110, q 69, q 120, q 97, q 99, q 116, q 65, q 108, q 108, q 84, q 97, q 107, q 101, q 115, q 32, q 108, q 111, q 111, q 112, q 46, q 101, q 120, q 97, q 109, q 112, q 108, q 101, q 47, q 103, q 48, q 49, q 50, q 51, q 51, q 47, q 108, q 97, q 119, q 115, q 46, q 70, q 110, q 69, q 120, q 97, q 99, q 116, q 65, q 108, q 108, q 77, q 111, q 118, q 101, q 115]
theorem ordLit : Tryz.prog.initOrder = "harness 09797953e7075cab7d6d9996ecb93b1fb5fd9987416a131e5383d57410b0ea4f cut at loop.example/g01233/laws.FnExactFirstTidyTake loop.example/g01233/laws.FnExactFirstTidyMove loop.example/g01233/laws.FnExactAllTakes loop.example/g01233/laws.FnExactAllMoves" := by kernel_rfl
theorem ordIs : "harness 09797953e7075cab7d6d9996ecb93b1fb5fd9987416a131e5383d57410b0ea4f cut at loop.example/g01233/laws.FnExactFirstTidyTake loop.example/g01233/laws.FnExactFirstTidyMove loop.example/g01233/laws.FnExactAllTakes loop.example/g01233/laws.FnExactAllMoves" = String.ofList ords := by kernel_rfl
theorem ordL : Tryz.prog.initOrder.toList = ords := by rw [ordLit, ordIs, String.toList_ofList]
theorem ordW : behindMainWord (wordsSigns ords) = [q 99, q 117, q 116] :: (behindMainWord (wordsSigns ords)).tail := by kernel_rfl
section
variable {P : Program} {l : List Char} {r : List (List Char)}
theorem cutIs : ([q 99, q 117, q 116] == "cut".toList) = true := by kernel_rfl
theorem strips (r : List (List Char)) : stripLifts liftWords ([q 99, q 117, q 116] :: r) = ([], [q 99, q 117, q 116] :: r) := by kernel_rfl
theorem make_of (h : P.initOrder.toList = l) (hw : behindMainWord (wordsSigns l) = [q 99, q 117, q 116] :: r) : P.make = some .cut := by
  unfold Program.make
  rw [h, hw]
  kernel_rfl
theorem headLifts_of (h : P.initOrder.toList = l) (hw : behindMainWord (wordsSigns l) = [q 99, q 117, q 116] :: r) : P.headLifts = [] := by
  unfold Program.headLifts
  rw [h, hw]
  simp only [strips, List.head?_cons, Option.some_beq_some]
  rw [cutIs]
  rfl
theorem liftsFinal_of (h : P.initOrder.toList = l) (hw : behindMainWord (wordsSigns l) = [q 99, q 117, q 116] :: r) : P.liftsFinal = false := by
  have h0 := headLifts_of h hw
  have e : ([q 99, q 117, q 116] == "carried".toList) = false := by kernel_rfl
  unfold Program.liftsFinal
  rw [h, hw]
  simp only [List.head?_cons, Option.some_beq_some]
  rw [e, h0]
  simp
theorem mayEnter_of (h : P.initOrder.toList = l) (hw : behindMainWord (wordsSigns l) = [q 99, q 117, q 116] :: r) (h1 : P.laysLater = false) (h2 : P.bearsReflect = false) (h3 : P.doorFits [] = true) : P.mayEnter = true := by
  unfold Program.mayEnter
  rw [h, hw]
  simp only [strips, h1, h2, h3, List.head?_cons, Option.some_beq_some]
  rw [cutIs]
  simp
end
theorem make : Tryz.prog.make = some .cut := make_of ordL ordW
theorem liftsFinal : Tryz.prog.liftsFinal = false := liftsFinal_of ordL ordW
theorem mayEnter : Tryz.prog.mayEnter = true := mayEnter_of ordL ordW (by kernel_rfl) (by kernel_rfl) (by kernel_rfl)
theorem laidOut : laidOutB Tryz.prog = true := by kernel_rfl
theorem mapsRowedP : mapsRowed Tryz.prog = true := by kernel_rfl
theorem noStops : (Tryz.prog.stops == []) = true := by kernel_rfl
theorem noKnobs : (Tryz.prog.stopKnobs == []) = true := by kernel_rfl
theorem stopsHeard : Tryz.prog.stopsHeard = true := by kernel_rfl
theorem own : ownKnob Tryz.prog.godebug = none := by kernel_rfl
end Go.Proofs.YtehjfaddhmdicaaGreatDoor.Closed
