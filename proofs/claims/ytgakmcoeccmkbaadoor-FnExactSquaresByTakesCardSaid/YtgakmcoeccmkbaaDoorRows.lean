/-
  NARROWER THAN 'FOR EVERY INPUT', by the rows' own cells (each row's printed sentence says how): FnExactCountMoves: laid · FnExactCountTakes: laid · FnExactCountTidyMoves: laid · FnExactCountTidyTakes: laid · FnExactFewestMoves: laid · FnExactFewestTakes: laid · FnExactSquaresByMoves: laid · FnExactSquaresByTakes: laid.
  DERIVED. THE GIVEN ROWS OF THIS SEAT. 8 by the template 'for every input the law returns true; each argument reads behind the call as it read before'; 0 by the template 'total and deterministic' (their statements: YtgakmcoeccmkbaaDoorTotals.lean).
  GIVEN WITH THE SEED: the statements are not yours to turn. If you find one false, say at which input.
  Laid BY PROGRAM, IN A SANDBOX (cutbox-rows.mjs): the forced cells as the released guide's own fill.sh prints them over the translation 516129862412cf40… (all of the seat's roots in one cut). By AI agents, Wed Nov 11 2026. No macro, syntax, notation, axiom, sorry.
-/
import Derived.Test.YtgakmcoeccmkbaaDoorChecked
import GoSem.Claim
import GoSem.ClaimJoined
import GoSem.ClaimMapViews
import Derived.JoinedTies
import Derived.KernelRfl
namespace Go.Proofs.YtgakmcoeccmkbaaDoor
/- THE CELL 'sum', in the pinned program and in every row, IS THE sha256 OF THE DUMP (.gsa) THAT YtgakmcoeccmkbaaDoorProg.lean LOADS. Nothing in Lean hashes anything: it is a label: what it is worth is what the hold of that sum in a sandbox is worth. -/
noncomputable def Tryd.pinned : Pinned := { name := "ytgakmcoeccmkbaadoor", sum := "516129862412cf401d87a16ca146b88e0c86f50f62b8750e6b9f9c691eaecd10", checked := Tryd.checked }
namespace Rows
def none {H : Type} : Left H := { results := [], args := [] }

/- WHAT THE LISTED PACKAGE-LEVEL VARIABLES READ AS WHEN THE CALL BEGINS. Each datum BY PROGRAM (the guide's laid-datum.mjs) off the statement by which the dump's own 'gosem.cut.vars' lays the variable. In a bare row this is a premise. The card (YtgakmcoeccmkbaaDoorCards.lean) ties it to the program's text. -/
def laid_math_bits_deBruijn64tab {H : Type} : DataW H := .agg [.lit (.int .u8 0), .lit (.int .u8 1), .lit (.int .u8 56), .lit (.int .u8 2), .lit (.int .u8 57), .lit (.int .u8 49), .lit (.int .u8 28), .lit (.int .u8 3), .lit (.int .u8 61), .lit (.int .u8 58), .lit (.int .u8 42), .lit (.int .u8 50), .lit (.int .u8 38), .lit (.int .u8 29), .lit (.int .u8 17), .lit (.int .u8 4), .lit (.int .u8 62), .lit (.int .u8 47), .lit (.int .u8 59), .lit (.int .u8 36), .lit (.int .u8 45), .lit (.int .u8 43), .lit (.int .u8 51), .lit (.int .u8 22), .lit (.int .u8 53), .lit (.int .u8 39), .lit (.int .u8 33), .lit (.int .u8 30), .lit (.int .u8 24), .lit (.int .u8 18), .lit (.int .u8 12), .lit (.int .u8 5), .lit (.int .u8 63), .lit (.int .u8 55), .lit (.int .u8 48), .lit (.int .u8 27), .lit (.int .u8 60), .lit (.int .u8 41), .lit (.int .u8 37), .lit (.int .u8 16), .lit (.int .u8 46), .lit (.int .u8 35), .lit (.int .u8 44), .lit (.int .u8 21), .lit (.int .u8 52), .lit (.int .u8 32), .lit (.int .u8 23), .lit (.int .u8 11), .lit (.int .u8 54), .lit (.int .u8 26), .lit (.int .u8 40), .lit (.int .u8 15), .lit (.int .u8 34), .lit (.int .u8 20), .lit (.int .u8 31), .lit (.int .u8 10), .lit (.int .u8 25), .lit (.int .u8 14), .lit (.int .u8 19), .lit (.int .u8 9), .lit (.int .u8 13), .lit (.int .u8 8), .lit (.int .u8 7), .lit (.int .u8 6)]

/-- 'laws.FnExactCountMoves': WHATEVER THE INPUT: true; the input reads as it did. -/
def fnExactCountMovesSpec : ChangeSpec := { name := "fnExactCountMoves", fn := fun _ => fun
  | [d1, d2, d3] => { results := [.lit (.bool true)], args := [d1, d2, d3] }
  | _ => none }
def fnExactCountMovesRow : OpenClaim := { program := "ytgakmcoeccmkbaadoor", sum := "516129862412cf401d87a16ca146b88e0c86f50f62b8750e6b9f9c691eaecd10", func := "loop.example/g01233/laws.FnExactCountMoves", spec := "fnExactCountMoves", unfollowed := true, recurses := true, named := ["math/bits.deBruijn64tab"], apart := false, laid := [("math/bits.deBruijn64tab", laid_math_bits_deBruijn64tab)] }
def FnExactCountMovesSaid : Prop := fnExactCountMovesRow.holds Tryd.pinned (OpenSpec.ofChange fnExactCountMovesSpec)

/-- ITS FALSE NEIGHBOUR: 'it returns false'. Refute it at one input. -/
def fnExactCountMovesWrong : ChangeSpec := { name := "fnExactCountMoves", fn := fun _ => fun
  | [d1, d2, d3] => { results := [.lit (.bool false)], args := [d1, d2, d3] }
  | _ => none }
def FnExactCountMovesWrongFalsely : Prop := fnExactCountMovesRow.holds Tryd.pinned (OpenSpec.ofChange fnExactCountMovesWrong)

/-- 'laws.FnExactCountTakes': WHATEVER THE INPUT: true; the input reads as it did. -/
def fnExactCountTakesSpec : ChangeSpec := { name := "fnExactCountTakes", fn := fun _ => fun
  | [d1, d2, d3] => { results := [.lit (.bool true)], args := [d1, d2, d3] }
  | _ => none }
def fnExactCountTakesRow : OpenClaim := { program := "ytgakmcoeccmkbaadoor", sum := "516129862412cf401d87a16ca146b88e0c86f50f62b8750e6b9f9c691eaecd10", func := "loop.example/g01233/laws.FnExactCountTakes", spec := "fnExactCountTakes", unfollowed := true, recurses := true, named := ["math/bits.deBruijn64tab"], apart := false, laid := [("math/bits.deBruijn64tab", laid_math_bits_deBruijn64tab)] }
def FnExactCountTakesSaid : Prop := fnExactCountTakesRow.holds Tryd.pinned (OpenSpec.ofChange fnExactCountTakesSpec)

/-- ITS FALSE NEIGHBOUR: 'it returns false'. Refute it at one input. -/
def fnExactCountTakesWrong : ChangeSpec := { name := "fnExactCountTakes", fn := fun _ => fun
  | [d1, d2, d3] => { results := [.lit (.bool false)], args := [d1, d2, d3] }
  | _ => none }
def FnExactCountTakesWrongFalsely : Prop := fnExactCountTakesRow.holds Tryd.pinned (OpenSpec.ofChange fnExactCountTakesWrong)

/-- 'laws.FnExactCountTidyMoves': WHATEVER THE INPUT: true; the input reads as it did. -/
def fnExactCountTidyMovesSpec : ChangeSpec := { name := "fnExactCountTidyMoves", fn := fun _ => fun
  | [d1, d2, d3] => { results := [.lit (.bool true)], args := [d1, d2, d3] }
  | _ => none }
def fnExactCountTidyMovesRow : OpenClaim := { program := "ytgakmcoeccmkbaadoor", sum := "516129862412cf401d87a16ca146b88e0c86f50f62b8750e6b9f9c691eaecd10", func := "loop.example/g01233/laws.FnExactCountTidyMoves", spec := "fnExactCountTidyMoves", unfollowed := true, recurses := true, named := ["math/bits.deBruijn64tab"], apart := false, laid := [("math/bits.deBruijn64tab", laid_math_bits_deBruijn64tab)] }
def FnExactCountTidyMovesSaid : Prop := fnExactCountTidyMovesRow.holds Tryd.pinned (OpenSpec.ofChange fnExactCountTidyMovesSpec)

/-- ITS FALSE NEIGHBOUR: 'it returns false'. Refute it at one input. -/
def fnExactCountTidyMovesWrong : ChangeSpec := { name := "fnExactCountTidyMoves", fn := fun _ => fun
  | [d1, d2, d3] => { results := [.lit (.bool false)], args := [d1, d2, d3] }
  | _ => none }
def FnExactCountTidyMovesWrongFalsely : Prop := fnExactCountTidyMovesRow.holds Tryd.pinned (OpenSpec.ofChange fnExactCountTidyMovesWrong)

/-- 'laws.FnExactCountTidyTakes': WHATEVER THE INPUT: true; the input reads as it did. -/
def fnExactCountTidyTakesSpec : ChangeSpec := { name := "fnExactCountTidyTakes", fn := fun _ => fun
  | [d1, d2, d3] => { results := [.lit (.bool true)], args := [d1, d2, d3] }
  | _ => none }
def fnExactCountTidyTakesRow : OpenClaim := { program := "ytgakmcoeccmkbaadoor", sum := "516129862412cf401d87a16ca146b88e0c86f50f62b8750e6b9f9c691eaecd10", func := "loop.example/g01233/laws.FnExactCountTidyTakes", spec := "fnExactCountTidyTakes", unfollowed := true, recurses := true, named := ["math/bits.deBruijn64tab"], apart := false, laid := [("math/bits.deBruijn64tab", laid_math_bits_deBruijn64tab)] }
def FnExactCountTidyTakesSaid : Prop := fnExactCountTidyTakesRow.holds Tryd.pinned (OpenSpec.ofChange fnExactCountTidyTakesSpec)

/-- ITS FALSE NEIGHBOUR: 'it returns false'. Refute it at one input. -/
def fnExactCountTidyTakesWrong : ChangeSpec := { name := "fnExactCountTidyTakes", fn := fun _ => fun
  | [d1, d2, d3] => { results := [.lit (.bool false)], args := [d1, d2, d3] }
  | _ => none }
def FnExactCountTidyTakesWrongFalsely : Prop := fnExactCountTidyTakesRow.holds Tryd.pinned (OpenSpec.ofChange fnExactCountTidyTakesWrong)

/-- 'laws.FnExactFewestMoves': WHATEVER THE INPUT: true; the input reads as it did. -/
def fnExactFewestMovesSpec : ChangeSpec := { name := "fnExactFewestMoves", fn := fun _ => fun
  | [d1, d2] => { results := [.lit (.bool true)], args := [d1, d2] }
  | _ => none }
def fnExactFewestMovesRow : OpenClaim := { program := "ytgakmcoeccmkbaadoor", sum := "516129862412cf401d87a16ca146b88e0c86f50f62b8750e6b9f9c691eaecd10", func := "loop.example/g01233/laws.FnExactFewestMoves", spec := "fnExactFewestMoves", unfollowed := true, recurses := true, named := ["math/bits.deBruijn64tab"], apart := false, laid := [("math/bits.deBruijn64tab", laid_math_bits_deBruijn64tab)] }
def FnExactFewestMovesSaid : Prop := fnExactFewestMovesRow.holds Tryd.pinned (OpenSpec.ofChange fnExactFewestMovesSpec)

/-- ITS FALSE NEIGHBOUR: 'it returns false'. Refute it at one input. -/
def fnExactFewestMovesWrong : ChangeSpec := { name := "fnExactFewestMoves", fn := fun _ => fun
  | [d1, d2] => { results := [.lit (.bool false)], args := [d1, d2] }
  | _ => none }
def FnExactFewestMovesWrongFalsely : Prop := fnExactFewestMovesRow.holds Tryd.pinned (OpenSpec.ofChange fnExactFewestMovesWrong)

/-- 'laws.FnExactFewestTakes': WHATEVER THE INPUT: true; the input reads as it did. -/
def fnExactFewestTakesSpec : ChangeSpec := { name := "fnExactFewestTakes", fn := fun _ => fun
  | [d1, d2] => { results := [.lit (.bool true)], args := [d1, d2] }
  | _ => none }
def fnExactFewestTakesRow : OpenClaim := { program := "ytgakmcoeccmkbaadoor", sum := "516129862412cf401d87a16ca146b88e0c86f50f62b8750e6b9f9c691eaecd10", func := "loop.example/g01233/laws.FnExactFewestTakes", spec := "fnExactFewestTakes", unfollowed := true, recurses := true, named := ["math/bits.deBruijn64tab"], apart := false, laid := [("math/bits.deBruijn64tab", laid_math_bits_deBruijn64tab)] }
def FnExactFewestTakesSaid : Prop := fnExactFewestTakesRow.holds Tryd.pinned (OpenSpec.ofChange fnExactFewestTakesSpec)

/-- ITS FALSE NEIGHBOUR: 'it returns false'. Refute it at one input. -/
def fnExactFewestTakesWrong : ChangeSpec := { name := "fnExactFewestTakes", fn := fun _ => fun
  | [d1, d2] => { results := [.lit (.bool false)], args := [d1, d2] }
  | _ => none }
def FnExactFewestTakesWrongFalsely : Prop := fnExactFewestTakesRow.holds Tryd.pinned (OpenSpec.ofChange fnExactFewestTakesWrong)

/-- 'laws.FnExactSquaresByMoves': WHATEVER THE INPUT: true; the input reads as it did. -/
def fnExactSquaresByMovesSpec : ChangeSpec := { name := "fnExactSquaresByMoves", fn := fun _ => fun
  | [d1, d2] => { results := [.lit (.bool true)], args := [d1, d2] }
  | _ => none }
def fnExactSquaresByMovesRow : OpenClaim := { program := "ytgakmcoeccmkbaadoor", sum := "516129862412cf401d87a16ca146b88e0c86f50f62b8750e6b9f9c691eaecd10", func := "loop.example/g01233/laws.FnExactSquaresByMoves", spec := "fnExactSquaresByMoves", unfollowed := true, recurses := true, named := ["math/bits.deBruijn64tab"], apart := false, laid := [("math/bits.deBruijn64tab", laid_math_bits_deBruijn64tab)] }
def FnExactSquaresByMovesSaid : Prop := fnExactSquaresByMovesRow.holds Tryd.pinned (OpenSpec.ofChange fnExactSquaresByMovesSpec)

/-- ITS FALSE NEIGHBOUR: 'it returns false'. Refute it at one input. -/
def fnExactSquaresByMovesWrong : ChangeSpec := { name := "fnExactSquaresByMoves", fn := fun _ => fun
  | [d1, d2] => { results := [.lit (.bool false)], args := [d1, d2] }
  | _ => none }
def FnExactSquaresByMovesWrongFalsely : Prop := fnExactSquaresByMovesRow.holds Tryd.pinned (OpenSpec.ofChange fnExactSquaresByMovesWrong)

/-- 'laws.FnExactSquaresByTakes': WHATEVER THE INPUT: true; the input reads as it did. -/
def fnExactSquaresByTakesSpec : ChangeSpec := { name := "fnExactSquaresByTakes", fn := fun _ => fun
  | [d1, d2] => { results := [.lit (.bool true)], args := [d1, d2] }
  | _ => none }
def fnExactSquaresByTakesRow : OpenClaim := { program := "ytgakmcoeccmkbaadoor", sum := "516129862412cf401d87a16ca146b88e0c86f50f62b8750e6b9f9c691eaecd10", func := "loop.example/g01233/laws.FnExactSquaresByTakes", spec := "fnExactSquaresByTakes", unfollowed := true, recurses := true, named := ["math/bits.deBruijn64tab"], apart := false, laid := [("math/bits.deBruijn64tab", laid_math_bits_deBruijn64tab)] }
def FnExactSquaresByTakesSaid : Prop := fnExactSquaresByTakesRow.holds Tryd.pinned (OpenSpec.ofChange fnExactSquaresByTakesSpec)

/-- ITS FALSE NEIGHBOUR: 'it returns false'. Refute it at one input. -/
def fnExactSquaresByTakesWrong : ChangeSpec := { name := "fnExactSquaresByTakes", fn := fun _ => fun
  | [d1, d2] => { results := [.lit (.bool false)], args := [d1, d2] }
  | _ => none }
def FnExactSquaresByTakesWrongFalsely : Prop := fnExactSquaresByTakesRow.holds Tryd.pinned (OpenSpec.ofChange fnExactSquaresByTakesWrong)

/- THE SECOND FORM. 'bulk': how many values and letters a reading holds, each counted each time it is reached (what is shared counts as often as it is met; a slice's spare places count too). A statement '..UptoSaid' is the law's where the arguments, and the package variables that the reading takes, are together of bulk at most 1048576: NARROWER than '..Said'. Prove '..Said' where nothing that the law and all that it calls make is longer than what came in: it says more and counts as full. Else prove '..UptoSaid'. A law counts once. -/
mutual
def uptoBulk {H : Type} : DataW H → Nat
  | .lit (.string bytes) => bytes.length + 1
  | .lit _ => 1
  | .nil => 1
  | .ptr d => uptoBulk d + 1
  | .slice elems spare => uptoBulkAll elems + uptoBulkAll spare + 1
  | .agg parts => uptoBulkAll parts + 1
  | .iface _ d => uptoBulk d + 1
  | .map entries => uptoBulkEntries entries + 1
  | .held _ => 1
def uptoBulkAll {H : Type} : List (DataW H) → Nat
  | [] => 0
  | d :: r => uptoBulk d + uptoBulkAll r
def uptoBulkEntries {H : Type} : List (Lit × DataW H) → Nat
  | [] => 0
  | x :: r => uptoBulkEntry x + uptoBulkEntries r
def uptoBulkEntry {H : Type} : Lit × DataW H → Nat
  | (.string bytes, d) => bytes.length + uptoBulk d + 1
  | (_, d) => uptoBulk d + 1
 end
def uptoSmall : (H : Type) → List (DataW H) → Bool := fun _ ds => decide (uptoBulkAll ds ≤ 1048576)
def OpenSpec.upto (s : _root_.Go.ChangeSpec) : _root_.Go.OpenSpec := { _root_.Go.OpenSpec.ofChange s with cond := some uptoSmall }

/-- 'laws.FnExactCountMoves', WHERE WHAT IT READS IS OF BULK AT MOST 1048576: true; the input reads as it did. -/
def fnExactCountMovesUptoRow : OpenClaim := { program := "ytgakmcoeccmkbaadoor", sum := "516129862412cf401d87a16ca146b88e0c86f50f62b8750e6b9f9c691eaecd10", func := "loop.example/g01233/laws.FnExactCountMoves", spec := "fnExactCountMoves", unfollowed := true, recurses := true, named := ["math/bits.deBruijn64tab"], apart := false, laid := [("math/bits.deBruijn64tab", laid_math_bits_deBruijn64tab)], narrowed := true }
def FnExactCountMovesUptoSaid : Prop := fnExactCountMovesUptoRow.holds Tryd.pinned (OpenSpec.upto fnExactCountMovesSpec)

/-- 'laws.FnExactCountTakes', WHERE WHAT IT READS IS OF BULK AT MOST 1048576: true; the input reads as it did. -/
def fnExactCountTakesUptoRow : OpenClaim := { program := "ytgakmcoeccmkbaadoor", sum := "516129862412cf401d87a16ca146b88e0c86f50f62b8750e6b9f9c691eaecd10", func := "loop.example/g01233/laws.FnExactCountTakes", spec := "fnExactCountTakes", unfollowed := true, recurses := true, named := ["math/bits.deBruijn64tab"], apart := false, laid := [("math/bits.deBruijn64tab", laid_math_bits_deBruijn64tab)], narrowed := true }
def FnExactCountTakesUptoSaid : Prop := fnExactCountTakesUptoRow.holds Tryd.pinned (OpenSpec.upto fnExactCountTakesSpec)

/-- 'laws.FnExactCountTidyMoves', WHERE WHAT IT READS IS OF BULK AT MOST 1048576: true; the input reads as it did. -/
def fnExactCountTidyMovesUptoRow : OpenClaim := { program := "ytgakmcoeccmkbaadoor", sum := "516129862412cf401d87a16ca146b88e0c86f50f62b8750e6b9f9c691eaecd10", func := "loop.example/g01233/laws.FnExactCountTidyMoves", spec := "fnExactCountTidyMoves", unfollowed := true, recurses := true, named := ["math/bits.deBruijn64tab"], apart := false, laid := [("math/bits.deBruijn64tab", laid_math_bits_deBruijn64tab)], narrowed := true }
def FnExactCountTidyMovesUptoSaid : Prop := fnExactCountTidyMovesUptoRow.holds Tryd.pinned (OpenSpec.upto fnExactCountTidyMovesSpec)

/-- 'laws.FnExactCountTidyTakes', WHERE WHAT IT READS IS OF BULK AT MOST 1048576: true; the input reads as it did. -/
def fnExactCountTidyTakesUptoRow : OpenClaim := { program := "ytgakmcoeccmkbaadoor", sum := "516129862412cf401d87a16ca146b88e0c86f50f62b8750e6b9f9c691eaecd10", func := "loop.example/g01233/laws.FnExactCountTidyTakes", spec := "fnExactCountTidyTakes", unfollowed := true, recurses := true, named := ["math/bits.deBruijn64tab"], apart := false, laid := [("math/bits.deBruijn64tab", laid_math_bits_deBruijn64tab)], narrowed := true }
def FnExactCountTidyTakesUptoSaid : Prop := fnExactCountTidyTakesUptoRow.holds Tryd.pinned (OpenSpec.upto fnExactCountTidyTakesSpec)

/-- 'laws.FnExactFewestMoves', WHERE WHAT IT READS IS OF BULK AT MOST 1048576: true; the input reads as it did. -/
def fnExactFewestMovesUptoRow : OpenClaim := { program := "ytgakmcoeccmkbaadoor", sum := "516129862412cf401d87a16ca146b88e0c86f50f62b8750e6b9f9c691eaecd10", func := "loop.example/g01233/laws.FnExactFewestMoves", spec := "fnExactFewestMoves", unfollowed := true, recurses := true, named := ["math/bits.deBruijn64tab"], apart := false, laid := [("math/bits.deBruijn64tab", laid_math_bits_deBruijn64tab)], narrowed := true }
def FnExactFewestMovesUptoSaid : Prop := fnExactFewestMovesUptoRow.holds Tryd.pinned (OpenSpec.upto fnExactFewestMovesSpec)

/-- 'laws.FnExactFewestTakes', WHERE WHAT IT READS IS OF BULK AT MOST 1048576: true; the input reads as it did. -/
def fnExactFewestTakesUptoRow : OpenClaim := { program := "ytgakmcoeccmkbaadoor", sum := "516129862412cf401d87a16ca146b88e0c86f50f62b8750e6b9f9c691eaecd10", func := "loop.example/g01233/laws.FnExactFewestTakes", spec := "fnExactFewestTakes", unfollowed := true, recurses := true, named := ["math/bits.deBruijn64tab"], apart := false, laid := [("math/bits.deBruijn64tab", laid_math_bits_deBruijn64tab)], narrowed := true }
def FnExactFewestTakesUptoSaid : Prop := fnExactFewestTakesUptoRow.holds Tryd.pinned (OpenSpec.upto fnExactFewestTakesSpec)

/-- 'laws.FnExactSquaresByMoves', WHERE WHAT IT READS IS OF BULK AT MOST 1048576: true; the input reads as it did. -/
def fnExactSquaresByMovesUptoRow : OpenClaim := { program := "ytgakmcoeccmkbaadoor", sum := "516129862412cf401d87a16ca146b88e0c86f50f62b8750e6b9f9c691eaecd10", func := "loop.example/g01233/laws.FnExactSquaresByMoves", spec := "fnExactSquaresByMoves", unfollowed := true, recurses := true, named := ["math/bits.deBruijn64tab"], apart := false, laid := [("math/bits.deBruijn64tab", laid_math_bits_deBruijn64tab)], narrowed := true }
def FnExactSquaresByMovesUptoSaid : Prop := fnExactSquaresByMovesUptoRow.holds Tryd.pinned (OpenSpec.upto fnExactSquaresByMovesSpec)

/-- 'laws.FnExactSquaresByTakes', WHERE WHAT IT READS IS OF BULK AT MOST 1048576: true; the input reads as it did. -/
def fnExactSquaresByTakesUptoRow : OpenClaim := { program := "ytgakmcoeccmkbaadoor", sum := "516129862412cf401d87a16ca146b88e0c86f50f62b8750e6b9f9c691eaecd10", func := "loop.example/g01233/laws.FnExactSquaresByTakes", spec := "fnExactSquaresByTakes", unfollowed := true, recurses := true, named := ["math/bits.deBruijn64tab"], apart := false, laid := [("math/bits.deBruijn64tab", laid_math_bits_deBruijn64tab)], narrowed := true }
def FnExactSquaresByTakesUptoSaid : Prop := fnExactSquaresByTakesUptoRow.holds Tryd.pinned (OpenSpec.upto fnExactSquaresByTakesSpec)

end Rows
end Go.Proofs.YtgakmcoeccmkbaaDoor
