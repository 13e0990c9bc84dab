/-
  No cell of these rows narrows 'for every input' (looked for: loops, veiled, ifaces, maps, wideKeys, modest, calm, conditions, laid).
  DERIVED. THE GIVEN ROWS OF THIS SEAT. 16 by the template 'for every input the law returns true; each argument reads behind the call as it read before'; 0 by the template 'total and deterministic' (their statements: YtjhndaehdbjgkaaTotals.lean).
  GIVEN WITH THE SEED: the statements are not yours to turn. If you find one false, say at which input.
  Laid BY PROGRAM, IN A SANDBOX (cutbox-rows.mjs): the forced cells as the released guide's own fill.sh prints them over the translation 2cb46a79d8e26b2e… (all of the seat's roots in one cut). By AI agents, Wed Nov 11 2026. No macro, syntax, notation, axiom, sorry.
-/
import Derived.Test.YtjhndaehdbjgkaaChecked
import GoSem.Claim
import GoSem.ClaimJoined
import GoSem.ClaimMapViews
import Derived.JoinedTies
import Derived.KernelRfl
namespace Go.Proofs.Ytjhndaehdbjgkaa
/- THE CELL 'sum', in the pinned program and in every row, IS THE sha256 OF THE DUMP (.gsa) THAT YtjhndaehdbjgkaaProg.lean LOADS. Nothing in Lean hashes anything: it is a label: what it is worth is what the hold of that sum in a sandbox is worth. -/
noncomputable def Try.pinned : Pinned := { name := "ytjhndaehdbjgkaa", sum := "2cb46a79d8e26b2e46fc20ac9227eabd615f3b283b983cd86e8f77aa5609857a", checked := Try.checked }
namespace Rows
def none {H : Type} : Left H := { results := [], args := [] }

/-- 'laws.FnExactInnerMatches': WHATEVER THE INPUT: true; the input reads as it did. -/
def fnExactInnerMatchesSpec : ChangeSpec := { name := "fnExactInnerMatches", fn := fun _ => fun
  | [d] => { results := [.lit (.bool true)], args := [d] }
  | _ => none }
def fnExactInnerMatchesRow : OpenClaim := { program := "ytjhndaehdbjgkaa", sum := "2cb46a79d8e26b2e46fc20ac9227eabd615f3b283b983cd86e8f77aa5609857a", func := "loop.example/g01233/laws.FnExactInnerMatches", spec := "fnExactInnerMatches", unfollowed := true, recurses := true, plainKeys := false, apart := false }
def FnExactInnerMatchesSaid : Prop := fnExactInnerMatchesRow.holds Try.pinned (OpenSpec.ofChange fnExactInnerMatchesSpec)

/-- ITS FALSE NEIGHBOUR: 'it returns false'. Refute it at one input. -/
def fnExactInnerMatchesWrong : ChangeSpec := { name := "fnExactInnerMatches", fn := fun _ => fun
  | [d] => { results := [.lit (.bool false)], args := [d] }
  | _ => none }
def FnExactInnerMatchesWrongFalsely : Prop := fnExactInnerMatchesRow.holds Try.pinned (OpenSpec.ofChange fnExactInnerMatchesWrong)

/-- 'laws.FnExactShortestPath': WHATEVER THE INPUT: true; the input reads as it did. -/
def fnExactShortestPathSpec : ChangeSpec := { name := "fnExactShortestPath", fn := fun _ => fun
  | [d1, d2, d3] => { results := [.lit (.bool true)], args := [d1, d2, d3] }
  | _ => none }
def fnExactShortestPathRow : OpenClaim := { program := "ytjhndaehdbjgkaa", sum := "2cb46a79d8e26b2e46fc20ac9227eabd615f3b283b983cd86e8f77aa5609857a", func := "loop.example/g01233/laws.FnExactShortestPath", spec := "fnExactShortestPath", unfollowed := true, recurses := true, plainKeys := false, apart := false }
def FnExactShortestPathSaid : Prop := fnExactShortestPathRow.holds Try.pinned (OpenSpec.ofChange fnExactShortestPathSpec)

/-- ITS FALSE NEIGHBOUR: 'it returns false'. Refute it at one input. -/
def fnExactShortestPathWrong : ChangeSpec := { name := "fnExactShortestPath", fn := fun _ => fun
  | [d1, d2, d3] => { results := [.lit (.bool false)], args := [d1, d2, d3] }
  | _ => none }
def FnExactShortestPathWrongFalsely : Prop := fnExactShortestPathRow.holds Try.pinned (OpenSpec.ofChange fnExactShortestPathWrong)

/-- 'laws.FnExactFigureText': WHATEVER THE INPUT: true; the input reads as it did. -/
def fnExactFigureTextSpec : ChangeSpec := { name := "fnExactFigureText", fn := fun _ => fun
  | [d] => { results := [.lit (.bool true)], args := [d] }
  | _ => none }
def fnExactFigureTextRow : OpenClaim := { program := "ytjhndaehdbjgkaa", sum := "2cb46a79d8e26b2e46fc20ac9227eabd615f3b283b983cd86e8f77aa5609857a", func := "loop.example/g01233/laws.FnExactFigureText", spec := "fnExactFigureText", inPlace := ["internal/abi.NoEscape", "internal/bytealg.MakeNoZero"], unfollowed := true, recurses := true, plainKeys := false, apart := false }
def FnExactFigureTextSaid : Prop := fnExactFigureTextRow.holds Try.pinned (OpenSpec.ofChange fnExactFigureTextSpec)

/-- ITS FALSE NEIGHBOUR: 'it returns false'. Refute it at one input. -/
def fnExactFigureTextWrong : ChangeSpec := { name := "fnExactFigureText", fn := fun _ => fun
  | [d] => { results := [.lit (.bool false)], args := [d] }
  | _ => none }
def FnExactFigureTextWrongFalsely : Prop := fnExactFigureTextRow.holds Try.pinned (OpenSpec.ofChange fnExactFigureTextWrong)

/-- 'laws.FnExactSquaresOf': WHATEVER THE INPUT: true; the input reads as it did. -/
def fnExactSquaresOfSpec : ChangeSpec := { name := "fnExactSquaresOf", fn := fun _ => fun
  | [d] => { results := [.lit (.bool true)], args := [d] }
  | _ => none }
def fnExactSquaresOfRow : OpenClaim := { program := "ytjhndaehdbjgkaa", sum := "2cb46a79d8e26b2e46fc20ac9227eabd615f3b283b983cd86e8f77aa5609857a", func := "loop.example/g01233/laws.FnExactSquaresOf", spec := "fnExactSquaresOf", unfollowed := true, recurses := true, plainKeys := false, apart := false }
def FnExactSquaresOfSaid : Prop := fnExactSquaresOfRow.holds Try.pinned (OpenSpec.ofChange fnExactSquaresOfSpec)

/-- ITS FALSE NEIGHBOUR: 'it returns false'. Refute it at one input. -/
def fnExactSquaresOfWrong : ChangeSpec := { name := "fnExactSquaresOf", fn := fun _ => fun
  | [d] => { results := [.lit (.bool false)], args := [d] }
  | _ => none }
def FnExactSquaresOfWrongFalsely : Prop := fnExactSquaresOfRow.holds Try.pinned (OpenSpec.ofChange fnExactSquaresOfWrong)

/-- 'laws.FnExactSquaresThrough': WHATEVER THE INPUT: true; the input reads as it did. -/
def fnExactSquaresThroughSpec : ChangeSpec := { name := "fnExactSquaresThrough", fn := fun _ => fun
  | [d1, d2, d3, d4] => { results := [.lit (.bool true)], args := [d1, d2, d3, d4] }
  | _ => none }
def fnExactSquaresThroughRow : OpenClaim := { program := "ytjhndaehdbjgkaa", sum := "2cb46a79d8e26b2e46fc20ac9227eabd615f3b283b983cd86e8f77aa5609857a", func := "loop.example/g01233/laws.FnExactSquaresThrough", spec := "fnExactSquaresThrough", unfollowed := true, recurses := true, plainKeys := false, apart := false }
def FnExactSquaresThroughSaid : Prop := fnExactSquaresThroughRow.holds Try.pinned (OpenSpec.ofChange fnExactSquaresThroughSpec)

/-- ITS FALSE NEIGHBOUR: 'it returns false'. Refute it at one input. -/
def fnExactSquaresThroughWrong : ChangeSpec := { name := "fnExactSquaresThrough", fn := fun _ => fun
  | [d1, d2, d3, d4] => { results := [.lit (.bool false)], args := [d1, d2, d3, d4] }
  | _ => none }
def FnExactSquaresThroughWrongFalsely : Prop := fnExactSquaresThroughRow.holds Try.pinned (OpenSpec.ofChange fnExactSquaresThroughWrong)

/-- 'laws.FnExactRegionsOf': WHATEVER THE INPUT: true; the input reads as it did. -/
def fnExactRegionsOfSpec : ChangeSpec := { name := "fnExactRegionsOf", fn := fun _ => fun
  | [d] => { results := [.lit (.bool true)], args := [d] }
  | _ => none }
def fnExactRegionsOfRow : OpenClaim := { program := "ytjhndaehdbjgkaa", sum := "2cb46a79d8e26b2e46fc20ac9227eabd615f3b283b983cd86e8f77aa5609857a", func := "loop.example/g01233/laws.FnExactRegionsOf", spec := "fnExactRegionsOf", unfollowed := true, recurses := true, plainKeys := false, apart := false }
def FnExactRegionsOfSaid : Prop := fnExactRegionsOfRow.holds Try.pinned (OpenSpec.ofChange fnExactRegionsOfSpec)

/-- ITS FALSE NEIGHBOUR: 'it returns false'. Refute it at one input. -/
def fnExactRegionsOfWrong : ChangeSpec := { name := "fnExactRegionsOf", fn := fun _ => fun
  | [d] => { results := [.lit (.bool false)], args := [d] }
  | _ => none }
def FnExactRegionsOfWrongFalsely : Prop := fnExactRegionsOfRow.holds Try.pinned (OpenSpec.ofChange fnExactRegionsOfWrong)

/-- 'laws.FnExactLooseEnds': WHATEVER THE INPUT: true; the input reads as it did. -/
def fnExactLooseEndsSpec : ChangeSpec := { name := "fnExactLooseEnds", fn := fun _ => fun
  | [d] => { results := [.lit (.bool true)], args := [d] }
  | _ => none }
def fnExactLooseEndsRow : OpenClaim := { program := "ytjhndaehdbjgkaa", sum := "2cb46a79d8e26b2e46fc20ac9227eabd615f3b283b983cd86e8f77aa5609857a", func := "loop.example/g01233/laws.FnExactLooseEnds", spec := "fnExactLooseEnds", unfollowed := true, recurses := true, plainKeys := false, apart := false }
def FnExactLooseEndsSaid : Prop := fnExactLooseEndsRow.holds Try.pinned (OpenSpec.ofChange fnExactLooseEndsSpec)

/-- ITS FALSE NEIGHBOUR: 'it returns false'. Refute it at one input. -/
def fnExactLooseEndsWrong : ChangeSpec := { name := "fnExactLooseEnds", fn := fun _ => fun
  | [d] => { results := [.lit (.bool false)], args := [d] }
  | _ => none }
def FnExactLooseEndsWrongFalsely : Prop := fnExactLooseEndsRow.holds Try.pinned (OpenSpec.ofChange fnExactLooseEndsWrong)

/-- 'laws.FnExactCornersUsed': WHATEVER THE INPUT: true; the input reads as it did. -/
def fnExactCornersUsedSpec : ChangeSpec := { name := "fnExactCornersUsed", fn := fun _ => fun
  | [d] => { results := [.lit (.bool true)], args := [d] }
  | _ => none }
def fnExactCornersUsedRow : OpenClaim := { program := "ytjhndaehdbjgkaa", sum := "2cb46a79d8e26b2e46fc20ac9227eabd615f3b283b983cd86e8f77aa5609857a", func := "loop.example/g01233/laws.FnExactCornersUsed", spec := "fnExactCornersUsed", unfollowed := true, recurses := true, plainKeys := false, apart := false }
def FnExactCornersUsedSaid : Prop := fnExactCornersUsedRow.holds Try.pinned (OpenSpec.ofChange fnExactCornersUsedSpec)

/-- ITS FALSE NEIGHBOUR: 'it returns false'. Refute it at one input. -/
def fnExactCornersUsedWrong : ChangeSpec := { name := "fnExactCornersUsed", fn := fun _ => fun
  | [d] => { results := [.lit (.bool false)], args := [d] }
  | _ => none }
def FnExactCornersUsedWrongFalsely : Prop := fnExactCornersUsedRow.holds Try.pinned (OpenSpec.ofChange fnExactCornersUsedWrong)

/-- 'laws.FnExactOddCorners': WHATEVER THE INPUT: true; the input reads as it did. -/
def fnExactOddCornersSpec : ChangeSpec := { name := "fnExactOddCorners", fn := fun _ => fun
  | [d] => { results := [.lit (.bool true)], args := [d] }
  | _ => none }
def fnExactOddCornersRow : OpenClaim := { program := "ytjhndaehdbjgkaa", sum := "2cb46a79d8e26b2e46fc20ac9227eabd615f3b283b983cd86e8f77aa5609857a", func := "loop.example/g01233/laws.FnExactOddCorners", spec := "fnExactOddCorners", unfollowed := true, recurses := true, plainKeys := false, apart := false }
def FnExactOddCornersSaid : Prop := fnExactOddCornersRow.holds Try.pinned (OpenSpec.ofChange fnExactOddCornersSpec)

/-- ITS FALSE NEIGHBOUR: 'it returns false'. Refute it at one input. -/
def fnExactOddCornersWrong : ChangeSpec := { name := "fnExactOddCorners", fn := fun _ => fun
  | [d] => { results := [.lit (.bool false)], args := [d] }
  | _ => none }
def FnExactOddCornersWrongFalsely : Prop := fnExactOddCornersRow.holds Try.pinned (OpenSpec.ofChange fnExactOddCornersWrong)

/-- 'laws.FnExactCountHoles': WHATEVER THE INPUT: true; the input reads as it did. -/
def fnExactCountHolesSpec : ChangeSpec := { name := "fnExactCountHoles", fn := fun _ => fun
  | [d] => { results := [.lit (.bool true)], args := [d] }
  | _ => none }
def fnExactCountHolesRow : OpenClaim := { program := "ytjhndaehdbjgkaa", sum := "2cb46a79d8e26b2e46fc20ac9227eabd615f3b283b983cd86e8f77aa5609857a", func := "loop.example/g01233/laws.FnExactCountHoles", spec := "fnExactCountHoles", unfollowed := true, recurses := true, plainKeys := false, apart := false }
def FnExactCountHolesSaid : Prop := fnExactCountHolesRow.holds Try.pinned (OpenSpec.ofChange fnExactCountHolesSpec)

/-- ITS FALSE NEIGHBOUR: 'it returns false'. Refute it at one input. -/
def fnExactCountHolesWrong : ChangeSpec := { name := "fnExactCountHoles", fn := fun _ => fun
  | [d] => { results := [.lit (.bool false)], args := [d] }
  | _ => none }
def FnExactCountHolesWrongFalsely : Prop := fnExactCountHolesRow.holds Try.pinned (OpenSpec.ofChange fnExactCountHolesWrong)

/-- 'laws.FnExactIsRingFigure': WHATEVER THE INPUT: true; the input reads as it did. -/
def fnExactIsRingFigureSpec : ChangeSpec := { name := "fnExactIsRingFigure", fn := fun _ => fun
  | [d] => { results := [.lit (.bool true)], args := [d] }
  | _ => none }
def fnExactIsRingFigureRow : OpenClaim := { program := "ytjhndaehdbjgkaa", sum := "2cb46a79d8e26b2e46fc20ac9227eabd615f3b283b983cd86e8f77aa5609857a", func := "loop.example/g01233/laws.FnExactIsRingFigure", spec := "fnExactIsRingFigure", unfollowed := true, recurses := true, plainKeys := false, apart := false }
def FnExactIsRingFigureSaid : Prop := fnExactIsRingFigureRow.holds Try.pinned (OpenSpec.ofChange fnExactIsRingFigureSpec)

/-- ITS FALSE NEIGHBOUR: 'it returns false'. Refute it at one input. -/
def fnExactIsRingFigureWrong : ChangeSpec := { name := "fnExactIsRingFigure", fn := fun _ => fun
  | [d] => { results := [.lit (.bool false)], args := [d] }
  | _ => none }
def FnExactIsRingFigureWrongFalsely : Prop := fnExactIsRingFigureRow.holds Try.pinned (OpenSpec.ofChange fnExactIsRingFigureWrong)

/-- 'laws.FnExactCanStroke': WHATEVER THE INPUT: true; the input reads as it did. -/
def fnExactCanStrokeSpec : ChangeSpec := { name := "fnExactCanStroke", fn := fun _ => fun
  | [d] => { results := [.lit (.bool true)], args := [d] }
  | _ => none }
def fnExactCanStrokeRow : OpenClaim := { program := "ytjhndaehdbjgkaa", sum := "2cb46a79d8e26b2e46fc20ac9227eabd615f3b283b983cd86e8f77aa5609857a", func := "loop.example/g01233/laws.FnExactCanStroke", spec := "fnExactCanStroke", unfollowed := true, recurses := true, plainKeys := false, apart := false }
def FnExactCanStrokeSaid : Prop := fnExactCanStrokeRow.holds Try.pinned (OpenSpec.ofChange fnExactCanStrokeSpec)

/-- ITS FALSE NEIGHBOUR: 'it returns false'. Refute it at one input. -/
def fnExactCanStrokeWrong : ChangeSpec := { name := "fnExactCanStroke", fn := fun _ => fun
  | [d] => { results := [.lit (.bool false)], args := [d] }
  | _ => none }
def FnExactCanStrokeWrongFalsely : Prop := fnExactCanStrokeRow.holds Try.pinned (OpenSpec.ofChange fnExactCanStrokeWrong)

/-- 'laws.FnExactLeastStrokes': WHATEVER THE INPUT: true; the input reads as it did. -/
def fnExactLeastStrokesSpec : ChangeSpec := { name := "fnExactLeastStrokes", fn := fun _ => fun
  | [d] => { results := [.lit (.bool true)], args := [d] }
  | _ => none }
def fnExactLeastStrokesRow : OpenClaim := { program := "ytjhndaehdbjgkaa", sum := "2cb46a79d8e26b2e46fc20ac9227eabd615f3b283b983cd86e8f77aa5609857a", func := "loop.example/g01233/laws.FnExactLeastStrokes", spec := "fnExactLeastStrokes", unfollowed := true, recurses := true, plainKeys := false, apart := false }
def FnExactLeastStrokesSaid : Prop := fnExactLeastStrokesRow.holds Try.pinned (OpenSpec.ofChange fnExactLeastStrokesSpec)

/-- ITS FALSE NEIGHBOUR: 'it returns false'. Refute it at one input. -/
def fnExactLeastStrokesWrong : ChangeSpec := { name := "fnExactLeastStrokes", fn := fun _ => fun
  | [d] => { results := [.lit (.bool false)], args := [d] }
  | _ => none }
def FnExactLeastStrokesWrongFalsely : Prop := fnExactLeastStrokesRow.holds Try.pinned (OpenSpec.ofChange fnExactLeastStrokesWrong)

/-- 'laws.FnExactIsTreeFigure': WHATEVER THE INPUT: true; the input reads as it did. -/
def fnExactIsTreeFigureSpec : ChangeSpec := { name := "fnExactIsTreeFigure", fn := fun _ => fun
  | [d] => { results := [.lit (.bool true)], args := [d] }
  | _ => none }
def fnExactIsTreeFigureRow : OpenClaim := { program := "ytjhndaehdbjgkaa", sum := "2cb46a79d8e26b2e46fc20ac9227eabd615f3b283b983cd86e8f77aa5609857a", func := "loop.example/g01233/laws.FnExactIsTreeFigure", spec := "fnExactIsTreeFigure", unfollowed := true, recurses := true, plainKeys := false, apart := false }
def FnExactIsTreeFigureSaid : Prop := fnExactIsTreeFigureRow.holds Try.pinned (OpenSpec.ofChange fnExactIsTreeFigureSpec)

/-- ITS FALSE NEIGHBOUR: 'it returns false'. Refute it at one input. -/
def fnExactIsTreeFigureWrong : ChangeSpec := { name := "fnExactIsTreeFigure", fn := fun _ => fun
  | [d] => { results := [.lit (.bool false)], args := [d] }
  | _ => none }
def FnExactIsTreeFigureWrongFalsely : Prop := fnExactIsTreeFigureRow.holds Try.pinned (OpenSpec.ofChange fnExactIsTreeFigureWrong)

/-- 'laws.FnExactFirstStroke': WHATEVER THE INPUT: true; the input reads as it did. -/
def fnExactFirstStrokeSpec : ChangeSpec := { name := "fnExactFirstStroke", fn := fun _ => fun
  | [d] => { results := [.lit (.bool true)], args := [d] }
  | _ => none }
def fnExactFirstStrokeRow : OpenClaim := { program := "ytjhndaehdbjgkaa", sum := "2cb46a79d8e26b2e46fc20ac9227eabd615f3b283b983cd86e8f77aa5609857a", func := "loop.example/g01233/laws.FnExactFirstStroke", spec := "fnExactFirstStroke", unfollowed := true, recurses := true, plainKeys := false, apart := false }
def FnExactFirstStrokeSaid : Prop := fnExactFirstStrokeRow.holds Try.pinned (OpenSpec.ofChange fnExactFirstStrokeSpec)

/-- ITS FALSE NEIGHBOUR: 'it returns false'. Refute it at one input. -/
def fnExactFirstStrokeWrong : ChangeSpec := { name := "fnExactFirstStroke", fn := fun _ => fun
  | [d] => { results := [.lit (.bool false)], args := [d] }
  | _ => none }
def FnExactFirstStrokeWrongFalsely : Prop := fnExactFirstStrokeRow.holds Try.pinned (OpenSpec.ofChange fnExactFirstStrokeWrong)

/-- 'laws.FnExactLoopOfFigure': WHATEVER THE INPUT: true; the input reads as it did. -/
def fnExactLoopOfFigureSpec : ChangeSpec := { name := "fnExactLoopOfFigure", fn := fun _ => fun
  | [d] => { results := [.lit (.bool true)], args := [d] }
  | _ => none }
def fnExactLoopOfFigureRow : OpenClaim := { program := "ytjhndaehdbjgkaa", sum := "2cb46a79d8e26b2e46fc20ac9227eabd615f3b283b983cd86e8f77aa5609857a", func := "loop.example/g01233/laws.FnExactLoopOfFigure", spec := "fnExactLoopOfFigure", inPlace := ["internal/bytealg.IndexByteString"], unfollowed := true, recurses := true, plainKeys := false, apart := false }
def FnExactLoopOfFigureSaid : Prop := fnExactLoopOfFigureRow.holds Try.pinned (OpenSpec.ofChange fnExactLoopOfFigureSpec)

/-- ITS FALSE NEIGHBOUR: 'it returns false'. Refute it at one input. -/
def fnExactLoopOfFigureWrong : ChangeSpec := { name := "fnExactLoopOfFigure", fn := fun _ => fun
  | [d] => { results := [.lit (.bool false)], args := [d] }
  | _ => none }
def FnExactLoopOfFigureWrongFalsely : Prop := fnExactLoopOfFigureRow.holds Try.pinned (OpenSpec.ofChange fnExactLoopOfFigureWrong)

/- THE SECOND FORM. 'bulk': how many values and letters a reading holds, each counted each time it is reached (what is shared counts as often as it is met; a slice's spare places count too). A statement '..UptoSaid' is the law's where the arguments, and the package variables that the reading takes, are together of bulk at most 1048576: NARROWER than '..Said'. Prove '..Said' where nothing that the law and all that it calls make is longer than what came in: it says more and counts as full. Else prove '..UptoSaid'. A law counts once. -/
mutual
def uptoBulk {H : Type} : DataW H → Nat
  | .lit (.string bytes) => bytes.length + 1
  | .lit _ => 1
  | .nil => 1
  | .ptr d => uptoBulk d + 1
  | .slice elems spare => uptoBulkAll elems + uptoBulkAll spare + 1
  | .agg parts => uptoBulkAll parts + 1
  | .iface _ d => uptoBulk d + 1
  | .map entries => uptoBulkEntries entries + 1
  | .held _ => 1
def uptoBulkAll {H : Type} : List (DataW H) → Nat
  | [] => 0
  | d :: r => uptoBulk d + uptoBulkAll r
def uptoBulkEntries {H : Type} : List (Lit × DataW H) → Nat
  | [] => 0
  | x :: r => uptoBulkEntry x + uptoBulkEntries r
def uptoBulkEntry {H : Type} : Lit × DataW H → Nat
  | (.string bytes, d) => bytes.length + uptoBulk d + 1
  | (_, d) => uptoBulk d + 1
 end
def uptoSmall : (H : Type) → List (DataW H) → Bool := fun _ ds => decide (uptoBulkAll ds ≤ 1048576)
def OpenSpec.upto (s : _root_.Go.ChangeSpec) : _root_.Go.OpenSpec := { _root_.Go.OpenSpec.ofChange s with cond := some uptoSmall }

/-- 'laws.FnExactInnerMatches', WHERE WHAT IT READS IS OF BULK AT MOST 1048576: true; the input reads as it did. -/
def fnExactInnerMatchesUptoRow : OpenClaim := { program := "ytjhndaehdbjgkaa", sum := "2cb46a79d8e26b2e46fc20ac9227eabd615f3b283b983cd86e8f77aa5609857a", func := "loop.example/g01233/laws.FnExactInnerMatches", spec := "fnExactInnerMatches", unfollowed := true, recurses := true, plainKeys := false, apart := false, narrowed := true }
def FnExactInnerMatchesUptoSaid : Prop := fnExactInnerMatchesUptoRow.holds Try.pinned (OpenSpec.upto fnExactInnerMatchesSpec)

/-- 'laws.FnExactShortestPath', WHERE WHAT IT READS IS OF BULK AT MOST 1048576: true; the input reads as it did. -/
def fnExactShortestPathUptoRow : OpenClaim := { program := "ytjhndaehdbjgkaa", sum := "2cb46a79d8e26b2e46fc20ac9227eabd615f3b283b983cd86e8f77aa5609857a", func := "loop.example/g01233/laws.FnExactShortestPath", spec := "fnExactShortestPath", unfollowed := true, recurses := true, plainKeys := false, apart := false, narrowed := true }
def FnExactShortestPathUptoSaid : Prop := fnExactShortestPathUptoRow.holds Try.pinned (OpenSpec.upto fnExactShortestPathSpec)

/-- 'laws.FnExactFigureText', WHERE WHAT IT READS IS OF BULK AT MOST 1048576: true; the input reads as it did. -/
def fnExactFigureTextUptoRow : OpenClaim := { program := "ytjhndaehdbjgkaa", sum := "2cb46a79d8e26b2e46fc20ac9227eabd615f3b283b983cd86e8f77aa5609857a", func := "loop.example/g01233/laws.FnExactFigureText", spec := "fnExactFigureText", inPlace := ["internal/abi.NoEscape", "internal/bytealg.MakeNoZero"], unfollowed := true, recurses := true, plainKeys := false, apart := false, narrowed := true }
def FnExactFigureTextUptoSaid : Prop := fnExactFigureTextUptoRow.holds Try.pinned (OpenSpec.upto fnExactFigureTextSpec)

/-- 'laws.FnExactSquaresOf', WHERE WHAT IT READS IS OF BULK AT MOST 1048576: true; the input reads as it did. -/
def fnExactSquaresOfUptoRow : OpenClaim := { program := "ytjhndaehdbjgkaa", sum := "2cb46a79d8e26b2e46fc20ac9227eabd615f3b283b983cd86e8f77aa5609857a", func := "loop.example/g01233/laws.FnExactSquaresOf", spec := "fnExactSquaresOf", unfollowed := true, recurses := true, plainKeys := false, apart := false, narrowed := true }
def FnExactSquaresOfUptoSaid : Prop := fnExactSquaresOfUptoRow.holds Try.pinned (OpenSpec.upto fnExactSquaresOfSpec)

/-- 'laws.FnExactSquaresThrough', WHERE WHAT IT READS IS OF BULK AT MOST 1048576: true; the input reads as it did. -/
def fnExactSquaresThroughUptoRow : OpenClaim := { program := "ytjhndaehdbjgkaa", sum := "2cb46a79d8e26b2e46fc20ac9227eabd615f3b283b983cd86e8f77aa5609857a", func := "loop.example/g01233/laws.FnExactSquaresThrough", spec := "fnExactSquaresThrough", unfollowed := true, recurses := true, plainKeys := false, apart := false, narrowed := true }
def FnExactSquaresThroughUptoSaid : Prop := fnExactSquaresThroughUptoRow.holds Try.pinned (OpenSpec.upto fnExactSquaresThroughSpec)

/-- 'laws.FnExactRegionsOf', WHERE WHAT IT READS IS OF BULK AT MOST 1048576: true; the input reads as it did. -/
def fnExactRegionsOfUptoRow : OpenClaim := { program := "ytjhndaehdbjgkaa", sum := "2cb46a79d8e26b2e46fc20ac9227eabd615f3b283b983cd86e8f77aa5609857a", func := "loop.example/g01233/laws.FnExactRegionsOf", spec := "fnExactRegionsOf", unfollowed := true, recurses := true, plainKeys := false, apart := false, narrowed := true }
def FnExactRegionsOfUptoSaid : Prop := fnExactRegionsOfUptoRow.holds Try.pinned (OpenSpec.upto fnExactRegionsOfSpec)

/-- 'laws.FnExactLooseEnds', WHERE WHAT IT READS IS OF BULK AT MOST 1048576: true; the input reads as it did. -/
def fnExactLooseEndsUptoRow : OpenClaim := { program := "ytjhndaehdbjgkaa", sum := "2cb46a79d8e26b2e46fc20ac9227eabd615f3b283b983cd86e8f77aa5609857a", func := "loop.example/g01233/laws.FnExactLooseEnds", spec := "fnExactLooseEnds", unfollowed := true, recurses := true, plainKeys := false, apart := false, narrowed := true }
def FnExactLooseEndsUptoSaid : Prop := fnExactLooseEndsUptoRow.holds Try.pinned (OpenSpec.upto fnExactLooseEndsSpec)

/-- 'laws.FnExactCornersUsed', WHERE WHAT IT READS IS OF BULK AT MOST 1048576: true; the input reads as it did. -/
def fnExactCornersUsedUptoRow : OpenClaim := { program := "ytjhndaehdbjgkaa", sum := "2cb46a79d8e26b2e46fc20ac9227eabd615f3b283b983cd86e8f77aa5609857a", func := "loop.example/g01233/laws.FnExactCornersUsed", spec := "fnExactCornersUsed", unfollowed := true, recurses := true, plainKeys := false, apart := false, narrowed := true }
def FnExactCornersUsedUptoSaid : Prop := fnExactCornersUsedUptoRow.holds Try.pinned (OpenSpec.upto fnExactCornersUsedSpec)

/-- 'laws.FnExactOddCorners', WHERE WHAT IT READS IS OF BULK AT MOST 1048576: true; the input reads as it did. -/
def fnExactOddCornersUptoRow : OpenClaim := { program := "ytjhndaehdbjgkaa", sum := "2cb46a79d8e26b2e46fc20ac9227eabd615f3b283b983cd86e8f77aa5609857a", func := "loop.example/g01233/laws.FnExactOddCorners", spec := "fnExactOddCorners", unfollowed := true, recurses := true, plainKeys := false, apart := false, narrowed := true }
def FnExactOddCornersUptoSaid : Prop := fnExactOddCornersUptoRow.holds Try.pinned (OpenSpec.upto fnExactOddCornersSpec)

/-- 'laws.FnExactCountHoles', WHERE WHAT IT READS IS OF BULK AT MOST 1048576: true; the input reads as it did. -/
def fnExactCountHolesUptoRow : OpenClaim := { program := "ytjhndaehdbjgkaa", sum := "2cb46a79d8e26b2e46fc20ac9227eabd615f3b283b983cd86e8f77aa5609857a", func := "loop.example/g01233/laws.FnExactCountHoles", spec := "fnExactCountHoles", unfollowed := true, recurses := true, plainKeys := false, apart := false, narrowed := true }
def FnExactCountHolesUptoSaid : Prop := fnExactCountHolesUptoRow.holds Try.pinned (OpenSpec.upto fnExactCountHolesSpec)

/-- 'laws.FnExactIsRingFigure', WHERE WHAT IT READS IS OF BULK AT MOST 1048576: true; the input reads as it did. -/
def fnExactIsRingFigureUptoRow : OpenClaim := { program := "ytjhndaehdbjgkaa", sum := "2cb46a79d8e26b2e46fc20ac9227eabd615f3b283b983cd86e8f77aa5609857a", func := "loop.example/g01233/laws.FnExactIsRingFigure", spec := "fnExactIsRingFigure", unfollowed := true, recurses := true, plainKeys := false, apart := false, narrowed := true }
def FnExactIsRingFigureUptoSaid : Prop := fnExactIsRingFigureUptoRow.holds Try.pinned (OpenSpec.upto fnExactIsRingFigureSpec)

/-- 'laws.FnExactCanStroke', WHERE WHAT IT READS IS OF BULK AT MOST 1048576: true; the input reads as it did. -/
def fnExactCanStrokeUptoRow : OpenClaim := { program := "ytjhndaehdbjgkaa", sum := "2cb46a79d8e26b2e46fc20ac9227eabd615f3b283b983cd86e8f77aa5609857a", func := "loop.example/g01233/laws.FnExactCanStroke", spec := "fnExactCanStroke", unfollowed := true, recurses := true, plainKeys := false, apart := false, narrowed := true }
def FnExactCanStrokeUptoSaid : Prop := fnExactCanStrokeUptoRow.holds Try.pinned (OpenSpec.upto fnExactCanStrokeSpec)

/-- 'laws.FnExactLeastStrokes', WHERE WHAT IT READS IS OF BULK AT MOST 1048576: true; the input reads as it did. -/
def fnExactLeastStrokesUptoRow : OpenClaim := { program := "ytjhndaehdbjgkaa", sum := "2cb46a79d8e26b2e46fc20ac9227eabd615f3b283b983cd86e8f77aa5609857a", func := "loop.example/g01233/laws.FnExactLeastStrokes", spec := "fnExactLeastStrokes", unfollowed := true, recurses := true, plainKeys := false, apart := false, narrowed := true }
def FnExactLeastStrokesUptoSaid : Prop := fnExactLeastStrokesUptoRow.holds Try.pinned (OpenSpec.upto fnExactLeastStrokesSpec)

/-- 'laws.FnExactIsTreeFigure', WHERE WHAT IT READS IS OF BULK AT MOST 1048576: true; the input reads as it did. -/
def fnExactIsTreeFigureUptoRow : OpenClaim := { program := "ytjhndaehdbjgkaa", sum := "2cb46a79d8e26b2e46fc20ac9227eabd615f3b283b983cd86e8f77aa5609857a", func := "loop.example/g01233/laws.FnExactIsTreeFigure", spec := "fnExactIsTreeFigure", unfollowed := true, recurses := true, plainKeys := false, apart := false, narrowed := true }
def FnExactIsTreeFigureUptoSaid : Prop := fnExactIsTreeFigureUptoRow.holds Try.pinned (OpenSpec.upto fnExactIsTreeFigureSpec)

/-- 'laws.FnExactFirstStroke', WHERE WHAT IT READS IS OF BULK AT MOST 1048576: true; the input reads as it did. -/
def fnExactFirstStrokeUptoRow : OpenClaim := { program := "ytjhndaehdbjgkaa", sum := "2cb46a79d8e26b2e46fc20ac9227eabd615f3b283b983cd86e8f77aa5609857a", func := "loop.example/g01233/laws.FnExactFirstStroke", spec := "fnExactFirstStroke", unfollowed := true, recurses := true, plainKeys := false, apart := false, narrowed := true }
def FnExactFirstStrokeUptoSaid : Prop := fnExactFirstStrokeUptoRow.holds Try.pinned (OpenSpec.upto fnExactFirstStrokeSpec)

/-- 'laws.FnExactLoopOfFigure', WHERE WHAT IT READS IS OF BULK AT MOST 1048576: true; the input reads as it did. -/
def fnExactLoopOfFigureUptoRow : OpenClaim := { program := "ytjhndaehdbjgkaa", sum := "2cb46a79d8e26b2e46fc20ac9227eabd615f3b283b983cd86e8f77aa5609857a", func := "loop.example/g01233/laws.FnExactLoopOfFigure", spec := "fnExactLoopOfFigure", inPlace := ["internal/bytealg.IndexByteString"], unfollowed := true, recurses := true, plainKeys := false, apart := false, narrowed := true }
def FnExactLoopOfFigureUptoSaid : Prop := fnExactLoopOfFigureUptoRow.holds Try.pinned (OpenSpec.upto fnExactLoopOfFigureSpec)

end Rows
end Go.Proofs.Ytjhndaehdbjgkaa
