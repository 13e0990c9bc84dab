/-
  No cell of these rows narrows 'for every input' (looked for: loops, veiled, ifaces, maps, wideKeys, modest, calm, conditions, laid).
  DERIVED. THE GIVEN ROWS OF THIS SEAT. 7 by the template 'for every input the law returns true; each argument reads behind the call as it read before'; 0 by the template 'total and deterministic' (their statements: YteaglkpplgbpaaaTotals.lean).
  GIVEN WITH THE SEED: the statements are not yours to turn. If you find one false, say at which input.
  Laid BY PROGRAM, IN A SANDBOX (cutbox-rows.mjs): the forced cells as the released guide's own fill.sh prints them over the translation beb3c4afe37d652d… (all of the seat's roots in one cut). By AI agents, Wed Nov 11 2026. No macro, syntax, notation, axiom, sorry.
-/
import Derived.Test.YteaglkpplgbpaaaChecked
import GoSem.Claim
import GoSem.ClaimJoined
import GoSem.ClaimMapViews
import Derived.JoinedTies
import Derived.KernelRfl
namespace Go.Proofs.Yteaglkpplgbpaaa
/- THE CELL 'sum', in the pinned program and in every row, IS THE sha256 OF THE DUMP (.gsa) THAT YteaglkpplgbpaaaProg.lean LOADS. Nothing in Lean hashes anything: it is a label: what it is worth is what the hold of that sum in a sandbox is worth. -/
noncomputable def Try.pinned : Pinned := { name := "yteaglkpplgbpaaa", sum := "beb3c4afe37d652db3cd4e496040ae19989b61ceb43b64f097c0ea1b0d78b0a6", checked := Try.checked }
namespace Rows
def none {H : Type} : Left H := { results := [], args := [] }

/-- 'laws.FnExactFigureText': WHATEVER THE INPUT: true; the input reads as it did. -/
def fnExactFigureTextSpec : ChangeSpec := { name := "fnExactFigureText", fn := fun _ => fun
  | [d] => { results := [.lit (.bool true)], args := [d] }
  | _ => none }
def fnExactFigureTextRow : OpenClaim := { program := "yteaglkpplgbpaaa", sum := "beb3c4afe37d652db3cd4e496040ae19989b61ceb43b64f097c0ea1b0d78b0a6", func := "loop.example/g01233/laws.FnExactFigureText", spec := "fnExactFigureText", inPlace := ["internal/abi.NoEscape", "internal/bytealg.MakeNoZero"], unfollowed := true, recurses := true, plainKeys := false, apart := false }
def FnExactFigureTextSaid : Prop := fnExactFigureTextRow.holds Try.pinned (OpenSpec.ofChange fnExactFigureTextSpec)

/-- ITS FALSE NEIGHBOUR: 'it returns false'. Refute it at one input. -/
def fnExactFigureTextWrong : ChangeSpec := { name := "fnExactFigureText", fn := fun _ => fun
  | [d] => { results := [.lit (.bool false)], args := [d] }
  | _ => none }
def FnExactFigureTextWrongFalsely : Prop := fnExactFigureTextRow.holds Try.pinned (OpenSpec.ofChange fnExactFigureTextWrong)

/-- 'laws.FnExactSquaresOf': WHATEVER THE INPUT: true; the input reads as it did. -/
def fnExactSquaresOfSpec : ChangeSpec := { name := "fnExactSquaresOf", fn := fun _ => fun
  | [d] => { results := [.lit (.bool true)], args := [d] }
  | _ => none }
def fnExactSquaresOfRow : OpenClaim := { program := "yteaglkpplgbpaaa", sum := "beb3c4afe37d652db3cd4e496040ae19989b61ceb43b64f097c0ea1b0d78b0a6", func := "loop.example/g01233/laws.FnExactSquaresOf", spec := "fnExactSquaresOf", unfollowed := true, recurses := true, plainKeys := false, apart := false }
def FnExactSquaresOfSaid : Prop := fnExactSquaresOfRow.holds Try.pinned (OpenSpec.ofChange fnExactSquaresOfSpec)

/-- ITS FALSE NEIGHBOUR: 'it returns false'. Refute it at one input. -/
def fnExactSquaresOfWrong : ChangeSpec := { name := "fnExactSquaresOf", fn := fun _ => fun
  | [d] => { results := [.lit (.bool false)], args := [d] }
  | _ => none }
def FnExactSquaresOfWrongFalsely : Prop := fnExactSquaresOfRow.holds Try.pinned (OpenSpec.ofChange fnExactSquaresOfWrong)

/-- 'laws.FnExactRegionsOf': WHATEVER THE INPUT: true; the input reads as it did. -/
def fnExactRegionsOfSpec : ChangeSpec := { name := "fnExactRegionsOf", fn := fun _ => fun
  | [d] => { results := [.lit (.bool true)], args := [d] }
  | _ => none }
def fnExactRegionsOfRow : OpenClaim := { program := "yteaglkpplgbpaaa", sum := "beb3c4afe37d652db3cd4e496040ae19989b61ceb43b64f097c0ea1b0d78b0a6", func := "loop.example/g01233/laws.FnExactRegionsOf", spec := "fnExactRegionsOf", unfollowed := true, recurses := true, plainKeys := false, apart := false }
def FnExactRegionsOfSaid : Prop := fnExactRegionsOfRow.holds Try.pinned (OpenSpec.ofChange fnExactRegionsOfSpec)

/-- ITS FALSE NEIGHBOUR: 'it returns false'. Refute it at one input. -/
def fnExactRegionsOfWrong : ChangeSpec := { name := "fnExactRegionsOf", fn := fun _ => fun
  | [d] => { results := [.lit (.bool false)], args := [d] }
  | _ => none }
def FnExactRegionsOfWrongFalsely : Prop := fnExactRegionsOfRow.holds Try.pinned (OpenSpec.ofChange fnExactRegionsOfWrong)

/-- 'laws.FnExactShortestPath': WHATEVER THE INPUT: true; the input reads as it did. -/
def fnExactShortestPathSpec : ChangeSpec := { name := "fnExactShortestPath", fn := fun _ => fun
  | [d1, d2, d3] => { results := [.lit (.bool true)], args := [d1, d2, d3] }
  | _ => none }
def fnExactShortestPathRow : OpenClaim := { program := "yteaglkpplgbpaaa", sum := "beb3c4afe37d652db3cd4e496040ae19989b61ceb43b64f097c0ea1b0d78b0a6", func := "loop.example/g01233/laws.FnExactShortestPath", spec := "fnExactShortestPath", unfollowed := true, recurses := true, plainKeys := false, apart := false }
def FnExactShortestPathSaid : Prop := fnExactShortestPathRow.holds Try.pinned (OpenSpec.ofChange fnExactShortestPathSpec)

/-- ITS FALSE NEIGHBOUR: 'it returns false'. Refute it at one input. -/
def fnExactShortestPathWrong : ChangeSpec := { name := "fnExactShortestPath", fn := fun _ => fun
  | [d1, d2, d3] => { results := [.lit (.bool false)], args := [d1, d2, d3] }
  | _ => none }
def FnExactShortestPathWrongFalsely : Prop := fnExactShortestPathRow.holds Try.pinned (OpenSpec.ofChange fnExactShortestPathWrong)

/-- 'laws.FnExactCountHoles': WHATEVER THE INPUT: true; the input reads as it did. -/
def fnExactCountHolesSpec : ChangeSpec := { name := "fnExactCountHoles", fn := fun _ => fun
  | [d] => { results := [.lit (.bool true)], args := [d] }
  | _ => none }
def fnExactCountHolesRow : OpenClaim := { program := "yteaglkpplgbpaaa", sum := "beb3c4afe37d652db3cd4e496040ae19989b61ceb43b64f097c0ea1b0d78b0a6", func := "loop.example/g01233/laws.FnExactCountHoles", spec := "fnExactCountHoles", unfollowed := true, recurses := true, plainKeys := false, apart := false }
def FnExactCountHolesSaid : Prop := fnExactCountHolesRow.holds Try.pinned (OpenSpec.ofChange fnExactCountHolesSpec)

/-- ITS FALSE NEIGHBOUR: 'it returns false'. Refute it at one input. -/
def fnExactCountHolesWrong : ChangeSpec := { name := "fnExactCountHoles", fn := fun _ => fun
  | [d] => { results := [.lit (.bool false)], args := [d] }
  | _ => none }
def FnExactCountHolesWrongFalsely : Prop := fnExactCountHolesRow.holds Try.pinned (OpenSpec.ofChange fnExactCountHolesWrong)

/-- 'laws.FnExactFirstStroke': WHATEVER THE INPUT: true; the input reads as it did. -/
def fnExactFirstStrokeSpec : ChangeSpec := { name := "fnExactFirstStroke", fn := fun _ => fun
  | [d] => { results := [.lit (.bool true)], args := [d] }
  | _ => none }
def fnExactFirstStrokeRow : OpenClaim := { program := "yteaglkpplgbpaaa", sum := "beb3c4afe37d652db3cd4e496040ae19989b61ceb43b64f097c0ea1b0d78b0a6", func := "loop.example/g01233/laws.FnExactFirstStroke", spec := "fnExactFirstStroke", unfollowed := true, recurses := true, plainKeys := false, apart := false }
def FnExactFirstStrokeSaid : Prop := fnExactFirstStrokeRow.holds Try.pinned (OpenSpec.ofChange fnExactFirstStrokeSpec)

/-- ITS FALSE NEIGHBOUR: 'it returns false'. Refute it at one input. -/
def fnExactFirstStrokeWrong : ChangeSpec := { name := "fnExactFirstStroke", fn := fun _ => fun
  | [d] => { results := [.lit (.bool false)], args := [d] }
  | _ => none }
def FnExactFirstStrokeWrongFalsely : Prop := fnExactFirstStrokeRow.holds Try.pinned (OpenSpec.ofChange fnExactFirstStrokeWrong)

/-- 'laws.FnExactLoopOfFigure': WHATEVER THE INPUT: true; the input reads as it did. -/
def fnExactLoopOfFigureSpec : ChangeSpec := { name := "fnExactLoopOfFigure", fn := fun _ => fun
  | [d] => { results := [.lit (.bool true)], args := [d] }
  | _ => none }
def fnExactLoopOfFigureRow : OpenClaim := { program := "yteaglkpplgbpaaa", sum := "beb3c4afe37d652db3cd4e496040ae19989b61ceb43b64f097c0ea1b0d78b0a6", func := "loop.example/g01233/laws.FnExactLoopOfFigure", spec := "fnExactLoopOfFigure", inPlace := ["internal/bytealg.IndexByteString"], unfollowed := true, recurses := true, plainKeys := false, apart := false }
def FnExactLoopOfFigureSaid : Prop := fnExactLoopOfFigureRow.holds Try.pinned (OpenSpec.ofChange fnExactLoopOfFigureSpec)

/-- ITS FALSE NEIGHBOUR: 'it returns false'. Refute it at one input. -/
def fnExactLoopOfFigureWrong : ChangeSpec := { name := "fnExactLoopOfFigure", fn := fun _ => fun
  | [d] => { results := [.lit (.bool false)], args := [d] }
  | _ => none }
def FnExactLoopOfFigureWrongFalsely : Prop := fnExactLoopOfFigureRow.holds Try.pinned (OpenSpec.ofChange fnExactLoopOfFigureWrong)

/- THE SECOND FORM. 'bulk': how many values and letters a reading holds, each counted each time it is reached (what is shared counts as often as it is met; a slice's spare places count too). A statement '..UptoSaid' is the law's where the arguments, and the package variables that the reading takes, are together of bulk at most 1048576: NARROWER than '..Said'. Prove '..Said' where nothing that the law and all that it calls make is longer than what came in: it says more and counts as full. Else prove '..UptoSaid'. A law counts once. -/
mutual
def uptoBulk {H : Type} : DataW H → Nat
  | .lit (.string bytes) => bytes.length + 1
  | .lit _ => 1
  | .nil => 1
  | .ptr d => uptoBulk d + 1
  | .slice elems spare => uptoBulkAll elems + uptoBulkAll spare + 1
  | .agg parts => uptoBulkAll parts + 1
  | .iface _ d => uptoBulk d + 1
  | .map entries => uptoBulkEntries entries + 1
  | .held _ => 1
def uptoBulkAll {H : Type} : List (DataW H) → Nat
  | [] => 0
  | d :: r => uptoBulk d + uptoBulkAll r
def uptoBulkEntries {H : Type} : List (Lit × DataW H) → Nat
  | [] => 0
  | x :: r => uptoBulkEntry x + uptoBulkEntries r
def uptoBulkEntry {H : Type} : Lit × DataW H → Nat
  | (.string bytes, d) => bytes.length + uptoBulk d + 1
  | (_, d) => uptoBulk d + 1
 end
def uptoSmall : (H : Type) → List (DataW H) → Bool := fun _ ds => decide (uptoBulkAll ds ≤ 1048576)
def OpenSpec.upto (s : _root_.Go.ChangeSpec) : _root_.Go.OpenSpec := { _root_.Go.OpenSpec.ofChange s with cond := some uptoSmall }

/-- 'laws.FnExactFigureText', WHERE WHAT IT READS IS OF BULK AT MOST 1048576: true; the input reads as it did. -/
def fnExactFigureTextUptoRow : OpenClaim := { program := "yteaglkpplgbpaaa", sum := "beb3c4afe37d652db3cd4e496040ae19989b61ceb43b64f097c0ea1b0d78b0a6", func := "loop.example/g01233/laws.FnExactFigureText", spec := "fnExactFigureText", inPlace := ["internal/abi.NoEscape", "internal/bytealg.MakeNoZero"], unfollowed := true, recurses := true, plainKeys := false, apart := false, narrowed := true }
def FnExactFigureTextUptoSaid : Prop := fnExactFigureTextUptoRow.holds Try.pinned (OpenSpec.upto fnExactFigureTextSpec)

/-- 'laws.FnExactSquaresOf', WHERE WHAT IT READS IS OF BULK AT MOST 1048576: true; the input reads as it did. -/
def fnExactSquaresOfUptoRow : OpenClaim := { program := "yteaglkpplgbpaaa", sum := "beb3c4afe37d652db3cd4e496040ae19989b61ceb43b64f097c0ea1b0d78b0a6", func := "loop.example/g01233/laws.FnExactSquaresOf", spec := "fnExactSquaresOf", unfollowed := true, recurses := true, plainKeys := false, apart := false, narrowed := true }
def FnExactSquaresOfUptoSaid : Prop := fnExactSquaresOfUptoRow.holds Try.pinned (OpenSpec.upto fnExactSquaresOfSpec)

/-- 'laws.FnExactRegionsOf', WHERE WHAT IT READS IS OF BULK AT MOST 1048576: true; the input reads as it did. -/
def fnExactRegionsOfUptoRow : OpenClaim := { program := "yteaglkpplgbpaaa", sum := "beb3c4afe37d652db3cd4e496040ae19989b61ceb43b64f097c0ea1b0d78b0a6", func := "loop.example/g01233/laws.FnExactRegionsOf", spec := "fnExactRegionsOf", unfollowed := true, recurses := true, plainKeys := false, apart := false, narrowed := true }
def FnExactRegionsOfUptoSaid : Prop := fnExactRegionsOfUptoRow.holds Try.pinned (OpenSpec.upto fnExactRegionsOfSpec)

/-- 'laws.FnExactShortestPath', WHERE WHAT IT READS IS OF BULK AT MOST 1048576: true; the input reads as it did. -/
def fnExactShortestPathUptoRow : OpenClaim := { program := "yteaglkpplgbpaaa", sum := "beb3c4afe37d652db3cd4e496040ae19989b61ceb43b64f097c0ea1b0d78b0a6", func := "loop.example/g01233/laws.FnExactShortestPath", spec := "fnExactShortestPath", unfollowed := true, recurses := true, plainKeys := false, apart := false, narrowed := true }
def FnExactShortestPathUptoSaid : Prop := fnExactShortestPathUptoRow.holds Try.pinned (OpenSpec.upto fnExactShortestPathSpec)

/-- 'laws.FnExactCountHoles', WHERE WHAT IT READS IS OF BULK AT MOST 1048576: true; the input reads as it did. -/
def fnExactCountHolesUptoRow : OpenClaim := { program := "yteaglkpplgbpaaa", sum := "beb3c4afe37d652db3cd4e496040ae19989b61ceb43b64f097c0ea1b0d78b0a6", func := "loop.example/g01233/laws.FnExactCountHoles", spec := "fnExactCountHoles", unfollowed := true, recurses := true, plainKeys := false, apart := false, narrowed := true }
def FnExactCountHolesUptoSaid : Prop := fnExactCountHolesUptoRow.holds Try.pinned (OpenSpec.upto fnExactCountHolesSpec)

/-- 'laws.FnExactFirstStroke', WHERE WHAT IT READS IS OF BULK AT MOST 1048576: true; the input reads as it did. -/
def fnExactFirstStrokeUptoRow : OpenClaim := { program := "yteaglkpplgbpaaa", sum := "beb3c4afe37d652db3cd4e496040ae19989b61ceb43b64f097c0ea1b0d78b0a6", func := "loop.example/g01233/laws.FnExactFirstStroke", spec := "fnExactFirstStroke", unfollowed := true, recurses := true, plainKeys := false, apart := false, narrowed := true }
def FnExactFirstStrokeUptoSaid : Prop := fnExactFirstStrokeUptoRow.holds Try.pinned (OpenSpec.upto fnExactFirstStrokeSpec)

/-- 'laws.FnExactLoopOfFigure', WHERE WHAT IT READS IS OF BULK AT MOST 1048576: true; the input reads as it did. -/
def fnExactLoopOfFigureUptoRow : OpenClaim := { program := "yteaglkpplgbpaaa", sum := "beb3c4afe37d652db3cd4e496040ae19989b61ceb43b64f097c0ea1b0d78b0a6", func := "loop.example/g01233/laws.FnExactLoopOfFigure", spec := "fnExactLoopOfFigure", inPlace := ["internal/bytealg.IndexByteString"], unfollowed := true, recurses := true, plainKeys := false, apart := false, narrowed := true }
def FnExactLoopOfFigureUptoSaid : Prop := fnExactLoopOfFigureUptoRow.holds Try.pinned (OpenSpec.upto fnExactLoopOfFigureSpec)

end Rows
end Go.Proofs.Yteaglkpplgbpaaa
