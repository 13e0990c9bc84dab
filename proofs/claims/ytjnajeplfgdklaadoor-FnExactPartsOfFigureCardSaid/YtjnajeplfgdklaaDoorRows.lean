/-
  NARROWER THAN 'FOR EVERY INPUT', by the rows' own cells (each row's printed sentence says how): FnExactJoinFigures: laid · FnExactAddCell: laid · FnExactAddMatch: laid · FnExactTakeMatch: laid · FnExactNeedlessMatches: laid · FnExactGreedyTake: laid · FnExactPartsOfFigure: laid.
  DERIVED. THE GIVEN ROWS OF THIS SEAT. 7 by the template 'for every input the law returns true; each argument reads behind the call as it read before'; 0 by the template 'total and deterministic' (their statements: YtjnajeplfgdklaaDoorTotals.lean).
  GIVEN WITH THE SEED: the statements are not yours to turn. If you find one false, say at which input.
  Laid BY PROGRAM, IN A SANDBOX (cutbox-rows.mjs): the forced cells as the released guide's own fill.sh prints them over the translation 2404995b986ca06a… (all of the seat's roots in one cut). By AI agents, Wed Nov 11 2026. No macro, syntax, notation, axiom, sorry.
-/
import Derived.Test.YtjnajeplfgdklaaDoorChecked
import GoSem.Claim
import GoSem.ClaimJoined
import GoSem.ClaimMapViews
import Derived.JoinedTies
import Derived.KernelRfl
namespace Go.Proofs.YtjnajeplfgdklaaDoor
/- THE CELL 'sum', in the pinned program and in every row, IS THE sha256 OF THE DUMP (.gsa) THAT YtjnajeplfgdklaaDoorProg.lean LOADS. Nothing in Lean hashes anything: it is a label: what it is worth is what the hold of that sum in a sandbox is worth. -/
noncomputable def Tryd.pinned : Pinned := { name := "ytjnajeplfgdklaadoor", sum := "2404995b986ca06a829e1b723469540a323cbfadcc9c80d8845b337725900d86", checked := Tryd.checked }
namespace Rows
def none {H : Type} : Left H := { results := [], args := [] }

/- WHAT THE LISTED PACKAGE-LEVEL VARIABLES READ AS WHEN THE CALL BEGINS. Each datum BY PROGRAM (the guide's laid-datum.mjs) off the statement by which the dump's own 'gosem.cut.vars' lays the variable. In a bare row this is a premise. The card (YtjnajeplfgdklaaDoorCards.lean) ties it to the program's text. -/
def laid_math_bits_deBruijn64tab {H : Type} : DataW H := .agg [.lit (.int .u8 0), .lit (.int .u8 1), .lit (.int .u8 56), .lit (.int .u8 2), .lit (.int .u8 57), .lit (.int .u8 49), .lit (.int .u8 28), .lit (.int .u8 3), .lit (.int .u8 61), .lit (.int .u8 58), .lit (.int .u8 42), .lit (.int .u8 50), .lit (.int .u8 38), .lit (.int .u8 29), .lit (.int .u8 17), .lit (.int .u8 4), .lit (.int .u8 62), .lit (.int .u8 47), .lit (.int .u8 59), .lit (.int .u8 36), .lit (.int .u8 45), .lit (.int .u8 43), .lit (.int .u8 51), .lit (.int .u8 22), .lit (.int .u8 53), .lit (.int .u8 39), .lit (.int .u8 33), .lit (.int .u8 30), .lit (.int .u8 24), .lit (.int .u8 18), .lit (.int .u8 12), .lit (.int .u8 5), .lit (.int .u8 63), .lit (.int .u8 55), .lit (.int .u8 48), .lit (.int .u8 27), .lit (.int .u8 60), .lit (.int .u8 41), .lit (.int .u8 37), .lit (.int .u8 16), .lit (.int .u8 46), .lit (.int .u8 35), .lit (.int .u8 44), .lit (.int .u8 21), .lit (.int .u8 52), .lit (.int .u8 32), .lit (.int .u8 23), .lit (.int .u8 11), .lit (.int .u8 54), .lit (.int .u8 26), .lit (.int .u8 40), .lit (.int .u8 15), .lit (.int .u8 34), .lit (.int .u8 20), .lit (.int .u8 31), .lit (.int .u8 10), .lit (.int .u8 25), .lit (.int .u8 14), .lit (.int .u8 19), .lit (.int .u8 9), .lit (.int .u8 13), .lit (.int .u8 8), .lit (.int .u8 7), .lit (.int .u8 6)]

/-- 'laws.FnExactJoinFigures': WHATEVER THE INPUT: true; the input reads as it did. -/
def fnExactJoinFiguresSpec : ChangeSpec := { name := "fnExactJoinFigures", fn := fun _ => fun
  | [d1, d2] => { results := [.lit (.bool true)], args := [d1, d2] }
  | _ => none }
def fnExactJoinFiguresRow : OpenClaim := { program := "ytjnajeplfgdklaadoor", sum := "2404995b986ca06a829e1b723469540a323cbfadcc9c80d8845b337725900d86", func := "loop.example/g01233/laws.FnExactJoinFigures", spec := "fnExactJoinFigures", unfollowed := true, recurses := true, named := ["math/bits.deBruijn64tab"], apart := false, laid := [("math/bits.deBruijn64tab", laid_math_bits_deBruijn64tab)] }
def FnExactJoinFiguresSaid : Prop := fnExactJoinFiguresRow.holds Tryd.pinned (OpenSpec.ofChange fnExactJoinFiguresSpec)

/-- ITS FALSE NEIGHBOUR: 'it returns false'. Refute it at one input. -/
def fnExactJoinFiguresWrong : ChangeSpec := { name := "fnExactJoinFigures", fn := fun _ => fun
  | [d1, d2] => { results := [.lit (.bool false)], args := [d1, d2] }
  | _ => none }
def FnExactJoinFiguresWrongFalsely : Prop := fnExactJoinFiguresRow.holds Tryd.pinned (OpenSpec.ofChange fnExactJoinFiguresWrong)

/-- 'laws.FnExactAddCell': WHATEVER THE INPUT: true; the input reads as it did. -/
def fnExactAddCellSpec : ChangeSpec := { name := "fnExactAddCell", fn := fun _ => fun
  | [d1, d2, d3] => { results := [.lit (.bool true)], args := [d1, d2, d3] }
  | _ => none }
def fnExactAddCellRow : OpenClaim := { program := "ytjnajeplfgdklaadoor", sum := "2404995b986ca06a829e1b723469540a323cbfadcc9c80d8845b337725900d86", func := "loop.example/g01233/laws.FnExactAddCell", spec := "fnExactAddCell", unfollowed := true, recurses := true, named := ["math/bits.deBruijn64tab"], apart := false, laid := [("math/bits.deBruijn64tab", laid_math_bits_deBruijn64tab)] }
def FnExactAddCellSaid : Prop := fnExactAddCellRow.holds Tryd.pinned (OpenSpec.ofChange fnExactAddCellSpec)

/-- ITS FALSE NEIGHBOUR: 'it returns false'. Refute it at one input. -/
def fnExactAddCellWrong : ChangeSpec := { name := "fnExactAddCell", fn := fun _ => fun
  | [d1, d2, d3] => { results := [.lit (.bool false)], args := [d1, d2, d3] }
  | _ => none }
def FnExactAddCellWrongFalsely : Prop := fnExactAddCellRow.holds Tryd.pinned (OpenSpec.ofChange fnExactAddCellWrong)

/-- 'laws.FnExactAddMatch': WHATEVER THE INPUT: true; the input reads as it did. -/
def fnExactAddMatchSpec : ChangeSpec := { name := "fnExactAddMatch", fn := fun _ => fun
  | [d1, d2, d3, d4] => { results := [.lit (.bool true)], args := [d1, d2, d3, d4] }
  | _ => none }
def fnExactAddMatchRow : OpenClaim := { program := "ytjnajeplfgdklaadoor", sum := "2404995b986ca06a829e1b723469540a323cbfadcc9c80d8845b337725900d86", func := "loop.example/g01233/laws.FnExactAddMatch", spec := "fnExactAddMatch", unfollowed := true, recurses := true, named := ["math/bits.deBruijn64tab"], apart := false, laid := [("math/bits.deBruijn64tab", laid_math_bits_deBruijn64tab)] }
def FnExactAddMatchSaid : Prop := fnExactAddMatchRow.holds Tryd.pinned (OpenSpec.ofChange fnExactAddMatchSpec)

/-- ITS FALSE NEIGHBOUR: 'it returns false'. Refute it at one input. -/
def fnExactAddMatchWrong : ChangeSpec := { name := "fnExactAddMatch", fn := fun _ => fun
  | [d1, d2, d3, d4] => { results := [.lit (.bool false)], args := [d1, d2, d3, d4] }
  | _ => none }
def FnExactAddMatchWrongFalsely : Prop := fnExactAddMatchRow.holds Tryd.pinned (OpenSpec.ofChange fnExactAddMatchWrong)

/-- 'laws.FnExactTakeMatch': WHATEVER THE INPUT: true; the input reads as it did. -/
def fnExactTakeMatchSpec : ChangeSpec := { name := "fnExactTakeMatch", fn := fun _ => fun
  | [d1, d2, d3, d4] => { results := [.lit (.bool true)], args := [d1, d2, d3, d4] }
  | _ => none }
def fnExactTakeMatchRow : OpenClaim := { program := "ytjnajeplfgdklaadoor", sum := "2404995b986ca06a829e1b723469540a323cbfadcc9c80d8845b337725900d86", func := "loop.example/g01233/laws.FnExactTakeMatch", spec := "fnExactTakeMatch", unfollowed := true, recurses := true, named := ["math/bits.deBruijn64tab"], apart := false, laid := [("math/bits.deBruijn64tab", laid_math_bits_deBruijn64tab)] }
def FnExactTakeMatchSaid : Prop := fnExactTakeMatchRow.holds Tryd.pinned (OpenSpec.ofChange fnExactTakeMatchSpec)

/-- ITS FALSE NEIGHBOUR: 'it returns false'. Refute it at one input. -/
def fnExactTakeMatchWrong : ChangeSpec := { name := "fnExactTakeMatch", fn := fun _ => fun
  | [d1, d2, d3, d4] => { results := [.lit (.bool false)], args := [d1, d2, d3, d4] }
  | _ => none }
def FnExactTakeMatchWrongFalsely : Prop := fnExactTakeMatchRow.holds Tryd.pinned (OpenSpec.ofChange fnExactTakeMatchWrong)

/-- 'laws.FnExactNeedlessMatches': WHATEVER THE INPUT: true; the input reads as it did. -/
def fnExactNeedlessMatchesSpec : ChangeSpec := { name := "fnExactNeedlessMatches", fn := fun _ => fun
  | [d] => { results := [.lit (.bool true)], args := [d] }
  | _ => none }
def fnExactNeedlessMatchesRow : OpenClaim := { program := "ytjnajeplfgdklaadoor", sum := "2404995b986ca06a829e1b723469540a323cbfadcc9c80d8845b337725900d86", func := "loop.example/g01233/laws.FnExactNeedlessMatches", spec := "fnExactNeedlessMatches", unfollowed := true, recurses := true, named := ["math/bits.deBruijn64tab"], apart := false, laid := [("math/bits.deBruijn64tab", laid_math_bits_deBruijn64tab)] }
def FnExactNeedlessMatchesSaid : Prop := fnExactNeedlessMatchesRow.holds Tryd.pinned (OpenSpec.ofChange fnExactNeedlessMatchesSpec)

/-- ITS FALSE NEIGHBOUR: 'it returns false'. Refute it at one input. -/
def fnExactNeedlessMatchesWrong : ChangeSpec := { name := "fnExactNeedlessMatches", fn := fun _ => fun
  | [d] => { results := [.lit (.bool false)], args := [d] }
  | _ => none }
def FnExactNeedlessMatchesWrongFalsely : Prop := fnExactNeedlessMatchesRow.holds Tryd.pinned (OpenSpec.ofChange fnExactNeedlessMatchesWrong)

/-- 'laws.FnExactGreedyTake': WHATEVER THE INPUT: true; the input reads as it did. -/
def fnExactGreedyTakeSpec : ChangeSpec := { name := "fnExactGreedyTake", fn := fun _ => fun
  | [d] => { results := [.lit (.bool true)], args := [d] }
  | _ => none }
def fnExactGreedyTakeRow : OpenClaim := { program := "ytjnajeplfgdklaadoor", sum := "2404995b986ca06a829e1b723469540a323cbfadcc9c80d8845b337725900d86", func := "loop.example/g01233/laws.FnExactGreedyTake", spec := "fnExactGreedyTake", unfollowed := true, recurses := true, named := ["math/bits.deBruijn64tab"], apart := false, laid := [("math/bits.deBruijn64tab", laid_math_bits_deBruijn64tab)] }
def FnExactGreedyTakeSaid : Prop := fnExactGreedyTakeRow.holds Tryd.pinned (OpenSpec.ofChange fnExactGreedyTakeSpec)

/-- ITS FALSE NEIGHBOUR: 'it returns false'. Refute it at one input. -/
def fnExactGreedyTakeWrong : ChangeSpec := { name := "fnExactGreedyTake", fn := fun _ => fun
  | [d] => { results := [.lit (.bool false)], args := [d] }
  | _ => none }
def FnExactGreedyTakeWrongFalsely : Prop := fnExactGreedyTakeRow.holds Tryd.pinned (OpenSpec.ofChange fnExactGreedyTakeWrong)

/-- 'laws.FnExactPartsOfFigure': WHATEVER THE INPUT: true; the input reads as it did. -/
def fnExactPartsOfFigureSpec : ChangeSpec := { name := "fnExactPartsOfFigure", fn := fun _ => fun
  | [d] => { results := [.lit (.bool true)], args := [d] }
  | _ => none }
def fnExactPartsOfFigureRow : OpenClaim := { program := "ytjnajeplfgdklaadoor", sum := "2404995b986ca06a829e1b723469540a323cbfadcc9c80d8845b337725900d86", func := "loop.example/g01233/laws.FnExactPartsOfFigure", spec := "fnExactPartsOfFigure", unfollowed := true, recurses := true, named := ["math/bits.deBruijn64tab"], apart := false, laid := [("math/bits.deBruijn64tab", laid_math_bits_deBruijn64tab)] }
def FnExactPartsOfFigureSaid : Prop := fnExactPartsOfFigureRow.holds Tryd.pinned (OpenSpec.ofChange fnExactPartsOfFigureSpec)

/-- ITS FALSE NEIGHBOUR: 'it returns false'. Refute it at one input. -/
def fnExactPartsOfFigureWrong : ChangeSpec := { name := "fnExactPartsOfFigure", fn := fun _ => fun
  | [d] => { results := [.lit (.bool false)], args := [d] }
  | _ => none }
def FnExactPartsOfFigureWrongFalsely : Prop := fnExactPartsOfFigureRow.holds Tryd.pinned (OpenSpec.ofChange fnExactPartsOfFigureWrong)

/- THE SECOND FORM. 'bulk': how many values and letters a reading holds, each counted each time it is reached (what is shared counts as often as it is met; a slice's spare places count too). A statement '..UptoSaid' is the law's where the arguments, and the package variables that the reading takes, are together of bulk at most 1048576: NARROWER than '..Said'. Prove '..Said' where nothing that the law and all that it calls make is longer than what came in: it says more and counts as full. Else prove '..UptoSaid'. A law counts once. -/
mutual
def uptoBulk {H : Type} : DataW H → Nat
  | .lit (.string bytes) => bytes.length + 1
  | .lit _ => 1
  | .nil => 1
  | .ptr d => uptoBulk d + 1
  | .slice elems spare => uptoBulkAll elems + uptoBulkAll spare + 1
  | .agg parts => uptoBulkAll parts + 1
  | .iface _ d => uptoBulk d + 1
  | .map entries => uptoBulkEntries entries + 1
  | .held _ => 1
def uptoBulkAll {H : Type} : List (DataW H) → Nat
  | [] => 0
  | d :: r => uptoBulk d + uptoBulkAll r
def uptoBulkEntries {H : Type} : List (Lit × DataW H) → Nat
  | [] => 0
  | x :: r => uptoBulkEntry x + uptoBulkEntries r
def uptoBulkEntry {H : Type} : Lit × DataW H → Nat
  | (.string bytes, d) => bytes.length + uptoBulk d + 1
  | (_, d) => uptoBulk d + 1
 end
def uptoSmall : (H : Type) → List (DataW H) → Bool := fun _ ds => decide (uptoBulkAll ds ≤ 1048576)
def OpenSpec.upto (s : _root_.Go.ChangeSpec) : _root_.Go.OpenSpec := { _root_.Go.OpenSpec.ofChange s with cond := some uptoSmall }

/-- 'laws.FnExactJoinFigures', WHERE WHAT IT READS IS OF BULK AT MOST 1048576: true; the input reads as it did. -/
def fnExactJoinFiguresUptoRow : OpenClaim := { program := "ytjnajeplfgdklaadoor", sum := "2404995b986ca06a829e1b723469540a323cbfadcc9c80d8845b337725900d86", func := "loop.example/g01233/laws.FnExactJoinFigures", spec := "fnExactJoinFigures", unfollowed := true, recurses := true, named := ["math/bits.deBruijn64tab"], apart := false, laid := [("math/bits.deBruijn64tab", laid_math_bits_deBruijn64tab)], narrowed := true }
def FnExactJoinFiguresUptoSaid : Prop := fnExactJoinFiguresUptoRow.holds Tryd.pinned (OpenSpec.upto fnExactJoinFiguresSpec)

/-- 'laws.FnExactAddCell', WHERE WHAT IT READS IS OF BULK AT MOST 1048576: true; the input reads as it did. -/
def fnExactAddCellUptoRow : OpenClaim := { program := "ytjnajeplfgdklaadoor", sum := "2404995b986ca06a829e1b723469540a323cbfadcc9c80d8845b337725900d86", func := "loop.example/g01233/laws.FnExactAddCell", spec := "fnExactAddCell", unfollowed := true, recurses := true, named := ["math/bits.deBruijn64tab"], apart := false, laid := [("math/bits.deBruijn64tab", laid_math_bits_deBruijn64tab)], narrowed := true }
def FnExactAddCellUptoSaid : Prop := fnExactAddCellUptoRow.holds Tryd.pinned (OpenSpec.upto fnExactAddCellSpec)

/-- 'laws.FnExactAddMatch', WHERE WHAT IT READS IS OF BULK AT MOST 1048576: true; the input reads as it did. -/
def fnExactAddMatchUptoRow : OpenClaim := { program := "ytjnajeplfgdklaadoor", sum := "2404995b986ca06a829e1b723469540a323cbfadcc9c80d8845b337725900d86", func := "loop.example/g01233/laws.FnExactAddMatch", spec := "fnExactAddMatch", unfollowed := true, recurses := true, named := ["math/bits.deBruijn64tab"], apart := false, laid := [("math/bits.deBruijn64tab", laid_math_bits_deBruijn64tab)], narrowed := true }
def FnExactAddMatchUptoSaid : Prop := fnExactAddMatchUptoRow.holds Tryd.pinned (OpenSpec.upto fnExactAddMatchSpec)

/-- 'laws.FnExactTakeMatch', WHERE WHAT IT READS IS OF BULK AT MOST 1048576: true; the input reads as it did. -/
def fnExactTakeMatchUptoRow : OpenClaim := { program := "ytjnajeplfgdklaadoor", sum := "2404995b986ca06a829e1b723469540a323cbfadcc9c80d8845b337725900d86", func := "loop.example/g01233/laws.FnExactTakeMatch", spec := "fnExactTakeMatch", unfollowed := true, recurses := true, named := ["math/bits.deBruijn64tab"], apart := false, laid := [("math/bits.deBruijn64tab", laid_math_bits_deBruijn64tab)], narrowed := true }
def FnExactTakeMatchUptoSaid : Prop := fnExactTakeMatchUptoRow.holds Tryd.pinned (OpenSpec.upto fnExactTakeMatchSpec)

/-- 'laws.FnExactNeedlessMatches', WHERE WHAT IT READS IS OF BULK AT MOST 1048576: true; the input reads as it did. -/
def fnExactNeedlessMatchesUptoRow : OpenClaim := { program := "ytjnajeplfgdklaadoor", sum := "2404995b986ca06a829e1b723469540a323cbfadcc9c80d8845b337725900d86", func := "loop.example/g01233/laws.FnExactNeedlessMatches", spec := "fnExactNeedlessMatches", unfollowed := true, recurses := true, named := ["math/bits.deBruijn64tab"], apart := false, laid := [("math/bits.deBruijn64tab", laid_math_bits_deBruijn64tab)], narrowed := true }
def FnExactNeedlessMatchesUptoSaid : Prop := fnExactNeedlessMatchesUptoRow.holds Tryd.pinned (OpenSpec.upto fnExactNeedlessMatchesSpec)

/-- 'laws.FnExactGreedyTake', WHERE WHAT IT READS IS OF BULK AT MOST 1048576: true; the input reads as it did. -/
def fnExactGreedyTakeUptoRow : OpenClaim := { program := "ytjnajeplfgdklaadoor", sum := "2404995b986ca06a829e1b723469540a323cbfadcc9c80d8845b337725900d86", func := "loop.example/g01233/laws.FnExactGreedyTake", spec := "fnExactGreedyTake", unfollowed := true, recurses := true, named := ["math/bits.deBruijn64tab"], apart := false, laid := [("math/bits.deBruijn64tab", laid_math_bits_deBruijn64tab)], narrowed := true }
def FnExactGreedyTakeUptoSaid : Prop := fnExactGreedyTakeUptoRow.holds Tryd.pinned (OpenSpec.upto fnExactGreedyTakeSpec)

/-- 'laws.FnExactPartsOfFigure', WHERE WHAT IT READS IS OF BULK AT MOST 1048576: true; the input reads as it did. -/
def fnExactPartsOfFigureUptoRow : OpenClaim := { program := "ytjnajeplfgdklaadoor", sum := "2404995b986ca06a829e1b723469540a323cbfadcc9c80d8845b337725900d86", func := "loop.example/g01233/laws.FnExactPartsOfFigure", spec := "fnExactPartsOfFigure", unfollowed := true, recurses := true, named := ["math/bits.deBruijn64tab"], apart := false, laid := [("math/bits.deBruijn64tab", laid_math_bits_deBruijn64tab)], narrowed := true }
def FnExactPartsOfFigureUptoSaid : Prop := fnExactPartsOfFigureUptoRow.holds Tryd.pinned (OpenSpec.upto fnExactPartsOfFigureSpec)

end Rows
end Go.Proofs.YtjnajeplfgdklaaDoor
