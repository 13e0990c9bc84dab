/-
  No cell of these rows narrows 'for every input' (looked for: loops, veiled, ifaces, maps, wideKeys, modest, calm, conditions, laid).
  DERIVED. THE GIVEN ROWS OF THIS SEAT. 3 by the template 'for every input the law returns true; each argument reads behind the call as it read before'; 0 by the template 'total and deterministic' (their statements: YtbnkdfmomcmmaaaTotals.lean).
  GIVEN WITH THE SEED: the statements are not yours to turn. If you find one false, say at which input.
  Laid BY PROGRAM, IN A SANDBOX (cutbox-rows.mjs): the forced cells as the released guide's own fill.sh prints them over the translation 31ee4bd81e527f50… (all of the seat's roots in one cut). By AI agents, Wed Nov 11 2026. No macro, syntax, notation, axiom, sorry.
-/
import Derived.Test.YtbnkdfmomcmmaaaChecked
import GoSem.Claim
import GoSem.ClaimJoined
import GoSem.ClaimMapViews
import Derived.JoinedTies
import Derived.KernelRfl
namespace Go.Proofs.Ytbnkdfmomcmmaaa
/- THE CELL 'sum', in the pinned program and in every row, IS THE sha256 OF THE DUMP (.gsa) THAT YtbnkdfmomcmmaaaProg.lean LOADS. Nothing in Lean hashes anything: it is a label: what it is worth is what the hold of that sum in a sandbox is worth. -/
noncomputable def Try.pinned : Pinned := { name := "ytbnkdfmomcmmaaa", sum := "31ee4bd81e527f50fc4cce750b4b94d9b3278197ccdefe9e825a622849df6c86", checked := Try.checked }
namespace Rows
def none {H : Type} : Left H := { results := [], args := [] }

/-- 'laws.FnExactCountLoops': WHATEVER THE INPUT: true; the input reads as it did. -/
def fnExactCountLoopsSpec : ChangeSpec := { name := "fnExactCountLoops", fn := fun _ => fun
  | [d] => { results := [.lit (.bool true)], args := [d] }
  | _ => none }
def fnExactCountLoopsRow : OpenClaim := { program := "ytbnkdfmomcmmaaa", sum := "31ee4bd81e527f50fc4cce750b4b94d9b3278197ccdefe9e825a622849df6c86", func := "loop.example/g01233/laws.FnExactCountLoops", spec := "fnExactCountLoops", unfollowed := true, recurses := true, plainKeys := false, apart := false }
def FnExactCountLoopsSaid : Prop := fnExactCountLoopsRow.holds Try.pinned (OpenSpec.ofChange fnExactCountLoopsSpec)

/-- ITS FALSE NEIGHBOUR: 'it returns false'. Refute it at one input. -/
def fnExactCountLoopsWrong : ChangeSpec := { name := "fnExactCountLoops", fn := fun _ => fun
  | [d] => { results := [.lit (.bool false)], args := [d] }
  | _ => none }
def FnExactCountLoopsWrongFalsely : Prop := fnExactCountLoopsRow.holds Try.pinned (OpenSpec.ofChange fnExactCountLoopsWrong)

/-- 'laws.FnExactAllLoops': WHATEVER THE INPUT: true; the input reads as it did. -/
def fnExactAllLoopsSpec : ChangeSpec := { name := "fnExactAllLoops", fn := fun _ => fun
  | [d] => { results := [.lit (.bool true)], args := [d] }
  | _ => none }
def fnExactAllLoopsRow : OpenClaim := { program := "ytbnkdfmomcmmaaa", sum := "31ee4bd81e527f50fc4cce750b4b94d9b3278197ccdefe9e825a622849df6c86", func := "loop.example/g01233/laws.FnExactAllLoops", spec := "fnExactAllLoops", unfollowed := true, recurses := true, plainKeys := false, apart := false }
def FnExactAllLoopsSaid : Prop := fnExactAllLoopsRow.holds Try.pinned (OpenSpec.ofChange fnExactAllLoopsSpec)

/-- ITS FALSE NEIGHBOUR: 'it returns false'. Refute it at one input. -/
def fnExactAllLoopsWrong : ChangeSpec := { name := "fnExactAllLoops", fn := fun _ => fun
  | [d] => { results := [.lit (.bool false)], args := [d] }
  | _ => none }
def FnExactAllLoopsWrongFalsely : Prop := fnExactAllLoopsRow.holds Try.pinned (OpenSpec.ofChange fnExactAllLoopsWrong)

/-- 'laws.FnExactCountLoopsWithArea': WHATEVER THE INPUT: true; the input reads as it did. -/
def fnExactCountLoopsWithAreaSpec : ChangeSpec := { name := "fnExactCountLoopsWithArea", fn := fun _ => fun
  | [d1, d2] => { results := [.lit (.bool true)], args := [d1, d2] }
  | _ => none }
def fnExactCountLoopsWithAreaRow : OpenClaim := { program := "ytbnkdfmomcmmaaa", sum := "31ee4bd81e527f50fc4cce750b4b94d9b3278197ccdefe9e825a622849df6c86", func := "loop.example/g01233/laws.FnExactCountLoopsWithArea", spec := "fnExactCountLoopsWithArea", unfollowed := true, recurses := true, plainKeys := false, apart := false }
def FnExactCountLoopsWithAreaSaid : Prop := fnExactCountLoopsWithAreaRow.holds Try.pinned (OpenSpec.ofChange fnExactCountLoopsWithAreaSpec)

/-- ITS FALSE NEIGHBOUR: 'it returns false'. Refute it at one input. -/
def fnExactCountLoopsWithAreaWrong : ChangeSpec := { name := "fnExactCountLoopsWithArea", fn := fun _ => fun
  | [d1, d2] => { results := [.lit (.bool false)], args := [d1, d2] }
  | _ => none }
def FnExactCountLoopsWithAreaWrongFalsely : Prop := fnExactCountLoopsWithAreaRow.holds Try.pinned (OpenSpec.ofChange fnExactCountLoopsWithAreaWrong)

/- THE SECOND FORM. 'bulk': how many values and letters a reading holds, each counted each time it is reached (what is shared counts as often as it is met; a slice's spare places count too). A statement '..UptoSaid' is the law's where the arguments, and the package variables that the reading takes, are together of bulk at most 1048576: NARROWER than '..Said'. Prove '..Said' where nothing that the law and all that it calls make is longer than what came in: it says more and counts as full. Else prove '..UptoSaid'. A law counts once. -/
mutual
def uptoBulk {H : Type} : DataW H → Nat
  | .lit (.string bytes) => bytes.length + 1
  | .lit _ => 1
  | .nil => 1
  | .ptr d => uptoBulk d + 1
  | .slice elems spare => uptoBulkAll elems + uptoBulkAll spare + 1
  | .agg parts => uptoBulkAll parts + 1
  | .iface _ d => uptoBulk d + 1
  | .map entries => uptoBulkEntries entries + 1
  | .held _ => 1
def uptoBulkAll {H : Type} : List (DataW H) → Nat
  | [] => 0
  | d :: r => uptoBulk d + uptoBulkAll r
def uptoBulkEntries {H : Type} : List (Lit × DataW H) → Nat
  | [] => 0
  | x :: r => uptoBulkEntry x + uptoBulkEntries r
def uptoBulkEntry {H : Type} : Lit × DataW H → Nat
  | (.string bytes, d) => bytes.length + uptoBulk d + 1
  | (_, d) => uptoBulk d + 1
 end
def uptoSmall : (H : Type) → List (DataW H) → Bool := fun _ ds => decide (uptoBulkAll ds ≤ 1048576)
def OpenSpec.upto (s : _root_.Go.ChangeSpec) : _root_.Go.OpenSpec := { _root_.Go.OpenSpec.ofChange s with cond := some uptoSmall }

/-- 'laws.FnExactCountLoops', WHERE WHAT IT READS IS OF BULK AT MOST 1048576: true; the input reads as it did. -/
def fnExactCountLoopsUptoRow : OpenClaim := { program := "ytbnkdfmomcmmaaa", sum := "31ee4bd81e527f50fc4cce750b4b94d9b3278197ccdefe9e825a622849df6c86", func := "loop.example/g01233/laws.FnExactCountLoops", spec := "fnExactCountLoops", unfollowed := true, recurses := true, plainKeys := false, apart := false, narrowed := true }
def FnExactCountLoopsUptoSaid : Prop := fnExactCountLoopsUptoRow.holds Try.pinned (OpenSpec.upto fnExactCountLoopsSpec)

/-- 'laws.FnExactAllLoops', WHERE WHAT IT READS IS OF BULK AT MOST 1048576: true; the input reads as it did. -/
def fnExactAllLoopsUptoRow : OpenClaim := { program := "ytbnkdfmomcmmaaa", sum := "31ee4bd81e527f50fc4cce750b4b94d9b3278197ccdefe9e825a622849df6c86", func := "loop.example/g01233/laws.FnExactAllLoops", spec := "fnExactAllLoops", unfollowed := true, recurses := true, plainKeys := false, apart := false, narrowed := true }
def FnExactAllLoopsUptoSaid : Prop := fnExactAllLoopsUptoRow.holds Try.pinned (OpenSpec.upto fnExactAllLoopsSpec)

/-- 'laws.FnExactCountLoopsWithArea', WHERE WHAT IT READS IS OF BULK AT MOST 1048576: true; the input reads as it did. -/
def fnExactCountLoopsWithAreaUptoRow : OpenClaim := { program := "ytbnkdfmomcmmaaa", sum := "31ee4bd81e527f50fc4cce750b4b94d9b3278197ccdefe9e825a622849df6c86", func := "loop.example/g01233/laws.FnExactCountLoopsWithArea", spec := "fnExactCountLoopsWithArea", unfollowed := true, recurses := true, plainKeys := false, apart := false, narrowed := true }
def FnExactCountLoopsWithAreaUptoSaid : Prop := fnExactCountLoopsWithAreaUptoRow.holds Try.pinned (OpenSpec.upto fnExactCountLoopsWithAreaSpec)

end Rows
end Go.Proofs.Ytbnkdfmomcmmaaa
