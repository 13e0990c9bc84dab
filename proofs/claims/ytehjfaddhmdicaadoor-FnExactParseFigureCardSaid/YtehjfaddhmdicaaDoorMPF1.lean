/- For every input the law FnExactParseFigure answers true: the program's ParseFigure tells what the reference's ParseFigure tells; no condition. (part 1 of the proof; the words of the kit's print tool and the texts of this seat, merged by a program) -/
import Derived.ArgAppend
import Derived.Below
import Derived.BigQuiet
import Derived.Deep.AppendLies
import Derived.Deep.CutBlock
import Derived.Deep.DeepCutAuto
import Derived.Deep.Draws
import Derived.Deep.LoopGhost
import Derived.Deep.OwnRows
import Derived.Deep.QuietTactic
import Derived.Deep.RegionHeld3
import Derived.DeepKeys4
import Derived.IntWalk
import Derived.KernelRfl
import Derived.Laws.Bits64b
import Derived.Laws.BitsLemmas
import Derived.Laws.BytesArg
import Derived.Laws.IdiomCopy
import Derived.Laws.MakeOwn
import Derived.Laws.OwnMore
import Derived.Laws.Rows
import Derived.Laws.Slices
import Derived.Lib.AppendStr
import Derived.Lib.ConvBytes
import Derived.Lib.SlBytesConst
import Derived.Lib.TrailingZeros
import Derived.Maps.AppendAt
import Derived.Maps.OwnSet
import Derived.OrdersHeld
import Derived.OwnWalk
import Derived.RowKit
import Derived.RowKit3
import Derived.Shelf.Abstract
import Derived.Shelf.Strings.OnBuilder
import Derived.Shelf.Strings.Split
import Derived.Tactics
import Derived.Test.YtehjfaddhmdicaaDoorProg
import Derived.Test.YtehjfaddhmdicaaDoorPshelf
import Derived.WalkKit
import Derived.WideLaws
import Derived.Test.YtehjfaddhmdicaaDoorMPF0
namespace Go.Proofs.YtehjfaddhmdicaaDoor.P
open Go.RowKit Go.Proofs.YtehjfaddhmdicaaDoorW.PrintWords Go.Proofs.YtehjfaddhmdicaaDoorW.PrintLast Go.Proofs.YtehjfaddhmdicaaDoorW.PrintMore
attribute [local go_sem] max2_int min2_int max_two min_two max_three min_three max_four min_four   -- for this text's walks alone
set_option linter.unusedVariables false
set_option linter.unusedSimpArgs false



def errW : Option Int → Value
  | none => .nilIface
  | some c => .iface 0 (.int .i64 c)
theorem errW_none : errW none = .nilIface := rfl
theorem errW_some (c : Int) : errW (some c) = .iface 0 (.int .i64 c) := rfl

theorem info3 : (Tryd.prog.info? 3).map (fun i => (i.zero, i.size, i.bytes)) = some (some (.int .i64 0), 1, 8) := by kernel_rfl
theorem info9 : (Tryd.prog.info? 9).map (fun i => (i.zero, i.size, i.bytes)) = some (some (.string ⟨#[]⟩), 1, 16) := by kernel_rfl
structure S36 where
  f0 : Int
  f1 : Int
  f2 : (List Int)
  f3 : (List Int)
structure S122 where
  f0 : Int
  f1 : Int
  f2 : Int
  f3 : Int
structure S118 where
  f0 : Int
  f1 : Int
  f2 : Int
  f3 : Int
structure S102 where
  f0 : Bool
  f1 : Int
  f2 : Int
  f3 : Int
  f4 : Int
structure S58 where
  f0 : (List Int)
  f1 : Int
structure S84 where
  f0 : Int
  f1 : Int
structure S75 where
  f0 : Int
  f1 : Int
end Go.Proofs.YtehjfaddhmdicaaDoor.P
namespace Go.Proofs.YtehjfaddhmdicaaDoor.P
open Go.RowKit Go.Proofs.YtehjfaddhmdicaaDoorW.PrintWords Go.Proofs.YtehjfaddhmdicaaDoorW.PrintLast Go.Proofs.YtehjfaddhmdicaaDoorW.PrintMore
theorem bk_ {A B : Prop} (a_ : A) (h : A → B := by (intro a_; (with_reducible repeat (first | refine blk_drewN ?_ _ | refine blk_drew ?_ | refine blk_alloc ?_ _)); exact a_)) : B := h a_
theorem bf1_ {A B N1 : Prop} (n1_ : N1) (a_ : A) (h : N1 → A → B := by (intro n1_ a_; (with_reducible repeat (first | refine blk_drewN ?_ _ | refine blk_drew ?_ | refine blk_alloc ?_ _)); refine blk_far ?_ n1_ _; (with_reducible repeat (first | refine blk_drewN ?_ _ | refine blk_drew ?_ | refine blk_alloc ?_ _)); exact a_)) : B := h n1_ a_
theorem bf2_ {A B N1 N2 : Prop} (n1_ : N1) (n2_ : N2) (a_ : A) (h : N1 → N2 → A → B := by (intro n1_ n2_ a_; (with_reducible repeat (first | refine blk_drewN ?_ _ | refine blk_drew ?_ | refine blk_alloc ?_ _)); refine blk_far ?_ n1_ _; (with_reducible repeat (first | refine blk_drewN ?_ _ | refine blk_drew ?_ | refine blk_alloc ?_ _)); refine blk_far ?_ n2_ _; (with_reducible repeat (first | refine blk_drewN ?_ _ | refine blk_drew ?_ | refine blk_alloc ?_ _)); exact a_)) : B := h n1_ n2_ a_
theorem bf3_ {A B N1 N2 N3 : Prop} (n1_ : N1) (n2_ : N2) (n3_ : N3) (a_ : A) (h : N1 → N2 → N3 → A → B := by (intro n1_ n2_ n3_ a_; (with_reducible repeat (first | refine blk_drewN ?_ _ | refine blk_drew ?_ | refine blk_alloc ?_ _)); refine blk_far ?_ n1_ _; (with_reducible repeat (first | refine blk_drewN ?_ _ | refine blk_drew ?_ | refine blk_alloc ?_ _)); refine blk_far ?_ n2_ _; (with_reducible repeat (first | refine blk_drewN ?_ _ | refine blk_drew ?_ | refine blk_alloc ?_ _)); refine blk_far ?_ n3_ _; (with_reducible repeat (first | refine blk_drewN ?_ _ | refine blk_drew ?_ | refine blk_alloc ?_ _)); exact a_)) : B := h n1_ n2_ n3_ a_
theorem bf4_ {A B N1 N2 N3 N4 : Prop} (n1_ : N1) (n2_ : N2) (n3_ : N3) (n4_ : N4) (a_ : A) (h : N1 → N2 → N3 → N4 → A → B := by (intro n1_ n2_ n3_ n4_ a_; (with_reducible repeat (first | refine blk_drewN ?_ _ | refine blk_drew ?_ | refine blk_alloc ?_ _)); refine blk_far ?_ n1_ _; (with_reducible repeat (first | refine blk_drewN ?_ _ | refine blk_drew ?_ | refine blk_alloc ?_ _)); refine blk_far ?_ n2_ _; (with_reducible repeat (first | refine blk_drewN ?_ _ | refine blk_drew ?_ | refine blk_alloc ?_ _)); refine blk_far ?_ n3_ _; (with_reducible repeat (first | refine blk_drewN ?_ _ | refine blk_drew ?_ | refine blk_alloc ?_ _)); refine blk_far ?_ n4_ _; (with_reducible repeat (first | refine blk_drewN ?_ _ | refine blk_drew ?_ | refine blk_alloc ?_ _)); exact a_)) : B := h n1_ n2_ n3_ n4_ a_
theorem bf5_ {A B N1 N2 N3 N4 N5 : Prop} (n1_ : N1) (n2_ : N2) (n3_ : N3) (n4_ : N4) (n5_ : N5) (a_ : A) (h : N1 → N2 → N3 → N4 → N5 → A → B := by (intro n1_ n2_ n3_ n4_ n5_ a_; (with_reducible repeat (first | refine blk_drewN ?_ _ | refine blk_drew ?_ | refine blk_alloc ?_ _)); refine blk_far ?_ n1_ _; (with_reducible repeat (first | refine blk_drewN ?_ _ | refine blk_drew ?_ | refine blk_alloc ?_ _)); refine blk_far ?_ n2_ _; (with_reducible repeat (first | refine blk_drewN ?_ _ | refine blk_drew ?_ | refine blk_alloc ?_ _)); refine blk_far ?_ n3_ _; (with_reducible repeat (first | refine blk_drewN ?_ _ | refine blk_drew ?_ | refine blk_alloc ?_ _)); refine blk_far ?_ n4_ _; (with_reducible repeat (first | refine blk_drewN ?_ _ | refine blk_drew ?_ | refine blk_alloc ?_ _)); refine blk_far ?_ n5_ _; (with_reducible repeat (first | refine blk_drewN ?_ _ | refine blk_drew ?_ | refine blk_alloc ?_ _)); exact a_)) : B := h n1_ n2_ n3_ n4_ n5_ a_
theorem bf6_ {A B N1 N2 N3 N4 N5 N6 : Prop} (n1_ : N1) (n2_ : N2) (n3_ : N3) (n4_ : N4) (n5_ : N5) (n6_ : N6) (a_ : A) (h : N1 → N2 → N3 → N4 → N5 → N6 → A → B := by (intro n1_ n2_ n3_ n4_ n5_ n6_ a_; (with_reducible repeat (first | refine blk_drewN ?_ _ | refine blk_drew ?_ | refine blk_alloc ?_ _)); refine blk_far ?_ n1_ _; (with_reducible repeat (first | refine blk_drewN ?_ _ | refine blk_drew ?_ | refine blk_alloc ?_ _)); refine blk_far ?_ n2_ _; (with_reducible repeat (first | refine blk_drewN ?_ _ | refine blk_drew ?_ | refine blk_alloc ?_ _)); refine blk_far ?_ n3_ _; (with_reducible repeat (first | refine blk_drewN ?_ _ | refine blk_drew ?_ | refine blk_alloc ?_ _)); refine blk_far ?_ n4_ _; (with_reducible repeat (first | refine blk_drewN ?_ _ | refine blk_drew ?_ | refine blk_alloc ?_ _)); refine blk_far ?_ n5_ _; (with_reducible repeat (first | refine blk_drewN ?_ _ | refine blk_drew ?_ | refine blk_alloc ?_ _)); refine blk_far ?_ n6_ _; (with_reducible repeat (first | refine blk_drewN ?_ _ | refine blk_drew ?_ | refine blk_alloc ?_ _)); exact a_)) : B := h n1_ n2_ n3_ n4_ n5_ n6_ a_
theorem bf7_ {A B N1 N2 N3 N4 N5 N6 N7 : Prop} (n1_ : N1) (n2_ : N2) (n3_ : N3) (n4_ : N4) (n5_ : N5) (n6_ : N6) (n7_ : N7) (a_ : A) (h : N1 → N2 → N3 → N4 → N5 → N6 → N7 → A → B := by (intro n1_ n2_ n3_ n4_ n5_ n6_ n7_ a_; (with_reducible repeat (first | refine blk_drewN ?_ _ | refine blk_drew ?_ | refine blk_alloc ?_ _)); refine blk_far ?_ n1_ _; (with_reducible repeat (first | refine blk_drewN ?_ _ | refine blk_drew ?_ | refine blk_alloc ?_ _)); refine blk_far ?_ n2_ _; (with_reducible repeat (first | refine blk_drewN ?_ _ | refine blk_drew ?_ | refine blk_alloc ?_ _)); refine blk_far ?_ n3_ _; (with_reducible repeat (first | refine blk_drewN ?_ _ | refine blk_drew ?_ | refine blk_alloc ?_ _)); refine blk_far ?_ n4_ _; (with_reducible repeat (first | refine blk_drewN ?_ _ | refine blk_drew ?_ | refine blk_alloc ?_ _)); refine blk_far ?_ n5_ _; (with_reducible repeat (first | refine blk_drewN ?_ _ | refine blk_drew ?_ | refine blk_alloc ?_ _)); refine blk_far ?_ n6_ _; (with_reducible repeat (first | refine blk_drewN ?_ _ | refine blk_drew ?_ | refine blk_alloc ?_ _)); refine blk_far ?_ n7_ _; (with_reducible repeat (first | refine blk_drewN ?_ _ | refine blk_drew ?_ | refine blk_alloc ?_ _)); exact a_)) : B := h n1_ n2_ n3_ n4_ n5_ n6_ n7_ a_
theorem bf8_ {A B N1 N2 N3 N4 N5 N6 N7 N8 : Prop} (n1_ : N1) (n2_ : N2) (n3_ : N3) (n4_ : N4) (n5_ : N5) (n6_ : N6) (n7_ : N7) (n8_ : N8) (a_ : A) (h : N1 → N2 → N3 → N4 → N5 → N6 → N7 → N8 → A → B := by (intro n1_ n2_ n3_ n4_ n5_ n6_ n7_ n8_ a_; (with_reducible repeat (first | refine blk_drewN ?_ _ | refine blk_drew ?_ | refine blk_alloc ?_ _)); refine blk_far ?_ n1_ _; (with_reducible repeat (first | refine blk_drewN ?_ _ | refine blk_drew ?_ | refine blk_alloc ?_ _)); refine blk_far ?_ n2_ _; (with_reducible repeat (first | refine blk_drewN ?_ _ | refine blk_drew ?_ | refine blk_alloc ?_ _)); refine blk_far ?_ n3_ _; (with_reducible repeat (first | refine blk_drewN ?_ _ | refine blk_drew ?_ | refine blk_alloc ?_ _)); refine blk_far ?_ n4_ _; (with_reducible repeat (first | refine blk_drewN ?_ _ | refine blk_drew ?_ | refine blk_alloc ?_ _)); refine blk_far ?_ n5_ _; (with_reducible repeat (first | refine blk_drewN ?_ _ | refine blk_drew ?_ | refine blk_alloc ?_ _)); refine blk_far ?_ n6_ _; (with_reducible repeat (first | refine blk_drewN ?_ _ | refine blk_drew ?_ | refine blk_alloc ?_ _)); refine blk_far ?_ n7_ _; (with_reducible repeat (first | refine blk_drewN ?_ _ | refine blk_drew ?_ | refine blk_alloc ?_ _)); refine blk_far ?_ n8_ _; (with_reducible repeat (first | refine blk_drewN ?_ _ | refine blk_drew ?_ | refine blk_alloc ?_ _)); exact a_)) : B := h n1_ n2_ n3_ n4_ n5_ n6_ n7_ n8_ a_
theorem bl0_ {A B  : Prop} (a_ : A)  (h : A → B := by (intro a_ ; repeat (first | (with_reducible first | exact a_ | apply below_alloc | apply pw_below_drewN | apply below_drew1) | exact a_))) : B := h a_ 
theorem bl1_ {A B N1 : Prop} (a_ : A) (n1_ : N1) (h : A → N1 → B := by (intro a_ n1_; repeat (first | (with_reducible first | exact a_ | apply below_alloc | apply pw_below_drewN | apply below_drew1 | refine below_set ?_ n1_) | exact a_))) : B := h a_ n1_
theorem bl2_ {A B N1 N2 : Prop} (a_ : A) (n1_ : N1) (n2_ : N2) (h : A → N1 → N2 → B := by (intro a_ n1_ n2_; repeat (first | (with_reducible first | exact a_ | apply below_alloc | apply pw_below_drewN | apply below_drew1 | refine below_set ?_ n1_ | refine below_set ?_ n2_) | exact a_))) : B := h a_ n1_ n2_
theorem bl3_ {A B N1 N2 N3 : Prop} (a_ : A) (n1_ : N1) (n2_ : N2) (n3_ : N3) (h : A → N1 → N2 → N3 → B := by (intro a_ n1_ n2_ n3_; repeat (first | (with_reducible first | exact a_ | apply below_alloc | apply pw_below_drewN | apply below_drew1 | refine below_set ?_ n1_ | refine below_set ?_ n2_ | refine below_set ?_ n3_) | exact a_))) : B := h a_ n1_ n2_ n3_
theorem bl4_ {A B N1 N2 N3 N4 : Prop} (a_ : A) (n1_ : N1) (n2_ : N2) (n3_ : N3) (n4_ : N4) (h : A → N1 → N2 → N3 → N4 → B := by (intro a_ n1_ n2_ n3_ n4_; repeat (first | (with_reducible first | exact a_ | apply below_alloc | apply pw_below_drewN | apply below_drew1 | refine below_set ?_ n1_ | refine below_set ?_ n2_ | refine below_set ?_ n3_ | refine below_set ?_ n4_) | exact a_))) : B := h a_ n1_ n2_ n3_ n4_
theorem bl5_ {A B N1 N2 N3 N4 N5 : Prop} (a_ : A) (n1_ : N1) (n2_ : N2) (n3_ : N3) (n4_ : N4) (n5_ : N5) (h : A → N1 → N2 → N3 → N4 → N5 → B := by (intro a_ n1_ n2_ n3_ n4_ n5_; repeat (first | (with_reducible first | exact a_ | apply below_alloc | apply pw_below_drewN | apply below_drew1 | refine below_set ?_ n1_ | refine below_set ?_ n2_ | refine below_set ?_ n3_ | refine below_set ?_ n4_ | refine below_set ?_ n5_) | exact a_))) : B := h a_ n1_ n2_ n3_ n4_ n5_
theorem bl6_ {A B N1 N2 N3 N4 N5 N6 : Prop} (a_ : A) (n1_ : N1) (n2_ : N2) (n3_ : N3) (n4_ : N4) (n5_ : N5) (n6_ : N6) (h : A → N1 → N2 → N3 → N4 → N5 → N6 → B := by (intro a_ n1_ n2_ n3_ n4_ n5_ n6_; repeat (first | (with_reducible first | exact a_ | apply below_alloc | apply pw_below_drewN | apply below_drew1 | refine below_set ?_ n1_ | refine below_set ?_ n2_ | refine below_set ?_ n3_ | refine below_set ?_ n4_ | refine below_set ?_ n5_ | refine below_set ?_ n6_) | exact a_))) : B := h a_ n1_ n2_ n3_ n4_ n5_ n6_
theorem bl7_ {A B N1 N2 N3 N4 N5 N6 N7 : Prop} (a_ : A) (n1_ : N1) (n2_ : N2) (n3_ : N3) (n4_ : N4) (n5_ : N5) (n6_ : N6) (n7_ : N7) (h : A → N1 → N2 → N3 → N4 → N5 → N6 → N7 → B := by (intro a_ n1_ n2_ n3_ n4_ n5_ n6_ n7_; repeat (first | (with_reducible first | exact a_ | apply below_alloc | apply pw_below_drewN | apply below_drew1 | refine below_set ?_ n1_ | refine below_set ?_ n2_ | refine below_set ?_ n3_ | refine below_set ?_ n4_ | refine below_set ?_ n5_ | refine below_set ?_ n6_ | refine below_set ?_ n7_) | exact a_))) : B := h a_ n1_ n2_ n3_ n4_ n5_ n6_ n7_
theorem bl8_ {A B N1 N2 N3 N4 N5 N6 N7 N8 : Prop} (a_ : A) (n1_ : N1) (n2_ : N2) (n3_ : N3) (n4_ : N4) (n5_ : N5) (n6_ : N6) (n7_ : N7) (n8_ : N8) (h : A → N1 → N2 → N3 → N4 → N5 → N6 → N7 → N8 → B := by (intro a_ n1_ n2_ n3_ n4_ n5_ n6_ n7_ n8_; repeat (first | (with_reducible first | exact a_ | apply below_alloc | apply pw_below_drewN | apply below_drew1 | refine below_set ?_ n1_ | refine below_set ?_ n2_ | refine below_set ?_ n3_ | refine below_set ?_ n4_ | refine below_set ?_ n5_ | refine below_set ?_ n6_ | refine below_set ?_ n7_ | refine below_set ?_ n8_) | exact a_))) : B := h a_ n1_ n2_ n3_ n4_ n5_ n6_ n7_ n8_
theorem nl_ {w0 W : World} {g gb : Nat} {o : Obj} (hg : gb = W.heap.size) (a_ : w0.heap[g]? = some o) (h : w0.heap[g]? = some o → W.heap[g]? = some o := by (intro a_; (with_reducible repeat (first | refine blk_drewN ?_ _ | refine blk_drew ?_ | refine blk_alloc ?_ _)); exact a_)) : g ≠ gb := by rw [hg]; exact Nat.ne_of_lt (blk_lt (h a_))
theorem ng_ {w0 W : World} {g gb : Nat} {o : Obj} (hg : gb = W.heap.size) (a_ : w0.heap[g]? = some o) (h : w0.heap[g]? = some o → W.heap[g]? = some o := by (intro a_; (with_reducible repeat (first | refine blk_drewN ?_ _ | refine blk_drew ?_ | refine blk_alloc ?_ _)); exact a_)) : gb ≠ g := by rw [hg]; exact Nat.ne_of_gt (blk_lt (h a_))
theorem bb_ {w0 W W2 : World} {g : Nat} {o : Obj} (a_ : w0.heap[g]? = some o) (hb : Below W.heap.size W W2) (h : w0.heap[g]? = some o → W.heap[g]? = some o := by (intro a_; (with_reducible repeat (first | refine blk_drewN ?_ _ | refine blk_drew ?_ | refine blk_alloc ?_ _)); exact a_)) : W2.heap[g]? = some o := blk_below (h a_) hb
theorem bs0_ {A  : Prop} {w W : World} {gb : Nat} (hg : gb = W.heap.size) (a_ : A)  (h : A → Below w.heap.size w W := by (intro a_ ; repeat (first | (with_reducible first | exact a_ | apply below_alloc | apply pw_below_drewN | apply below_drew1) | exact a_))) : w.heap.size ≤ gb := by rw [hg]; exact below_size (h a_ )
theorem bs1_ {A N1 : Prop} {w W : World} {gb : Nat} (hg : gb = W.heap.size) (a_ : A) (n1_ : N1) (h : A → N1 → Below w.heap.size w W := by (intro a_ n1_; repeat (first | (with_reducible first | exact a_ | apply below_alloc | apply pw_below_drewN | apply below_drew1 | refine below_set ?_ n1_) | exact a_))) : w.heap.size ≤ gb := by rw [hg]; exact below_size (h a_ n1_)
theorem bs2_ {A N1 N2 : Prop} {w W : World} {gb : Nat} (hg : gb = W.heap.size) (a_ : A) (n1_ : N1) (n2_ : N2) (h : A → N1 → N2 → Below w.heap.size w W := by (intro a_ n1_ n2_; repeat (first | (with_reducible first | exact a_ | apply below_alloc | apply pw_below_drewN | apply below_drew1 | refine below_set ?_ n1_ | refine below_set ?_ n2_) | exact a_))) : w.heap.size ≤ gb := by rw [hg]; exact below_size (h a_ n1_ n2_)
theorem bs3_ {A N1 N2 N3 : Prop} {w W : World} {gb : Nat} (hg : gb = W.heap.size) (a_ : A) (n1_ : N1) (n2_ : N2) (n3_ : N3) (h : A → N1 → N2 → N3 → Below w.heap.size w W := by (intro a_ n1_ n2_ n3_; repeat (first | (with_reducible first | exact a_ | apply below_alloc | apply pw_below_drewN | apply below_drew1 | refine below_set ?_ n1_ | refine below_set ?_ n2_ | refine below_set ?_ n3_) | exact a_))) : w.heap.size ≤ gb := by rw [hg]; exact below_size (h a_ n1_ n2_ n3_)
theorem bs4_ {A N1 N2 N3 N4 : Prop} {w W : World} {gb : Nat} (hg : gb = W.heap.size) (a_ : A) (n1_ : N1) (n2_ : N2) (n3_ : N3) (n4_ : N4) (h : A → N1 → N2 → N3 → N4 → Below w.heap.size w W := by (intro a_ n1_ n2_ n3_ n4_; repeat (first | (with_reducible first | exact a_ | apply below_alloc | apply pw_below_drewN | apply below_drew1 | refine below_set ?_ n1_ | refine below_set ?_ n2_ | refine below_set ?_ n3_ | refine below_set ?_ n4_) | exact a_))) : w.heap.size ≤ gb := by rw [hg]; exact below_size (h a_ n1_ n2_ n3_ n4_)
theorem bs5_ {A N1 N2 N3 N4 N5 : Prop} {w W : World} {gb : Nat} (hg : gb = W.heap.size) (a_ : A) (n1_ : N1) (n2_ : N2) (n3_ : N3) (n4_ : N4) (n5_ : N5) (h : A → N1 → N2 → N3 → N4 → N5 → Below w.heap.size w W := by (intro a_ n1_ n2_ n3_ n4_ n5_; repeat (first | (with_reducible first | exact a_ | apply below_alloc | apply pw_below_drewN | apply below_drew1 | refine below_set ?_ n1_ | refine below_set ?_ n2_ | refine below_set ?_ n3_ | refine below_set ?_ n4_ | refine below_set ?_ n5_) | exact a_))) : w.heap.size ≤ gb := by rw [hg]; exact below_size (h a_ n1_ n2_ n3_ n4_ n5_)
theorem bs6_ {A N1 N2 N3 N4 N5 N6 : Prop} {w W : World} {gb : Nat} (hg : gb = W.heap.size) (a_ : A) (n1_ : N1) (n2_ : N2) (n3_ : N3) (n4_ : N4) (n5_ : N5) (n6_ : N6) (h : A → N1 → N2 → N3 → N4 → N5 → N6 → Below w.heap.size w W := by (intro a_ n1_ n2_ n3_ n4_ n5_ n6_; repeat (first | (with_reducible first | exact a_ | apply below_alloc | apply pw_below_drewN | apply below_drew1 | refine below_set ?_ n1_ | refine below_set ?_ n2_ | refine below_set ?_ n3_ | refine below_set ?_ n4_ | refine below_set ?_ n5_ | refine below_set ?_ n6_) | exact a_))) : w.heap.size ≤ gb := by rw [hg]; exact below_size (h a_ n1_ n2_ n3_ n4_ n5_ n6_)
theorem bs7_ {A N1 N2 N3 N4 N5 N6 N7 : Prop} {w W : World} {gb : Nat} (hg : gb = W.heap.size) (a_ : A) (n1_ : N1) (n2_ : N2) (n3_ : N3) (n4_ : N4) (n5_ : N5) (n6_ : N6) (n7_ : N7) (h : A → N1 → N2 → N3 → N4 → N5 → N6 → N7 → Below w.heap.size w W := by (intro a_ n1_ n2_ n3_ n4_ n5_ n6_ n7_; repeat (first | (with_reducible first | exact a_ | apply below_alloc | apply pw_below_drewN | apply below_drew1 | refine below_set ?_ n1_ | refine below_set ?_ n2_ | refine below_set ?_ n3_ | refine below_set ?_ n4_ | refine below_set ?_ n5_ | refine below_set ?_ n6_ | refine below_set ?_ n7_) | exact a_))) : w.heap.size ≤ gb := by rw [hg]; exact below_size (h a_ n1_ n2_ n3_ n4_ n5_ n6_ n7_)
theorem bs8_ {A N1 N2 N3 N4 N5 N6 N7 N8 : Prop} {w W : World} {gb : Nat} (hg : gb = W.heap.size) (a_ : A) (n1_ : N1) (n2_ : N2) (n3_ : N3) (n4_ : N4) (n5_ : N5) (n6_ : N6) (n7_ : N7) (n8_ : N8) (h : A → N1 → N2 → N3 → N4 → N5 → N6 → N7 → N8 → Below w.heap.size w W := by (intro a_ n1_ n2_ n3_ n4_ n5_ n6_ n7_ n8_; repeat (first | (with_reducible first | exact a_ | apply below_alloc | apply pw_below_drewN | apply below_drew1 | refine below_set ?_ n1_ | refine below_set ?_ n2_ | refine below_set ?_ n3_ | refine below_set ?_ n4_ | refine below_set ?_ n5_ | refine below_set ?_ n6_ | refine below_set ?_ n7_ | refine below_set ?_ n8_) | exact a_))) : w.heap.size ≤ gb := by rw [hg]; exact below_size (h a_ n1_ n2_ n3_ n4_ n5_ n6_ n7_ n8_)
theorem ap_ {A : Prop} (h : A := by (show Act.put _ (some _) _ = _; simp only [Act.put, List.setIfInBounds_toArray, List.set_cons_zero, List.set_cons_succ, i64_w, i32_w]; rfl)) : A := h
theorem er_ {A : Prop} (h : A := by (first | rfl | (simp [errW_none, errW_some] <;> rfl) | (simp [*, errW_none, errW_some] <;> rfl))) : A := h
theorem kr_ {A B : Prop} (a_ : A) (h : A → B := by (intro a_; (with_reducible repeat (first | apply Kd.R_alloc | apply Kd.R_drewN | apply Kd.R_drew)); exact a_)) : B := h a_
theorem kc_ {A B : Prop} (a_ : A) (h : A → B := by (intro a_; repeat (first | exact a_ | (with_reducible refine Kd.C_alloc ?_ _) | (with_reducible refine Kd.C_drewN ?_ _) | (with_reducible refine Kd.C_drew ?_)))) : B := h a_
theorem ob_ {A : Prop} (h : A := by ((try simp only [List.map_toArray, List.map_cons, List.map_nil]); first | done | rfl | (simp only [List.length_drop, List.length_take]; rfl))) : A := h
theorem rs_ {A : Prop} (h : A := by (first | rfl | (simp; done) | (simp [*]; done))) : A := h
theorem as_ {A : Prop} (h : A := by (first | (with_reducible assumption) | assumption)) : A := h
theorem boxE_ {P : Program} {ops : Array Oper} {Q : Exit → Act → World → Prop} {rest : List Oper} {a : Act} {o : Oper} {W : World} {N : Tmp} {cs : Array Value} {t : TypeId}
  (h : ∀ g, g = W.heap.size → ∀ w1, w1.heap[g]? = some (.cells cs t (0, 0)) → Below W.heap.size W w1 → wpList P ops Q rest (a.put o.dst (.pointer (some ⟨g, 0, none⟩))) w1)
  (hd : o.dst = some N := by rfl) (hg : o.guard = none := by rfl) (hr : (execOp a.eval o).run P W = .ok (.value (.pointer (some ⟨W.heap.size, 0, none⟩))) (W.alloc (.cells cs t (0, 0))) := by first | (go_simp; done) | (go_simp; rfl)) : wpList P ops Q (o :: rest) a W :=
 box_event hg hd hr h
end Go.Proofs.YtehjfaddhmdicaaDoor.P
namespace Go.Proofs.YtehjfaddhmdicaaDoor.P
open Go.RowKit Go.Proofs.YtehjfaddhmdicaaDoorW.PrintWords Go.Proofs.YtehjfaddhmdicaaDoorW.PrintLast Go.Proofs.YtehjfaddhmdicaaDoorW.PrintMore
attribute [local go_sem] max2_int min2_int max_two min_two max_three min_three max_four min_four   -- for this text's walks alone
set_option linter.unusedVariables false
set_option linter.unusedSimpArgs false

def spec_l1In.f (a0 : Int) (a1 : Int) (a2 : Int) : Option (Bool) := if a0 ≥ a1 then (some (decide (a0 ≤ a2))) else (some false)
set_option maxHeartbeats 8000000 in
set_option maxRecDepth 100000 in
theorem spec_l1In.calls (a0 : Int) (a1 : Int) (a2 : Int) (r : Bool) (w : World) (h : spec_l1In.f a0 a1 a2 = some r) :
    Calls Tryd.prog 75 #[.int .i64 a0, .int .i64 a1, .int .i64 a2] w fun e w' => e = .returned (.bool r) ∧ Drawn0 w w' := by
  have H : (if a0 ≥ a1 then (some (decide (a0 ≤ a2))) else (some false)) = some r := h
  clear h
  by_cases c4 : a0 ≥ a1
  · rw [if_pos c4] at H
    have c4b0 : decide (a1 ≤ a0) = true := decide_eq_true c4
    clear c4
    obtain rfl := Option.some.inj H
    go_enter Tryd.func75, Tryd.ntmps75
    go_wp2
    go_ret
    exact ⟨by first | rfl | (simp; done) | (simp [*]; done), by repeat (first | exact Drawn0.refl _ | apply Drawn0.step)⟩
  · rw [if_neg c4] at H
    have c4b0 : decide (a1 ≤ a0) = false := decide_eq_false c4
    clear c4
    obtain rfl := Option.some.inj H
    go_enter Tryd.func75, Tryd.ntmps75
    go_wp2
    go_ret
    exact ⟨by first | rfl | (simp; done) | (simp [*]; done), by repeat (first | exact Drawn0.refl _ | apply Drawn0.step)⟩


def spec_fiGrid.f (a0 : Int) (a1 : Int) : Option (Bool) := (spec_l1In.f a0 1 4).bind fun t101 => (if t101 = true then ((spec_l1In.f a1 1 4).bind fun t102 => (some t102)) else (some false))
set_option maxHeartbeats 8000000 in
set_option maxRecDepth 100000 in
theorem spec_fiGrid.calls (a0 : Int) (a1 : Int) (r : Bool) (w : World) (h : spec_fiGrid.f a0 a1 = some r) :
    Calls Tryd.prog 63 #[.int .i64 a0, .int .i64 a1] w fun e w' => e = .returned (.bool r) ∧ Drawn0 w w' := by
  have H : ((spec_l1In.f a0 1 4).bind fun t101 => (if t101 = true then ((spec_l1In.f a1 1 4).bind fun t102 => (some t102)) else (some false))) = some r := h
  clear h
  replace H := Option.bind_eq_some_iff.mp H
  obtain ⟨t101, A30, H⟩ := H
  replace H : (if t101 = true then ((spec_l1In.f a1 1 4).bind fun t102 => (some t102)) else (some false)) = some r := H
  have A3 := Aside0.mk A30
  clear A30
  by_cases c4 : t101 = true
  · subst c4
    have H1 : ((spec_l1In.f a1 1 4).bind fun t102 => (some t102)) = some r := by rw [if_pos rfl] at H; exact H
    clear H
    have H := H1
    clear H1
    replace H := Option.bind_eq_some_iff.mp H
    obtain ⟨t102, A50, H⟩ := H
    replace H : (some t102) = some r := H
    have A5 := Aside0.mk A50
    clear A50
    obtain rfl := Option.some.inj H
    go_enter Tryd.func63, Tryd.ntmps63
    go_wp2_with (first | ((with_reducible refine gate_callee (f := 75) rfl ?_); refine goesL_ (some 6) rfl rfl Tryd.func75 (by kernel_rfl) rfl #[.int .i64 a0, .int .i64 1, .int .i64 4] rfl ob_ ?_; (with_reducible refine (spec_l1In.calls a0 1 4 true _ A3.out).mono ?_); rintro e w' ⟨rfl, ⟨nd, rfl⟩⟩; refine ⟨_, rfl, ?_⟩) | (go_at_call 75; (with_reducible refine (spec_l1In.calls a1 1 4 t102 _ A5.out).mono ?_); rintro e w' ⟨rfl, ⟨nd, rfl⟩⟩))
    go_ret
    exact ⟨by first | rfl | (simp; done) | (simp [*]; done), by repeat (first | exact Drawn0.refl _ | apply Drawn0.step)⟩
  · replace c4 := Bool.eq_false_iff.mpr c4
    subst c4
    have H1 : (some false) = some r := by rw [if_neg (show ¬ (false = true) by decide)] at H; exact H
    clear H
    have H := H1
    clear H1
    obtain rfl := Option.some.inj H
    go_enter Tryd.func63, Tryd.ntmps63
    go_wp2_with (first | ((with_reducible refine gate_callee (f := 75) rfl ?_); refine goesL_ (some 6) rfl rfl Tryd.func75 (by kernel_rfl) rfl #[.int .i64 a0, .int .i64 1, .int .i64 4] rfl ob_ ?_; (with_reducible refine (spec_l1In.calls a0 1 4 false _ A3.out).mono ?_); rintro e w' ⟨rfl, ⟨nd, rfl⟩⟩; refine ⟨_, rfl, ?_⟩))
    go_ret
    exact ⟨by first | rfl | (simp; done) | (simp [*]; done), by repeat (first | exact Drawn0.refl _ | apply Drawn0.step)⟩


def spec_l1Split.l0 : Nat → ByteArray → Int → List ByteArray → Int → Int → Option (List ByteArray)
 | 0, _, _, _, _, _ => none
 | k + 1, x0, x1, x5, x6, x7 => if x7 < (x0.size : Int) then (if 0 ≤ x7 then (if (bt x0 x7) = x1 then (if 0 ≤ x6 then (if x6 ≤ x7 then (if x7 ≤ (x0.size : Int) then (if x5.length < 8796093022208 then (spec_l1Split.l0 k x0 x1 (x5 ++ [x0.extract (x6 : Int).toNat (x7 : Int).toNat]) (wrap64 (x7 + 1)) (wrap64 (x7 + 1))) else (none)) else (none)) else (none)) else (none)) else (spec_l1Split.l0 k x0 x1 x5 x6 (wrap64 (x7 + 1)))) else (none)) else (if 0 ≤ x6 then (if x6 ≤ (x0.size : Int) then (if x5.length < 8796093022208 then (some (x5 ++ [x0.extract (x6 : Int).toNat x0.size])) else (none)) else (none)) else (none))
def spec_l1Split.f (k : Nat) (a0 : ByteArray) (a1 : Int) : Option (List ByteArray) := spec_l1Split.l0 k a0 a1 ([] : List ByteArray) 0 0
theorem spec_l1Split.mono_l : ∀ k, (∀ y0 y1 y2 y3 y4, LeO (spec_l1Split.l0 k y0 y1 y2 y3 y4) (spec_l1Split.l0 (k + 1) y0 y1 y2 y3 y4))
 | 0 => fun _ _ _ _ _ r h => by simp [spec_l1Split.l0] at h
 | k + 1 => by
  have ih0 := spec_l1Split.mono_l k
  ·intro y0 y1 y2 y3 y4
   unfold spec_l1Split.l0
   repeat' first
   | (with_reducible exact ih0 _ _ _ _ _)
   | (with_reducible exact LeO.refl _)
   | (with_reducible exact LeO.none _)
   | (with_reducible refine LeO.ite ?_ ?_)
   | (with_reducible refine LeO.bind ?_ (fun _ => ?_))
   | exact ih0 _ _ _ _ _
   | exact LeO.none _
   | refine LeO.ite ?_ ?_
   | refine LeO.bind ?_ (fun _ => ?_)
theorem spec_l1Split.mono : ∀ a0 a1 k, LeO (spec_l1Split.f k a0 a1) (spec_l1Split.f (k + 1) a0 a1) := by
 intro a0 a1 k
 have ih0 := spec_l1Split.mono_l k
 unfold spec_l1Split.f
 repeat' first
   | (with_reducible exact ih0 _ _ _ _ _)
   | (with_reducible exact LeO.refl _)
   | (with_reducible exact LeO.none _)
   | (with_reducible refine LeO.ite ?_ ?_)
   | (with_reducible refine LeO.bind ?_ (fun _ => ?_))
   | exact ih0 _ _ _ _ _
   | exact LeO.none _
   | refine LeO.ite ?_ ?_
   | refine LeO.bind ?_ (fun _ => ?_)
set_option maxHeartbeats 8000000 in
set_option maxRecDepth 100000 in
theorem spec_l1Split.calls (k : Nat) (a0 : ByteArray) (a1 : Int) (r : List ByteArray) (w : World) (h : spec_l1Split.f k a0 a1 = some r) :
  Calls Tryd.prog 98 #[.string a0, .int .u8 a1] w fun e w' => ∃ v0_ : Value, e = .returned (v0_) ∧ Kd.R Kd.string 9 w' w.heap.size (fun _ => True) v0_ r ∧ Below w.heap.size w w' := by
 have HB := Aside0.mk (Below.refl w.heap.size w)
 have H : (spec_l1Split.l0 k a0 a1 ([] : List ByteArray) 0 0) = some r := h
 clear h
 have H' := Aside0.mk H
 clear H
 go_enter Tryd.func98, Tryd.ntmps98
 go_wp2
 go_loopg [5, 6, 7] k (fun kq v5 v6 v7 w' => ∃ (x5_1 : List ByteArray) (x6_1 : Int) (x7_1 : Int), v6 = .int .i64 x6_1 ∧ v7 = .int .i64 x7_1 ∧ Aside0 (spec_l1Split.l0 kq a0 a1 x5_1 x6_1 x7_1 = some r) ∧ Aside0 (kq ≤ k) ∧ Aside0 (Kd.R Kd.string 9 w' w.heap.size (fun _ => True) v5 x5_1) ∧ Aside0 (Below w.heap.size w w'))
 case atStart => exact ⟨(([] : List ByteArray)), (0), (0), rs_, rs_, H', ⟨Nat.le_refl _⟩, ⟨by first | exact Kd.R_nil _ _ _ _ _ | exact Kd.N_nil _ _ _ _ _ | exact Kd.V_nil _ _ _ _ _ | exact Kd.Q_nil _ _ _ _ _ | exact Kd.S_nil _ _ _ _ _⟩, ⟨bl0_ HB.out⟩⟩
 case round =>
  clear H'
  try clear p2
  obtain ⟨x5_1, x6_1, x7_1, rfl, rfl, HA, HK1, HO_5, HB⟩ := hrel
  cases gk with
  | zero => exact absurd HA.out (by simp [spec_l1Split.l0])
  | succ k1 =>
   have H := HA.out
   clear HA
   simp only [spec_l1Split.l0] at H
   by_cases c3 : x7_1 < (a0.size : Int)
   ·rw [if_pos c3] at H
    have c3b0 : decide (x7_1 < (a0.size : Int)) = true := decide_eq_true c3
    clear c3
    by_cases c4 : 0 ≤ x7_1
    ·rw [if_pos c4] at H
     have c4b0 : decide (0 ≤ x7_1) = true := decide_eq_true c4
     clear c4
     by_cases c6 : (bt a0 x7_1) = a1
     ·rw [if_pos c6] at H
      have c6b0 : ((bt a0 x7_1) == a1) = true := beq_iff_eq.mpr c6
      have c6b1 : ((bt a0 x7_1) != a1) = false := bne_eq_false_iff_eq.mpr c6
      clear c6
      by_cases c7 : 0 ≤ x6_1
      ·rw [if_pos c7] at H
       have c7b0 := eq_true c7
       have c7b1 : decide (0 ≤ x6_1) = true := decide_eq_true c7
       clear c7
       by_cases c8 : x6_1 ≤ x7_1
       ·rw [if_pos c8] at H
        have c8b0 := eq_true c8
        have c8b1 : decide (x6_1 ≤ x7_1) = true := decide_eq_true c8
        clear c8
        by_cases c9 : x7_1 ≤ (a0.size : Int)
        ·rw [if_pos c9] at H
         have c9b0 := eq_true c9
         have c9b1 : decide (x7_1 ≤ (a0.size : Int)) = true := decide_eq_true c9
         clear c9
         by_cases c10 : x5_1.length < 8796093022208
         ·rw [if_pos c10] at H
          have LMc10 := Aside0.mk c10
          clear c10
          obtain ⟨y103, hy103⟩ : ∃ y_ : List ByteArray, y_ = (x5_1 ++ [a0.extract (x6_1 : Int).toNat (x7_1 : Int).toNat]) := ⟨_, rfl⟩
          replace H : (spec_l1Split.l0 k1 a0 a1 y103 (wrap64 (x7_1 + 1)) (wrap64 (x7_1 + 1))) = some r := by first | (rw [hy103]; with_reducible exact H) | (have H2_ := (Option.bind_some _ _).symm.trans H; rw [hy103]; with_reducible exact H2_) | (have H2_ := (Option.bind_some _ _).symm.trans H; with_reducible exact H2_) | with_reducible exact H | (rw [hy103]; exact H) | exact H
          have Ny103 := Aside0.mk hy103
          clear hy103
          have H' := Aside0.mk H
          clear H
          have p5 : 0 ≤ (x7_1 : Int) := of_decide_eq_true as_
          have q5 : x7_1 < (a0.size : Int) := of_decide_eq_true as_
          have hx5 := bt_at a0 x7_1
          replace p5 := eq_true p5
          replace q5 := eq_true q5
          go_wp2_with (first | ((with_reducible refine gate_builtin (b := .append) (xs := #[.tmp 19, .tmp 24]) rfl ?_); at_builtin; refine Kd.R_append Kd.string (w0 := w) w.heap.size rfl (.tmp 19) (.tmp 24) 72 9 (.string ⟨#[]⟩) 16 rfl Tryd.underlying72 info9 rfl (by decide) (by omega) u5 x5_1 (a0.extract (x6_1 : Int).toNat (x7_1 : Int).toNat) [.string (a0.extract (x6_1 : Int).toNat (x7_1 : Int).toNat)] (fun _ => True) (fun _ => False) rfl rfl ?aP (fun _ hk => hk.elim) ?aF ?aO ?aB ?aS ?aL ?_; (case aP => exact rfl); (case aB => exact (bl0_ HB.out)); (case aF => exact (fun _ _ => trivial)); (case aO => exact (kr_ HO_5.out)); (case aS => exact (below_size (bl0_ HB.out))); (case aL => have := LMc10.out; omega); intro v104 w11 ho hb hg hat; rw [← Ny103.out] at ho; have n0_ := Aside0.mk (hb); have n1_ := Aside0.mk (ho); clear HB; clear HO_5; have HB := n0_; have HO105 := n1_; clear n0_ n1_; clear ho hb hg hat))
          go_roundg k1
          case measure => have := HK1.out; omega
          case rel => exact ⟨(y103), (wrap64 (x7_1 + 1)), (wrap64 (x7_1 + 1)), rs_, rs_, H', ⟨by have := HK1.out; omega⟩, ⟨kr_ HO105.out⟩, ⟨bl0_ HB.out⟩⟩
         ·rw [if_neg c10] at H
          exact absurd H (by simp)
        ·rw [if_neg c9] at H
         exact absurd H (by simp)
       ·rw [if_neg c8] at H
        exact absurd H (by simp)
      ·rw [if_neg c7] at H
       exact absurd H (by simp)
     ·rw [if_neg c6] at H
      have c6b0 : ((bt a0 x7_1) == a1) = false := beq_eq_false_iff_ne.mpr c6
      have c6b1 : ((bt a0 x7_1) != a1) = true := bne_iff_ne.mpr c6
      have H' := Aside0.mk H
      clear H
      have p5 : 0 ≤ (x7_1 : Int) := of_decide_eq_true as_
      have q5 : x7_1 < (a0.size : Int) := of_decide_eq_true as_
      have hx5 := bt_at a0 x7_1
      replace p5 := eq_true p5
      replace q5 := eq_true q5
      go_wp2
      go_roundg k1
      case measure => have := HK1.out; omega
      case rel => exact ⟨(x5_1), (x6_1), (wrap64 (x7_1 + 1)), rs_, rs_, H', ⟨by have := HK1.out; omega⟩, ⟨kr_ HO_5.out⟩, ⟨bl0_ HB.out⟩⟩
    ·rw [if_neg c4] at H
     exact absurd H (by simp)
   ·rw [if_neg c3] at H
    have c3b0 : decide (x7_1 < (a0.size : Int)) = false := decide_eq_false c3
    clear c3
    by_cases c12 : 0 ≤ x6_1
    ·rw [if_pos c12] at H
     have c12b0 := eq_true c12
     have c12b1 : decide (0 ≤ x6_1) = true := decide_eq_true c12
     clear c12
     by_cases c13 : x6_1 ≤ (a0.size : Int)
     ·rw [if_pos c13] at H
      have c13b0 := eq_true c13
      have c13b1 : decide (x6_1 ≤ (a0.size : Int)) = true := decide_eq_true c13
      clear c13
      by_cases c14 : x5_1.length < 8796093022208
      ·rw [if_pos c14] at H
       have LMc14 := Aside0.mk c14
       clear c14
       obtain ⟨y106, hy106⟩ : ∃ y_ : List ByteArray, y_ = (x5_1 ++ [a0.extract (x6_1 : Int).toNat a0.size]) := ⟨_, rfl⟩
       replace H : (some y106) = some r := by first | (rw [hy106]; with_reducible exact H) | (have H2_ := (Option.bind_some _ _).symm.trans H; rw [hy106]; with_reducible exact H2_) | (have H2_ := (Option.bind_some _ _).symm.trans H; with_reducible exact H2_) | with_reducible exact H | (rw [hy106]; exact H) | exact H
       have Ny106 := Aside0.mk hy106
       clear hy106
       obtain rfl := Option.some.inj H
       go_wp2_with (first | ((with_reducible refine gate_builtin (b := .append) (xs := #[.tmp 28, .tmp 32]) rfl ?_); at_builtin; refine Kd.R_append Kd.string (w0 := w) w.heap.size rfl (.tmp 28) (.tmp 32) 72 9 (.string ⟨#[]⟩) 16 rfl Tryd.underlying72 info9 rfl (by decide) (by omega) u5 x5_1 (a0.extract (x6_1 : Int).toNat a0.size) [.string (a0.extract (x6_1 : Int).toNat a0.size)] (fun _ => True) (fun _ => False) rfl rfl ?aP (fun _ hk => hk.elim) ?aF ?aO ?aB ?aS ?aL ?_; (case aP => exact rfl); (case aB => exact (bl0_ HB.out)); (case aF => exact (fun _ _ => trivial)); (case aO => exact (kr_ HO_5.out)); (case aS => exact (below_size (bl0_ HB.out))); (case aL => have := LMc14.out; omega); intro v107 w15 ho hb hg hat; rw [← Ny106.out] at ho; have n0_ := Aside0.mk (hb); have n1_ := Aside0.mk (ho); clear HB; clear HO_5; have HB := n0_; have HO108 := n1_; clear n0_ n1_; clear ho hb hg hat))
       go_ret
       exact ⟨_, er_, by (with_reducible repeat (first | apply Kd.R_alloc | apply Kd.R_drewN | apply Kd.R_drew)); exact HO108.out, bl0_ HB.out⟩
      ·rw [if_neg c14] at H
       exact absurd H (by simp)
     ·rw [if_neg c13] at H
      exact absurd H (by simp)
    ·rw [if_neg c12] at H
     exact absurd H (by simp)


mutual
def spec_fiParse.j0 : Nat → List ByteArray → Bool → Int → Int → Option (Int × Int × List Int × List Int × Bool)
 | 0, _, _, _, _ => none
 | k + 1, x4, x34, x115000, x115001 => if x34 = true then (some (0, 0, ([] : List Int), ([] : List Int), false)) else (spec_fiParse.l0 k x4 (x4.length : Int) 0 x115000 x115001 ([] : List Int) ([] : List Int))
def spec_fiParse.l0 : Nat → List ByteArray → Int → Int → Int → Int → List Int → List Int → Option (Int × Int × List Int × List Int × Bool)
 | 0, _, _, _, _, _, _, _ => none
 | k + 1, x36, x37, x38, x115000, x115001, x115002, x115003 => if x38 < x37 then (if 0 ≤ x38 then (if x38 < (x36.length : Int) then (if ((rdOf ByteArray.empty x36 x38).size : Int) = (wrap64 (x115000 + (Int.tmod x38 2))) then (spec_fiParse.l1 k x38 (rdOf ByteArray.empty x36 x38) 0 x36 x37 x38 x115000 x115001 x115002 x115003) else (some (0, 0, ([] : List Int), ([] : List Int), false))) else (none)) else (none)) else (some (x115000, x115001, x115002, x115003, true))
def spec_fiParse.l1 : Nat → Int → ByteArray → Int → List ByteArray → Int → Int → Int → Int → List Int → List Int → Option (Int × Int × List Int × List Int × Bool)
 | 0, _, _, _, _, _, _, _, _, _, _ => none
 | k + 1, x6, x7, x8, x36, x37, x38, x115000, x115001, x115002, x115003 => if x8 < (x7.size : Int) then (if 0 ≤ x8 then (if (bt x7 x8) = 46 then (spec_fiParse.l1 k x6 x7 (wrap64 (x8 + 1)) x36 x37 x38 x115000 x115001 x115002 x115003) else (if (Int.tmod x6 2) = 0 then (spec_fiParse.j3 k x6 x7 x8 x36 x37 x38 ((bt x7 x8) == 45) x115000 x115001 x115002 x115003) else (spec_fiParse.j3 k x6 x7 x8 x36 x37 x38 false x115000 x115001 x115002 x115003))) else (none)) else (spec_fiParse.l0 k x36 x37 (wrap64 (x38 + 1)) x115000 x115001 x115002 x115003)
def spec_fiParse.j3 : Nat → Int → ByteArray → Int → List ByteArray → Int → Int → Bool → Int → Int → List Int → List Int → Option (Int × Int × List Int × List Int × Bool)
 | 0, _, _, _, _, _, _, _, _, _, _, _ => none
 | k + 1, x6, x7, x8, x36, x37, x38, x64, x115000, x115001, x115002, x115003 => if x64 = true then (if x115002.length < 17592186044416 then (spec_fiParse.l1 k x6 x7 (wrap64 (x8 + 1)) x36 x37 x38 x115000 x115001 (x115002 ++ [wrap64 ((wrap64 ((wrap64 (Int.tdiv x6 2)) * x115000)) + x8)]) x115003) else (none)) else (if (Int.tmod x6 2) = 1 then (if 0 ≤ x8 then (if x8 < (x7.size : Int) then (if (bt x7 x8) = 124 then (if x115003.length < 17592186044416 then (spec_fiParse.l1 k x6 x7 (wrap64 (x8 + 1)) x36 x37 x38 x115000 x115001 x115002 (x115003 ++ [wrap64 ((wrap64 ((wrap64 (Int.tdiv x6 2)) * (wrap64 (x115000 + 1)))) + x8)])) else (none)) else (some (0, 0, ([] : List Int), ([] : List Int), false))) else (none)) else (none)) else (some (0, 0, ([] : List Int), ([] : List Int), false)))
end
def spec_fiParse.f (k : Nat) (a0 : ByteArray) : Option (Int × Int × List Int × List Int × Bool) := if (a0.size : Int) > 60 then (some (0, 0, ([] : List Int), ([] : List Int), false)) else ((spec_l1Split.f k a0 47).bind fun t110 => (if 0 < (t110.length : Int) then (if ((t110.length : Int) % 2) = 0 then (spec_fiParse.j0 k t110 true ((rdOf ByteArray.empty t110 0).size : Int) (wrap64 ((t110.length : Int) / 2))) else ((spec_fiGrid.f ((rdOf ByteArray.empty t110 0).size : Int) (wrap64 ((t110.length : Int) / 2))).bind fun t115 => (spec_fiParse.j0 k t110 (!t115) ((rdOf ByteArray.empty t110 0).size : Int) (wrap64 ((t110.length : Int) / 2))))) else (none)))
theorem spec_fiParse.mono_l : ∀ k, (∀ y0 y1 y2 y3, LeO (spec_fiParse.j0 k y0 y1 y2 y3) (spec_fiParse.j0 (k + 1) y0 y1 y2 y3)) ∧ (∀ y0 y1 y2 y3 y4 y5 y6, LeO (spec_fiParse.l0 k y0 y1 y2 y3 y4 y5 y6) (spec_fiParse.l0 (k + 1) y0 y1 y2 y3 y4 y5 y6)) ∧ (∀ y0 y1 y2 y3 y4 y5 y6 y7 y8 y9, LeO (spec_fiParse.l1 k y0 y1 y2 y3 y4 y5 y6 y7 y8 y9) (spec_fiParse.l1 (k + 1) y0 y1 y2 y3 y4 y5 y6 y7 y8 y9)) ∧ (∀ y0 y1 y2 y3 y4 y5 y6 y7 y8 y9 y10, LeO (spec_fiParse.j3 k y0 y1 y2 y3 y4 y5 y6 y7 y8 y9 y10) (spec_fiParse.j3 (k + 1) y0 y1 y2 y3 y4 y5 y6 y7 y8 y9 y10))
 | 0 => ⟨fun _ _ _ _ r h => by simp [spec_fiParse.j0] at h, fun _ _ _ _ _ _ _ r h => by simp [spec_fiParse.l0] at h, fun _ _ _ _ _ _ _ _ _ _ r h => by simp [spec_fiParse.l1] at h, fun _ _ _ _ _ _ _ _ _ _ _ r h => by simp [spec_fiParse.j3] at h⟩
 | k + 1 => by
  obtain ⟨ih0, ih1, ih2, ih3⟩ := spec_fiParse.mono_l k
  refine ⟨?_, ?_, ?_, ?_⟩
  ·intro y0 y1 y2 y3
   unfold spec_fiParse.j0
   repeat' first
   | (with_reducible exact ih0 _ _ _ _)
   | (with_reducible exact ih1 _ _ _ _ _ _ _)
   | (with_reducible exact ih2 _ _ _ _ _ _ _ _ _ _)
   | (with_reducible exact ih3 _ _ _ _ _ _ _ _ _ _ _)
   | (with_reducible exact spec_l1Split.mono _ _ _)
   | (with_reducible exact LeO.refl _)
   | (with_reducible exact LeO.none _)
   | (with_reducible refine LeO.ite ?_ ?_)
   | (with_reducible refine LeO.bind ?_ (fun _ => ?_))
   | exact ih0 _ _ _ _
   | exact ih1 _ _ _ _ _ _ _
   | exact ih2 _ _ _ _ _ _ _ _ _ _
   | exact ih3 _ _ _ _ _ _ _ _ _ _ _
   | exact spec_l1Split.mono _ _ _
   | exact LeO.none _
   | refine LeO.ite ?_ ?_
   | refine LeO.bind ?_ (fun _ => ?_)
  ·intro y0 y1 y2 y3 y4 y5 y6
   unfold spec_fiParse.l0
   repeat' first
   | (with_reducible exact ih0 _ _ _ _)
   | (with_reducible exact ih1 _ _ _ _ _ _ _)
   | (with_reducible exact ih2 _ _ _ _ _ _ _ _ _ _)
   | (with_reducible exact ih3 _ _ _ _ _ _ _ _ _ _ _)
   | (with_reducible exact spec_l1Split.mono _ _ _)
   | (with_reducible exact LeO.refl _)
   | (with_reducible exact LeO.none _)
   | (with_reducible refine LeO.ite ?_ ?_)
   | (with_reducible refine LeO.bind ?_ (fun _ => ?_))
   | exact ih0 _ _ _ _
   | exact ih1 _ _ _ _ _ _ _
   | exact ih2 _ _ _ _ _ _ _ _ _ _
   | exact ih3 _ _ _ _ _ _ _ _ _ _ _
   | exact spec_l1Split.mono _ _ _
   | exact LeO.none _
   | refine LeO.ite ?_ ?_
   | refine LeO.bind ?_ (fun _ => ?_)
  ·intro y0 y1 y2 y3 y4 y5 y6 y7 y8 y9
   unfold spec_fiParse.l1
   repeat' first
   | (with_reducible exact ih0 _ _ _ _)
   | (with_reducible exact ih1 _ _ _ _ _ _ _)
   | (with_reducible exact ih2 _ _ _ _ _ _ _ _ _ _)
   | (with_reducible exact ih3 _ _ _ _ _ _ _ _ _ _ _)
   | (with_reducible exact spec_l1Split.mono _ _ _)
   | (with_reducible exact LeO.refl _)
   | (with_reducible exact LeO.none _)
   | (with_reducible refine LeO.ite ?_ ?_)
   | (with_reducible refine LeO.bind ?_ (fun _ => ?_))
   | exact ih0 _ _ _ _
   | exact ih1 _ _ _ _ _ _ _
   | exact ih2 _ _ _ _ _ _ _ _ _ _
   | exact ih3 _ _ _ _ _ _ _ _ _ _ _
   | exact spec_l1Split.mono _ _ _
   | exact LeO.none _
   | refine LeO.ite ?_ ?_
   | refine LeO.bind ?_ (fun _ => ?_)
  ·intro y0 y1 y2 y3 y4 y5 y6 y7 y8 y9 y10
   unfold spec_fiParse.j3
   repeat' first
   | (with_reducible exact ih0 _ _ _ _)
   | (with_reducible exact ih1 _ _ _ _ _ _ _)
   | (with_reducible exact ih2 _ _ _ _ _ _ _ _ _ _)
   | (with_reducible exact ih3 _ _ _ _ _ _ _ _ _ _ _)
   | (with_reducible exact spec_l1Split.mono _ _ _)
   | (with_reducible exact LeO.refl _)
   | (with_reducible exact LeO.none _)
   | (with_reducible refine LeO.ite ?_ ?_)
   | (with_reducible refine LeO.bind ?_ (fun _ => ?_))
   | exact ih0 _ _ _ _
   | exact ih1 _ _ _ _ _ _ _
   | exact ih2 _ _ _ _ _ _ _ _ _ _
   | exact ih3 _ _ _ _ _ _ _ _ _ _ _
   | exact spec_l1Split.mono _ _ _
   | exact LeO.none _
   | refine LeO.ite ?_ ?_
   | refine LeO.bind ?_ (fun _ => ?_)
theorem spec_fiParse.mono : ∀ a0 k, LeO (spec_fiParse.f k a0) (spec_fiParse.f (k + 1) a0) := by
 intro a0 k
 obtain ⟨ih0, ih1, ih2, ih3⟩ := spec_fiParse.mono_l k
 unfold spec_fiParse.f
 repeat' first
   | (with_reducible exact ih0 _ _ _ _)
   | (with_reducible exact ih1 _ _ _ _ _ _ _)
   | (with_reducible exact ih2 _ _ _ _ _ _ _ _ _ _)
   | (with_reducible exact ih3 _ _ _ _ _ _ _ _ _ _ _)
   | (with_reducible exact spec_l1Split.mono _ _ _)
   | (with_reducible exact LeO.refl _)
   | (with_reducible exact LeO.none _)
   | (with_reducible refine LeO.ite ?_ ?_)
   | (with_reducible refine LeO.bind ?_ (fun _ => ?_))
   | exact ih0 _ _ _ _
   | exact ih1 _ _ _ _ _ _ _
   | exact ih2 _ _ _ _ _ _ _ _ _ _
   | exact ih3 _ _ _ _ _ _ _ _ _ _ _
   | exact spec_l1Split.mono _ _ _
   | exact LeO.none _
   | refine LeO.ite ?_ ?_
   | refine LeO.bind ?_ (fun _ => ?_)
set_option maxHeartbeats 8000000 in
set_option maxRecDepth 100000 in
theorem spec_fiParse.calls (k : Nat) (a0 : ByteArray) (r1 : Int) (r2 : Int) (r3 : List Int) (r4 : List Int) (r5 : Bool) (w : World) (h : spec_fiParse.f k a0 = some (r1, r2, r3, r4, r5)) :
  Calls Tryd.prog 51 #[.string a0] w fun e w' => ∃ v2_ v3_ : Value, e = .returned (.tuple #[.agg #[.int .i64 r1, .int .i64 r2, v2_, v3_], .bool r5]) ∧ Kd.R (Kd.int .i64) 3 w' w.heap.size (fun k_ => some k_ ≠ (v3_ : Value).ownBlock) v2_ r3 ∧ Kd.R (Kd.int .i64) 3 w' w.heap.size (fun k_ => some k_ ≠ (v2_ : Value).ownBlock) v3_ r4 ∧ Below w.heap.size w w' := by
 have hu36 := Tryd.underlying36
 have HB := Aside0.mk (Below.refl w.heap.size w)
 have H : (if (a0.size : Int) > 60 then (some (0, 0, ([] : List Int), ([] : List Int), false)) else ((spec_l1Split.f k a0 47).bind fun t110 => (if 0 < (t110.length : Int) then (if ((t110.length : Int) % 2) = 0 then (spec_fiParse.j0 k t110 true ((rdOf ByteArray.empty t110 0).size : Int) (wrap64 ((t110.length : Int) / 2))) else ((spec_fiGrid.f ((rdOf ByteArray.empty t110 0).size : Int) (wrap64 ((t110.length : Int) / 2))).bind fun t115 => (spec_fiParse.j0 k t110 (!t115) ((rdOf ByteArray.empty t110 0).size : Int) (wrap64 ((t110.length : Int) / 2))))) else (none)))) = some (r1, r2, r3, r4, r5) := h
 clear h
 by_cases c2 : (a0.size : Int) > 60
 ·rw [if_pos c2] at H
  have c2b0 : decide (60 < (a0.size : Int)) = true := decide_eq_true c2
  have c2b1 : decide (60 < a0.size) = true := decide_eq_true (by omega)
  clear c2
  simp only [Option.some.injEq, Prod.mk.injEq] at H
  obtain ⟨rfl, rfl, rfl, rfl, rfl⟩ := H
  go_enter Tryd.func51, Tryd.ntmps51
  go_wp2_with (first | ((with_reducible refine gate_dst (N := 2) rfl ?_); refine boxE_ (N := 2) (cs := #[.int .i64 0, .int .i64 0, .slice none 0 0, .slice none 0 0]) (t := 36) ?_; intro gb109 hg w3 hbox hb; have n0_ := Aside0.mk (below_step (bl0_ HB.out) hb); have n1_ := Aside0.mk (hbox); have n2_ := Aside0.mk ((bs0_ hg HB.out : w.heap.size ≤ gb109)); have n3_ := Aside0.mk ((bs0_ hg HB.out : w.heap.size ≤ gb109)); clear HB; have HB := n0_; have BK109 := n1_; have GW109 := n2_; have GE109 := n3_; clear n0_ n1_ n2_ n3_; clear hb hbox hg; have hcz4_0 : w3.cell? ⟨gb109, 0, none⟩ = some (.int .i64 0) := (blk_cell BK109.out 0).trans rfl; have hcz4_1 : w3.cell? ⟨gb109, 1, none⟩ = some (.int .i64 0) := (blk_cell BK109.out 1).trans rfl; have hcz4_2 : w3.cell? ⟨gb109, 2, none⟩ = some (.slice none 0 0) := (blk_cell BK109.out 2).trans rfl; have hcz4_3 : w3.cell? ⟨gb109, 3, none⟩ = some (.slice none 0 0) := (blk_cell BK109.out 3).trans rfl; have hfz4_0 := blk_frozen BK109.out 0; have hfz4_1 := blk_frozen BK109.out 1; have hfz4_2 := blk_frozen BK109.out 2; have hfz4_3 := blk_frozen BK109.out 3))
  refine bodyPost_ret (results_ct rfl _ _ gb109 36 #[.int .i64 0, .int .i64 0, .slice none 0 0, .slice none 0 0] (0, 0) _ rfl (by (with_reducible repeat (first | refine blk_drewN ?_ _ | refine blk_drew ?_ | refine blk_alloc ?_ _)); refine blk_put (cs := #[.int .i64 0, .int .i64 0, .slice none 0 0, .slice none 0 0]) ?_ 3 _ rfl; (with_reducible repeat (first | refine blk_drewN ?_ _ | refine blk_drew ?_ | refine blk_alloc ?_ _)); refine blk_put (cs := #[.int .i64 0, .int .i64 0, .slice none 0 0, .slice none 0 0]) ?_ 2 _ rfl; (with_reducible repeat (first | refine blk_drewN ?_ _ | refine blk_drew ?_ | refine blk_alloc ?_ _)); refine blk_put (cs := #[.int .i64 0, .int .i64 0, .slice none 0 0, .slice none 0 0]) ?_ 1 _ rfl; (with_reducible repeat (first | refine blk_drewN ?_ _ | refine blk_drew ?_ | refine blk_alloc ?_ _)); refine blk_put (cs := #[.int .i64 0, .int .i64 0, .slice none 0 0, .slice none 0 0]) ?_ 0 _ rfl; (with_reducible repeat (first | refine blk_drewN ?_ _ | refine blk_drew ?_ | refine blk_alloc ?_ _)); exact BK109.out) Tryd.underlying36 rfl (by kernel_rfl)) rfl ?_
  exact ⟨_, _, er_, by first | exact Kd.R_nil _ _ _ _ _ | exact Kd.N_nil _ _ _ _ _ | exact Kd.V_nil _ _ _ _ _ | exact Kd.Q_nil _ _ _ _ _ | exact Kd.S_nil _ _ _ _ _, by first | exact Kd.R_nil _ _ _ _ _ | exact Kd.N_nil _ _ _ _ _ | exact Kd.V_nil _ _ _ _ _ | exact Kd.Q_nil _ _ _ _ _ | exact Kd.S_nil _ _ _ _ _, bl1_ HB.out GE109.out⟩
 ·rw [if_neg c2] at H
  have c2b0 : decide (60 < (a0.size : Int)) = false := decide_eq_false c2
  have c2b1 : decide (60 < a0.size) = false := decide_eq_false (by omega)
  clear c2
  replace H := Option.bind_eq_some_iff.mp H
  obtain ⟨t110, A50, H⟩ := H
  replace H : (if 0 < (t110.length : Int) then (if ((t110.length : Int) % 2) = 0 then (spec_fiParse.j0 k t110 true ((rdOf ByteArray.empty t110 0).size : Int) (wrap64 ((t110.length : Int) / 2))) else ((spec_fiGrid.f ((rdOf ByteArray.empty t110 0).size : Int) (wrap64 ((t110.length : Int) / 2))).bind fun t115 => (spec_fiParse.j0 k t110 (!t115) ((rdOf ByteArray.empty t110 0).size : Int) (wrap64 ((t110.length : Int) / 2))))) else (none)) = some (r1, r2, r3, r4, r5) := H
  have A5 := Aside0.mk A50
  clear A50
  by_cases c6 : 0 < (t110.length : Int)
  ·rw [if_pos c6] at H
   have c6b0 : decide (0 < (t110.length : Int)) = true := decide_eq_true c6
   have c6b1 : decide (0 < t110.length) = true := decide_eq_true (by omega)
   clear c6
   have HC7 := Aside0.mk H
   clear H
   go_enter Tryd.func51, Tryd.ntmps51
   go_upto_region 5 with (first | ((with_reducible refine gate_dst (N := 2) rfl ?_); refine boxE_ (N := 2) (cs := #[.int .i64 0, .int .i64 0, .slice none 0 0, .slice none 0 0]) (t := 36) ?_; intro gb109 hg w8 hbox hb; have n0_ := Aside0.mk (below_step (bl0_ HB.out) hb); have n1_ := Aside0.mk (hbox); have n2_ := Aside0.mk ((bs0_ hg HB.out : w.heap.size ≤ gb109)); have n3_ := Aside0.mk ((bs0_ hg HB.out : w.heap.size ≤ gb109)); clear HB; have HB := n0_; have BK109 := n1_; have GW109 := n2_; have GE109 := n3_; clear n0_ n1_ n2_ n3_; clear hb hbox hg) | ((with_reducible refine gate_callee (f := 98) rfl ?_); refine goesL_ (some 14) rfl rfl Tryd.func98 (by kernel_rfl) rfl #[.string a0, .int .u8 47] rfl ob_ ?_; (with_reducible refine (spec_l1Split.calls k a0 47 t110 _ A5.out).mono ?_); rintro e w9 ⟨v111, rfl, ho0, hb⟩; refine ⟨_, rfl, ?_⟩; have n0_ := Aside0.mk (Kd.R_lower ho0 (below_size (bl1_ HB.out GE109.out))); have n1_ := Aside0.mk (bb_ BK109.out hb); have n2_ := Aside0.mk (below_step (bl1_ HB.out GE109.out) hb); clear BK109; clear HB; have HO112 := n0_; have BK109 := n1_; have HB := n2_; clear n0_ n1_ n2_; (try clear hb); (try clear hb2); (try clear hk); (try clear hi); (try clear ho0); obtain ⟨Ao10, co10, eo10⟩ := Kd.R_slice HO112.out; subst eo10; have p113 : 0 ≤ (0 : Int) := (by omega); have q113 : 0 < (t110.length : Int) := of_decide_eq_true as_; obtain ⟨ad113, e113, hx113_0⟩ := Kd.at_string (Kd.R_reads' HO112.out).2.2 0 p113 q113; cases e113; have qi113 : (0 < t110.length) = True := eq_true (by omega); (try rw [show ((0 : Int)).toNat = 0 from rfl] at hx113_0); (try rw [Addr.add_zero'] at hx113_0); replace p113 := eq_true p113; replace q113 := eq_true q113) | ((with_reducible refine gate_dst (N := 5) rfl ?_); refine boxE_ (N := 5) (cs := #[.int .i64 0, .int .i64 0, .slice none 0 0, .slice none 0 0]) (t := 36) ?_; intro gb114 hg w11 hbox hb; have n0_ := Aside0.mk (Kd.R_below (kr_ HO112.out) hb); have n1_ := Aside0.mk (bb_ BK109.out hb); have n2_ := Aside0.mk (below_step (bl1_ HB.out GE109.out) hb); have n3_ := Aside0.mk (hbox); have n4_ := Aside0.mk ((bs1_ hg HB.out GE109.out : w.heap.size ≤ gb114)); have n5_ := Aside0.mk ((bs1_ hg HB.out GE109.out : w.heap.size ≤ gb114)); have n6_ := Aside0.mk ((nl_ hg BK109.out : gb109 ≠ gb114)); have n7_ := Aside0.mk ((ng_ hg BK109.out : gb114 ≠ gb109)); clear HO112; clear BK109; clear HB; have HO112 := n0_; have BK109 := n1_; have HB := n2_; have BK114 := n3_; have GW114 := n4_; have GE114 := n5_; have NB109_114 := n6_; have NB114_109 := n7_; clear n0_ n1_ n2_ n3_ n4_ n5_ n6_ n7_; clear hb hbox hg; have hnb12 := NB114_109.out; have hnc12 := NB109_114.out; have hcz13_0 : w11.cell? ⟨gb114, 0, none⟩ = some (.int .i64 0) := (blk_cell BK114.out 0).trans rfl; have hcz13_1 : w11.cell? ⟨gb114, 1, none⟩ = some (.int .i64 0) := (blk_cell BK114.out 1).trans rfl; have hcz13_2 : w11.cell? ⟨gb114, 2, none⟩ = some (.slice none 0 0) := (blk_cell BK114.out 2).trans rfl; have hcz13_3 : w11.cell? ⟨gb114, 3, none⟩ = some (.slice none 0 0) := (blk_cell BK114.out 3).trans rfl; have hfz13_0 := blk_frozen BK114.out 0; have hfz13_1 := blk_frozen BK114.out 1; have hfz13_2 := blk_frozen BK114.out 2; have hfz13_3 := blk_frozen BK114.out 3))
   (try simp only [Act.put, List.setIfInBounds_toArray, List.set_cons_zero, List.set_cons_succ])
   go_cut [34] (fun v34 wc => ∃ (kq : Nat) (x34_6 : Bool), v34 = .bool x34_6 ∧ Aside0 (spec_fiParse.j0 kq t110 x34_6 ((rdOf ByteArray.empty t110 0).size : Int) (wrap64 ((t110.length : Int) / 2)) = some (r1, r2, r3, r4, r5)) ∧ Aside0 (kq ≤ k) ∧ Aside0 (Kd.R Kd.string 9 wc w.heap.size (fun _ => True) (.slice (some ad113) t110.length co10) t110) ∧ Aside0 (wc.heap[gb109]? = some (.cells #[.int .i64 0, .int .i64 0, (.slice none 0 0), (.slice none 0 0)] 36 (0, 0))) ∧ Aside0 (wc.heap[gb114]? = some (.cells #[.int .i64 ((rdOf ByteArray.empty t110 0).size : Int), .int .i64 (wrap64 ((t110.length : Int) / 2)), (.slice none 0 0), (.slice none 0 0)] 36 (0, 0))) ∧ Aside0 (Below w.heap.size w wc))
   case first =>
    have H := HC7.out
    clear HC7
    by_cases c14 : ((t110.length : Int) % 2) = 0
    ·rw [if_pos c14] at H
     have c14b0 : (((t110.length : Int) % 2) == 0) = true := beq_iff_eq.mpr c14
     have c14b1 : (((t110.length : Int) % 2) != 0) = false := bne_eq_false_iff_eq.mpr c14
     clear c14
     (first | rw [c14b0] | (simp only [i64_w, i32_w]; rw [c14b0]) | skip)
     have H' := Aside0.mk H
     clear H
     go_wp2
     go_meet
     case rel => exact ⟨_, (true), rs_, H', ⟨by first | omega | exact Nat.le_refl _⟩, ⟨by (with_reducible repeat (first | apply Kd.R_alloc | apply Kd.R_drewN | apply Kd.R_drew)); exact Kd.R_mono (Kd.R_far (p := ⟨gb114, 3, none⟩) (Kd.R_far (p := ⟨gb114, 2, none⟩) (Kd.R_far (p := ⟨gb114, 1, none⟩) (Kd.R_far (p := ⟨gb114, 0, none⟩) (Kd.R_types HO112.out BK114.out (by decide)) (fun _ hk => hk.2) (.int .i64 ((rdOf ByteArray.empty t110 0).size : Int))) (fun _ hk => hk.2) (.int .i64 (wrap64 ((t110.length : Int) / 2)))) (fun _ hk => hk.2) (.slice none 0 0)) (fun _ hk => hk.2) (.slice none 0 0)) (fun _ hk => trivial)⟩, ⟨bf4_ NB109_114.out NB109_114.out NB109_114.out NB109_114.out BK109.out⟩, ⟨by (with_reducible repeat (first | refine blk_drewN ?_ _ | refine blk_drew ?_ | refine blk_alloc ?_ _)); refine blk_put (cs := #[.int .i64 ((rdOf ByteArray.empty t110 0).size : Int), .int .i64 (wrap64 ((t110.length : Int) / 2)), .slice none 0 0, .slice none 0 0]) ?_ 3 _ rfl; (with_reducible repeat (first | refine blk_drewN ?_ _ | refine blk_drew ?_ | refine blk_alloc ?_ _)); refine blk_put (cs := #[.int .i64 ((rdOf ByteArray.empty t110 0).size : Int), .int .i64 (wrap64 ((t110.length : Int) / 2)), .slice none 0 0, .slice none 0 0]) ?_ 2 _ rfl; (with_reducible repeat (first | refine blk_drewN ?_ _ | refine blk_drew ?_ | refine blk_alloc ?_ _)); refine blk_put (cs := #[.int .i64 ((rdOf ByteArray.empty t110 0).size : Int), .int .i64 0, .slice none 0 0, .slice none 0 0]) ?_ 1 _ rfl; (with_reducible repeat (first | refine blk_drewN ?_ _ | refine blk_drew ?_ | refine blk_alloc ?_ _)); refine blk_put (cs := #[.int .i64 0, .int .i64 0, .slice none 0 0, .slice none 0 0]) ?_ 0 _ rfl; (with_reducible repeat (first | refine blk_drewN ?_ _ | refine blk_drew ?_ | refine blk_alloc ?_ _)); exact BK114.out⟩, ⟨bl2_ HB.out GE109.out GE114.out⟩⟩
    ·rw [if_neg c14] at H
     have c14b0 : (((t110.length : Int) % 2) == 0) = false := beq_eq_false_iff_ne.mpr c14
     have c14b1 : (((t110.length : Int) % 2) != 0) = true := bne_iff_ne.mpr c14
     (first | rw [c14b0] | (simp only [i64_w, i32_w]; rw [c14b0]) | skip)
     replace H := Option.bind_eq_some_iff.mp H
     obtain ⟨t115, A150, H⟩ := H
     replace H : (spec_fiParse.j0 k t110 (!t115) ((rdOf ByteArray.empty t110 0).size : Int) (wrap64 ((t110.length : Int) / 2))) = some (r1, r2, r3, r4, r5) := H
     have A15 := Aside0.mk A150
     clear A150
     have H' := Aside0.mk H
     clear H
     have hnb16 := NB114_109.out
     have hnc16 := NB109_114.out
     have hcz17_0 : w11.cell? ⟨gb114, 0, none⟩ = some (.int .i64 0) := (blk_cell BK114.out 0).trans rfl
     have hcz17_1 : w11.cell? ⟨gb114, 1, none⟩ = some (.int .i64 0) := (blk_cell BK114.out 1).trans rfl
     have hcz17_2 : w11.cell? ⟨gb114, 2, none⟩ = some (.slice none 0 0) := (blk_cell BK114.out 2).trans rfl
     have hcz17_3 : w11.cell? ⟨gb114, 3, none⟩ = some (.slice none 0 0) := (blk_cell BK114.out 3).trans rfl
     have hfz17_0 := blk_frozen BK114.out 0
     have hfz17_1 := blk_frozen BK114.out 1
     have hfz17_2 := blk_frozen BK114.out 2
     have hfz17_3 := blk_frozen BK114.out 3
     go_wp2_with (first | (go_at_call 63; (with_reducible refine (spec_fiGrid.calls ((rdOf ByteArray.empty t110 0).size : Int) (wrap64 ((t110.length : Int) / 2)) t115 _ A15.out).mono ?_); rintro e w' ⟨rfl, ⟨nd, rfl⟩⟩))
     go_meet
     case rel => exact ⟨_, (!t115), rs_, H', ⟨by first | omega | exact Nat.le_refl _⟩, ⟨by (with_reducible repeat (first | apply Kd.R_alloc | apply Kd.R_drewN | apply Kd.R_drew)); exact Kd.R_mono (Kd.R_far (p := ⟨gb114, 3, none⟩) (Kd.R_far (p := ⟨gb114, 2, none⟩) (Kd.R_far (p := ⟨gb114, 1, none⟩) (Kd.R_far (p := ⟨gb114, 0, none⟩) (Kd.R_types HO112.out BK114.out (by decide)) (fun _ hk => hk.2) (.int .i64 ((rdOf ByteArray.empty t110 0).size : Int))) (fun _ hk => hk.2) (.int .i64 (wrap64 ((t110.length : Int) / 2)))) (fun _ hk => hk.2) (.slice none 0 0)) (fun _ hk => hk.2) (.slice none 0 0)) (fun _ hk => trivial)⟩, ⟨bf4_ NB109_114.out NB109_114.out NB109_114.out NB109_114.out BK109.out⟩, ⟨by (with_reducible repeat (first | refine blk_drewN ?_ _ | refine blk_drew ?_ | refine blk_alloc ?_ _)); refine blk_put (cs := #[.int .i64 ((rdOf ByteArray.empty t110 0).size : Int), .int .i64 (wrap64 ((t110.length : Int) / 2)), .slice none 0 0, .slice none 0 0]) ?_ 3 _ rfl; (with_reducible repeat (first | refine blk_drewN ?_ _ | refine blk_drew ?_ | refine blk_alloc ?_ _)); refine blk_put (cs := #[.int .i64 ((rdOf ByteArray.empty t110 0).size : Int), .int .i64 (wrap64 ((t110.length : Int) / 2)), .slice none 0 0, .slice none 0 0]) ?_ 2 _ rfl; (with_reducible repeat (first | refine blk_drewN ?_ _ | refine blk_drew ?_ | refine blk_alloc ?_ _)); refine blk_put (cs := #[.int .i64 ((rdOf ByteArray.empty t110 0).size : Int), .int .i64 0, .slice none 0 0, .slice none 0 0]) ?_ 1 _ rfl; (with_reducible repeat (first | refine blk_drewN ?_ _ | refine blk_drew ?_ | refine blk_alloc ?_ _)); refine blk_put (cs := #[.int .i64 0, .int .i64 0, .slice none 0 0, .slice none 0 0]) ?_ 0 _ rfl; (with_reducible repeat (first | refine blk_drewN ?_ _ | refine blk_drew ?_ | refine blk_alloc ?_ _)); exact BK114.out⟩, ⟨bl2_ HB.out GE109.out GE114.out⟩⟩
   case rest =>
    clear HC7
    try clear c1
    try clear p1
    try clear q1
    try clear hx1
    try clear qi1
    try clear c2
    try clear c2b0
    try clear c2b1
    try clear p2
    try clear c5
    try clear c6
    try clear c6b0
    try clear c6b1
    try clear p6
    try clear c9
    try clear p11
    try clear q11
    try clear hx11
    try clear qi11
    try clear c12
    try clear c14
    try clear c14b0
    try clear c14b1
    try clear c16
    try clear hcz13_0
    try clear hcz13_1
    try clear hcz13_2
    try clear hcz13_3
    try clear hcz17_0
    try clear hcz17_1
    try clear hcz17_2
    try clear hcz17_3
    try clear hcz4_0
    try clear hcz4_1
    try clear hcz4_2
    try clear hcz4_3
    try clear hfz13_0
    try clear hfz13_1
    try clear hfz13_2
    try clear hfz13_3
    try clear hfz17_0
    try clear hfz17_1
    try clear hfz17_2
    try clear hfz17_3
    try clear hfz4_0
    try clear hfz4_1
    try clear hfz4_2
    try clear hfz4_3
    try clear hx113_0
    try clear p113
    try clear q113
    obtain ⟨kq, x34_6, rfl, HA, HJ6, HO_4, BK109, BK114, HB⟩ := hcut
    cases kq with
    | zero => exact absurd HA.out (by simp [spec_fiParse.j0])
    | succ kj6 =>
     have H := HA.out
     clear HA
     simp only [spec_fiParse.j0] at H
     by_cases c18 : x34_6 = true
     ·subst c18
      have H1 : (some (0, 0, ([] : List Int), ([] : List Int), false)) = some (r1, r2, r3, r4, r5) := by rw [if_pos rfl] at H; exact H
      clear H
      have H := H1
      clear H1
      simp only [Option.some.injEq, Prod.mk.injEq] at H
      obtain ⟨rfl, rfl, rfl, rfl, rfl⟩ := H
      have hnb19 := NB109_114.out
      have hnc19 := NB114_109.out
      have hcz20_0 : wc.cell? ⟨gb109, 0, none⟩ = some (.int .i64 0) := (blk_cell BK109.out 0).trans rfl
      have hcz20_1 : wc.cell? ⟨gb109, 1, none⟩ = some (.int .i64 0) := (blk_cell BK109.out 1).trans rfl
      have hcz20_2 : wc.cell? ⟨gb109, 2, none⟩ = some (.slice none 0 0) := (blk_cell BK109.out 2).trans rfl
      have hcz20_3 : wc.cell? ⟨gb109, 3, none⟩ = some (.slice none 0 0) := (blk_cell BK109.out 3).trans rfl
      have hfz20_0 := blk_frozen BK109.out 0
      have hfz20_1 := blk_frozen BK109.out 1
      have hfz20_2 := blk_frozen BK109.out 2
      have hfz20_3 := blk_frozen BK109.out 3
      go_wp2
      refine bodyPost_ret (results_ct rfl _ _ gb109 36 #[.int .i64 0, .int .i64 0, .slice none 0 0, .slice none 0 0] (0, 0) _ rfl (by (with_reducible repeat (first | refine blk_drewN ?_ _ | refine blk_drew ?_ | refine blk_alloc ?_ _)); refine blk_put (cs := #[.int .i64 0, .int .i64 0, .slice none 0 0, .slice none 0 0]) ?_ 3 _ rfl; (with_reducible repeat (first | refine blk_drewN ?_ _ | refine blk_drew ?_ | refine blk_alloc ?_ _)); refine blk_put (cs := #[.int .i64 0, .int .i64 0, .slice none 0 0, .slice none 0 0]) ?_ 2 _ rfl; (with_reducible repeat (first | refine blk_drewN ?_ _ | refine blk_drew ?_ | refine blk_alloc ?_ _)); refine blk_put (cs := #[.int .i64 0, .int .i64 0, .slice none 0 0, .slice none 0 0]) ?_ 1 _ rfl; (with_reducible repeat (first | refine blk_drewN ?_ _ | refine blk_drew ?_ | refine blk_alloc ?_ _)); refine blk_put (cs := #[.int .i64 0, .int .i64 0, .slice none 0 0, .slice none 0 0]) ?_ 0 _ rfl; (with_reducible repeat (first | refine blk_drewN ?_ _ | refine blk_drew ?_ | refine blk_alloc ?_ _)); exact BK109.out) Tryd.underlying36 rfl (by kernel_rfl)) rfl ?_
      exact ⟨_, _, er_, by first | exact Kd.R_nil _ _ _ _ _ | exact Kd.N_nil _ _ _ _ _ | exact Kd.V_nil _ _ _ _ _ | exact Kd.Q_nil _ _ _ _ _ | exact Kd.S_nil _ _ _ _ _, by first | exact Kd.R_nil _ _ _ _ _ | exact Kd.N_nil _ _ _ _ _ | exact Kd.V_nil _ _ _ _ _ | exact Kd.Q_nil _ _ _ _ _ | exact Kd.S_nil _ _ _ _ _, bl2_ HB.out GE109.out GE114.out⟩
     ·replace c18 := Bool.eq_false_iff.mpr c18
      subst c18
      have H1 : (spec_fiParse.l0 kj6 t110 (t110.length : Int) 0 ((rdOf ByteArray.empty t110 0).size : Int) (wrap64 ((t110.length : Int) / 2)) ([] : List Int) ([] : List Int)) = some (r1, r2, r3, r4, r5) := by rw [if_neg (show ¬ (false = true) by decide)] at H; exact H
      clear H
      have H := H1
      clear H1
      have H' := Aside0.mk H
      clear H
      go_wp2
      go_loopg [38] kj6 (fun kq v38 w' => ∃ (x38_2 : Int) (x110000_2 : Int) (x110001_2 : Int) (x115002_2 : List Int) (x115003_2 : List Int) (u115002 : Value) (u115003 : Value), v38 = .int .i64 x38_2 ∧ Aside0 (spec_fiParse.l0 kq t110 (t110.length : Int) x38_2 ((rdOf ByteArray.empty t110 0).size : Int) (wrap64 ((t110.length : Int) / 2)) x115002_2 x115003_2 = some (r1, r2, r3, r4, r5)) ∧ Aside0 (kq ≤ kj6) ∧ Aside0 (Kd.R Kd.string 9 w' w.heap.size (fun _ => True) (.slice (some ad113) t110.length co10) t110) ∧ Aside0 (Kd.R (Kd.int .i64) 3 w' w.heap.size (fun k_ => some k_ ≠ (u115003 : Value).ownBlock) u115002 x115002_2) ∧ Aside0 (Kd.R (Kd.int .i64) 3 w' w.heap.size (fun k_ => some k_ ≠ (u115002 : Value).ownBlock) u115003 x115003_2) ∧ Aside0 (w'.heap[gb109]? = some (.cells #[.int .i64 x110000_2, .int .i64 x110001_2, (.slice none 0 0), (.slice none 0 0)] 36 (0, 0))) ∧ Aside0 (w'.heap[gb114]? = some (.cells #[.int .i64 ((rdOf ByteArray.empty t110 0).size : Int), .int .i64 (wrap64 ((t110.length : Int) / 2)), u115002, u115003] 36 (0, 0))) ∧ Aside0 (Below w.heap.size w w'))
      case atStart => exact ⟨(0), (0), (0), (([] : List Int)), (([] : List Int)), (.slice none 0 0), (.slice none 0 0), rs_, H', ⟨Nat.le_refl _⟩, ⟨kr_ HO_4.out⟩, ⟨by first | exact Kd.R_nil _ _ _ _ _ | exact Kd.N_nil _ _ _ _ _ | exact Kd.V_nil _ _ _ _ _ | exact Kd.Q_nil _ _ _ _ _ | exact Kd.S_nil _ _ _ _ _⟩, ⟨by first | exact Kd.R_nil _ _ _ _ _ | exact Kd.N_nil _ _ _ _ _ | exact Kd.V_nil _ _ _ _ _ | exact Kd.Q_nil _ _ _ _ _ | exact Kd.S_nil _ _ _ _ _⟩, ⟨bk_ BK109.out⟩, ⟨bk_ BK114.out⟩, ⟨bl2_ HB.out GE109.out GE114.out⟩⟩
      case round =>
       clear H'
       try clear c1
       try clear p1
       try clear q1
       try clear hx1
       try clear qi1
       try clear c2
       try clear c2b0
       try clear c2b1
       try clear p2
       try clear c5
       try clear c6
       try clear c6b0
       try clear c6b1
       try clear p6
       try clear c9
       try clear p11
       try clear q11
       try clear hx11
       try clear qi11
       try clear c12
       try clear c14
       try clear c14b0
       try clear c14b1
       try clear c16
       try clear c18
       try clear c19
       try clear hcz13_0
       try clear hcz13_1
       try clear hcz13_2
       try clear hcz13_3
       try clear hcz17_0
       try clear hcz17_1
       try clear hcz17_2
       try clear hcz17_3
       try clear hcz20_0
       try clear hcz20_1
       try clear hcz20_2
       try clear hcz20_3
       try clear hcz4_0
       try clear hcz4_1
       try clear hcz4_2
       try clear hcz4_3
       try clear hfz13_0
       try clear hfz13_1
       try clear hfz13_2
       try clear hfz13_3
       try clear hfz17_0
       try clear hfz17_1
       try clear hfz17_2
       try clear hfz17_3
       try clear hfz20_0
       try clear hfz20_1
       try clear hfz20_2
       try clear hfz20_3
       try clear hfz4_0
       try clear hfz4_1
       try clear hfz4_2
       try clear hfz4_3
       try clear hx113_0
       try clear p1
       try clear p11
       try clear p113
       try clear p2
       try clear p6
       try clear q1
       try clear q11
       try clear q113
       obtain ⟨x38_2, x110000_2, x110001_2, x115002_2, x115003_2, u115002, u115003, rfl, HA, HK2, HO_36, HO_115002, HO_115003, BK109, BK114, HB⟩ := hrel
       cases gk with
       | zero => exact absurd HA.out (by simp [spec_fiParse.l0])
       | succ k2 =>
        have H := HA.out
        clear HA
        simp only [spec_fiParse.l0] at H
        by_cases c21 : x38_2 < (t110.length : Int)
        ·rw [if_pos c21] at H
         have c21b0 : decide (x38_2 < (t110.length : Int)) = true := decide_eq_true c21
         clear c21
         by_cases c22 : 0 ≤ x38_2
         ·rw [if_pos c22] at H
          have c22b0 : decide (0 ≤ x38_2) = true := decide_eq_true c22
          clear c22
          by_cases c23 : x38_2 < (t110.length : Int)
          ·rw [if_pos c23] at H
           have c23b0 : decide (x38_2 < (t110.length : Int)) = true := decide_eq_true c23
           clear c23
           by_cases c24 : ((rdOf ByteArray.empty t110 x38_2).size : Int) = (wrap64 (((rdOf ByteArray.empty t110 0).size : Int) + (Int.tmod x38_2 2)))
           ·rw [if_pos c24] at H
            have c24b0 : (((rdOf ByteArray.empty t110 x38_2).size : Int) == (wrap64 (((rdOf ByteArray.empty t110 0).size : Int) + (Int.tmod x38_2 2)))) = true := beq_iff_eq.mpr c24
            have c24b1 : (((rdOf ByteArray.empty t110 x38_2).size : Int) != (wrap64 (((rdOf ByteArray.empty t110 0).size : Int) + (Int.tmod x38_2 2)))) = false := bne_eq_false_iff_eq.mpr c24
            clear c24
            have H' := Aside0.mk H
            clear H
            have p116 : 0 ≤ (x38_2 : Int) := of_decide_eq_true as_
            have q116 : x38_2 < (t110.length : Int) := of_decide_eq_true as_
            obtain ⟨ad116, e116, hx116_0⟩ := Kd.at_string (Kd.R_reads' HO_36.out).2.2 x38_2 p116 q116
            obtain rfl : ad113 = ad116 := (by injection e116)
            replace p116 := eq_true p116
            replace q116 := eq_true q116
            have hnb25 := NB114_109.out
            have hnc25 := NB109_114.out
            have hcz26_0 : wr.cell? ⟨gb114, 0, none⟩ = some (.int .i64 ((rdOf ByteArray.empty t110 0).size : Int)) := (blk_cell BK114.out 0).trans rfl
            have hcz26_1 : wr.cell? ⟨gb114, 1, none⟩ = some (.int .i64 (wrap64 ((t110.length : Int) / 2))) := (blk_cell BK114.out 1).trans rfl
            have hcz26_2 : wr.cell? ⟨gb114, 2, none⟩ = some (u115002) := (blk_cell BK114.out 2).trans rfl
            have hcz26_3 : wr.cell? ⟨gb114, 3, none⟩ = some (u115003) := (blk_cell BK114.out 3).trans rfl
            have hfz26_0 := blk_frozen BK114.out 0
            have hfz26_1 := blk_frozen BK114.out 1
            have hfz26_2 := blk_frozen BK114.out 2
            have hfz26_3 := blk_frozen BK114.out 3
            go_wp2
            go_loopg [8] k2 (fun kq v8 w' => ∃ (x8_3 : Int) (x110000_3 : Int) (x110001_3 : Int) (x115002_3 : List Int) (x115003_3 : List Int) (u115002 : Value) (u115003 : Value), v8 = .int .i64 x8_3 ∧ Aside0 (spec_fiParse.l1 kq x38_2 (rdOf ByteArray.empty t110 x38_2) x8_3 t110 (t110.length : Int) x38_2 ((rdOf ByteArray.empty t110 0).size : Int) (wrap64 ((t110.length : Int) / 2)) x115002_3 x115003_3 = some (r1, r2, r3, r4, r5)) ∧ Aside0 (kq ≤ k2) ∧ Aside0 (Kd.R Kd.string 9 w' w.heap.size (fun _ => True) (.slice (some ad113) t110.length co10) t110) ∧ Aside0 (Kd.R (Kd.int .i64) 3 w' w.heap.size (fun k_ => some k_ ≠ (u115003 : Value).ownBlock) u115002 x115002_3) ∧ Aside0 (Kd.R (Kd.int .i64) 3 w' w.heap.size (fun k_ => some k_ ≠ (u115002 : Value).ownBlock) u115003 x115003_3) ∧ Aside0 (w'.heap[gb109]? = some (.cells #[.int .i64 x110000_3, .int .i64 x110001_3, (.slice none 0 0), (.slice none 0 0)] 36 (0, 0))) ∧ Aside0 (w'.heap[gb114]? = some (.cells #[.int .i64 ((rdOf ByteArray.empty t110 0).size : Int), .int .i64 (wrap64 ((t110.length : Int) / 2)), u115002, u115003] 36 (0, 0))) ∧ Aside0 (Below w.heap.size w w'))
            case atStart => exact ⟨(0), (x110000_2), (x110001_2), (x115002_2), (x115003_2), (u115002), (u115003), rs_, H', ⟨Nat.le_refl _⟩, ⟨kr_ HO_36.out⟩, ⟨kr_ HO_115002.out⟩, ⟨kr_ HO_115003.out⟩, ⟨bk_ BK109.out⟩, ⟨bk_ BK114.out⟩, ⟨bl2_ HB.out GE109.out GE114.out⟩⟩
            case round =>
             clear H'
             try clear c1
             try clear p1
             try clear q1
             try clear hx1
             try clear qi1
             try clear c2
             try clear c2b0
             try clear c2b1
             try clear p2
             try clear c5
             try clear c6
             try clear c6b0
             try clear c6b1
             try clear p6
             try clear c9
             try clear p11
             try clear q11
             try clear hx11
             try clear qi11
             try clear c12
             try clear c14
             try clear c14b0
             try clear c14b1
             try clear c16
             try clear c18
             try clear c19
             try clear c21
             try clear c21b0
             try clear c22
             try clear c22b0
             try clear c23
             try clear c23b0
             try clear c24
             try clear c24b0
             try clear c24b1
             try clear c25
             try clear hcz13_0
             try clear hcz13_1
             try clear hcz13_2
             try clear hcz13_3
             try clear hcz17_0
             try clear hcz17_1
             try clear hcz17_2
             try clear hcz17_3
             try clear hcz20_0
             try clear hcz20_1
             try clear hcz20_2
             try clear hcz20_3
             try clear hcz26_0
             try clear hcz26_1
             try clear hcz26_2
             try clear hcz26_3
             try clear hcz4_0
             try clear hcz4_1
             try clear hcz4_2
             try clear hcz4_3
             try clear hfz13_0
             try clear hfz13_1
             try clear hfz13_2
             try clear hfz13_3
             try clear hfz17_0
             try clear hfz17_1
             try clear hfz17_2
             try clear hfz17_3
             try clear hfz20_0
             try clear hfz20_1
             try clear hfz20_2
             try clear hfz20_3
             try clear hfz26_0
             try clear hfz26_1
             try clear hfz26_2
             try clear hfz26_3
             try clear hfz4_0
             try clear hfz4_1
             try clear hfz4_2
             try clear hfz4_3
             try clear hx113_0
             try clear hx116_0
             try clear p1
             try clear p11
             try clear p113
             try clear p116
             try clear p2
             try clear p6
             try clear q1
             try clear q11
             try clear q113
             try clear q116
             obtain ⟨x8_3, x110000_3, x110001_3, x115002_3, x115003_3, u115002, u115003, rfl, HA, HK3, HO_36, HO_115002, HO_115003, BK109, BK114, HB⟩ := hrel
             cases gk with
             | zero => exact absurd HA.out (by simp [spec_fiParse.l1])
             | succ k3 =>
              have H := HA.out
              clear HA
              simp only [spec_fiParse.l1] at H
              by_cases c27 : x8_3 < ((rdOf ByteArray.empty t110 x38_2).size : Int)
              ·rw [if_pos c27] at H
               have c27b0 : decide (x8_3 < ((rdOf ByteArray.empty t110 x38_2).size : Int)) = true := decide_eq_true c27
               clear c27
               by_cases c28 : 0 ≤ x8_3
               ·rw [if_pos c28] at H
                have c28b0 : decide (0 ≤ x8_3) = true := decide_eq_true c28
                clear c28
                by_cases c30 : (bt (rdOf ByteArray.empty t110 x38_2) x8_3) = 46
                ·rw [if_pos c30] at H
                 have c30b0 : ((bt (rdOf ByteArray.empty t110 x38_2) x8_3) == 46) = true := beq_iff_eq.mpr c30
                 have c30b1 : ((bt (rdOf ByteArray.empty t110 x38_2) x8_3) != 46) = false := bne_eq_false_iff_eq.mpr c30
                 clear c30
                 have H' := Aside0.mk H
                 clear H
                 have p29 : 0 ≤ (x8_3 : Int) := of_decide_eq_true as_
                 have q29 : x8_3 < ((rdOf ByteArray.empty t110 x38_2).size : Int) := of_decide_eq_true as_
                 have hx29 := bt_at (rdOf ByteArray.empty t110 x38_2) x8_3
                 replace p29 := eq_true p29
                 replace q29 := eq_true q29
                 go_wp2
                 go_roundg k3
                 case measure => have := HJ6.out; have := HK2.out; have := HK3.out; omega
                 case rel => exact ⟨(wrap64 (x8_3 + 1)), (x110000_3), (x110001_3), (x115002_3), (x115003_3), (u115002), (u115003), rs_, H', ⟨by have := HJ6.out; have := HK2.out; have := HK3.out; omega⟩, ⟨kr_ HO_36.out⟩, ⟨kr_ HO_115002.out⟩, ⟨kr_ HO_115003.out⟩, ⟨bk_ BK109.out⟩, ⟨bk_ BK114.out⟩, ⟨bl2_ HB.out GE109.out GE114.out⟩⟩
                ·rw [if_neg c30] at H
                 have c30b0 : ((bt (rdOf ByteArray.empty t110 x38_2) x8_3) == 46) = false := beq_eq_false_iff_ne.mpr c30
                 have c30b1 : ((bt (rdOf ByteArray.empty t110 x38_2) x8_3) != 46) = true := bne_iff_ne.mpr c30
                 have HC31 := Aside0.mk H
                 clear H
                 have p29 : 0 ≤ (x8_3 : Int) := of_decide_eq_true as_
                 have q29 : x8_3 < ((rdOf ByteArray.empty t110 x38_2).size : Int) := of_decide_eq_true as_
                 have hx29 := bt_at (rdOf ByteArray.empty t110 x38_2) x8_3
                 replace p29 := eq_true p29
                 replace q29 := eq_true q29
                 go_upto_region 17 with (fail)
                 go_cut [64] (fun v64 wc => ∃ (kq : Nat) (x64_30 : Bool), v64 = .bool x64_30 ∧ Aside0 (spec_fiParse.j3 kq x38_2 (rdOf ByteArray.empty t110 x38_2) x8_3 t110 (t110.length : Int) x38_2 x64_30 ((rdOf ByteArray.empty t110 0).size : Int) (wrap64 ((t110.length : Int) / 2)) x115002_3 x115003_3 = some (r1, r2, r3, r4, r5)) ∧ Aside0 (kq ≤ k3) ∧ Aside0 (Kd.R Kd.string 9 wc w.heap.size (fun _ => True) (.slice (some ad113) t110.length co10) t110) ∧ Aside0 (Kd.R (Kd.int .i64) 3 wc w.heap.size (fun k_ => some k_ ≠ (u115003 : Value).ownBlock) u115002 x115002_3) ∧ Aside0 (Kd.R (Kd.int .i64) 3 wc w.heap.size (fun k_ => some k_ ≠ (u115002 : Value).ownBlock) u115003 x115003_3) ∧ Aside0 (wc.heap[gb109]? = some (.cells #[.int .i64 x110000_3, .int .i64 x110001_3, (.slice none 0 0), (.slice none 0 0)] 36 (0, 0))) ∧ Aside0 (wc.heap[gb114]? = some (.cells #[.int .i64 ((rdOf ByteArray.empty t110 0).size : Int), .int .i64 (wrap64 ((t110.length : Int) / 2)), u115002, u115003] 36 (0, 0))) ∧ Aside0 (Below w.heap.size w wc))
                 case first =>
                  have H := HC31.out
                  clear HC31
                  by_cases c32 : (Int.tmod x38_2 2) = 0
                  ·rw [if_pos c32] at H
                   have c32b0 : ((Int.tmod x38_2 2) == 0) = true := beq_iff_eq.mpr c32
                   have c32b1 : ((Int.tmod x38_2 2) != 0) = false := bne_eq_false_iff_eq.mpr c32
                   clear c32
                   (first | rw [c32b0] | (simp only [i64_w, i32_w]; rw [c32b0]) | skip)
                   have H' := Aside0.mk H
                   clear H
                   have p33 : 0 ≤ (x8_3 : Int) := of_decide_eq_true as_
                   have q33 : x8_3 < ((rdOf ByteArray.empty t110 x38_2).size : Int) := of_decide_eq_true as_
                   have hx33 := bt_at (rdOf ByteArray.empty t110 x38_2) x8_3
                   replace p33 := eq_true p33
                   replace q33 := eq_true q33
                   go_wp2
                   go_meet
                   case rel => exact ⟨_, (((bt (rdOf ByteArray.empty t110 x38_2) x8_3) == 45)), rs_, H', ⟨by have := HJ6.out; have := HK2.out; have := HK3.out; first | omega | exact Nat.le_refl _⟩, ⟨kr_ HO_36.out⟩, ⟨kr_ HO_115002.out⟩, ⟨kr_ HO_115003.out⟩, ⟨bk_ BK109.out⟩, ⟨bk_ BK114.out⟩, ⟨bl2_ HB.out GE109.out GE114.out⟩⟩
                  ·rw [if_neg c32] at H
                   have c32b0 : ((Int.tmod x38_2 2) == 0) = false := beq_eq_false_iff_ne.mpr c32
                   have c32b1 : ((Int.tmod x38_2 2) != 0) = true := bne_iff_ne.mpr c32
                   (first | rw [c32b0] | (simp only [i64_w, i32_w]; rw [c32b0]) | skip)
                   have H' := Aside0.mk H
                   clear H
                   go_wp2
                   go_meet
                   case rel => exact ⟨_, (false), rs_, H', ⟨by have := HJ6.out; have := HK2.out; have := HK3.out; first | omega | exact Nat.le_refl _⟩, ⟨kr_ HO_36.out⟩, ⟨kr_ HO_115002.out⟩, ⟨kr_ HO_115003.out⟩, ⟨bk_ BK109.out⟩, ⟨bk_ BK114.out⟩, ⟨bl2_ HB.out GE109.out GE114.out⟩⟩
                 case rest =>
                  clear HC31
                  try clear c1
                  try clear p1
                  try clear q1
                  try clear hx1
                  try clear qi1
                  try clear c2
                  try clear c2b0
                  try clear c2b1
                  try clear p2
                  try clear q2
                  try clear hx2
                  try clear c3
                  try clear p3
                  try clear q3
                  try clear hx3
                  try clear c5
                  try clear c6
                  try clear c6b0
                  try clear c6b1
                  try clear p6
                  try clear c9
                  try clear p11
                  try clear q11
                  try clear hx11
                  try clear qi11
                  try clear c12
                  try clear c14
                  try clear c14b0
                  try clear c14b1
                  try clear c16
                  try clear c18
                  try clear c19
                  try clear c21
                  try clear c21b0
                  try clear c22
                  try clear c22b0
                  try clear c23
                  try clear c23b0
                  try clear c24
                  try clear c24b0
                  try clear c24b1
                  try clear c25
                  try clear c27
                  try clear c27b0
                  try clear c28
                  try clear c28b0
                  try clear p29
                  try clear q29
                  try clear hx29
                  try clear c30
                  try clear c30b0
                  try clear c30b1
                  try clear c32
                  try clear c32b0
                  try clear c32b1
                  try clear p33
                  try clear q33
                  try clear hx33
                  try clear hcz13_0
                  try clear hcz13_1
                  try clear hcz13_2
                  try clear hcz13_3
                  try clear hcz17_0
                  try clear hcz17_1
                  try clear hcz17_2
                  try clear hcz17_3
                  try clear hcz20_0
                  try clear hcz20_1
                  try clear hcz20_2
                  try clear hcz20_3
                  try clear hcz26_0
                  try clear hcz26_1
                  try clear hcz26_2
                  try clear hcz26_3
                  try clear hcz4_0
                  try clear hcz4_1
                  try clear hcz4_2
                  try clear hcz4_3
                  try clear hfz13_0
                  try clear hfz13_1
                  try clear hfz13_2
                  try clear hfz13_3
                  try clear hfz17_0
                  try clear hfz17_1
                  try clear hfz17_2
                  try clear hfz17_3
                  try clear hfz20_0
                  try clear hfz20_1
                  try clear hfz20_2
                  try clear hfz20_3
                  try clear hfz26_0
                  try clear hfz26_1
                  try clear hfz26_2
                  try clear hfz26_3
                  try clear hfz4_0
                  try clear hfz4_1
                  try clear hfz4_2
                  try clear hfz4_3
                  try clear hx113_0
                  try clear hx116_0
                  try clear p1
                  try clear p11
                  try clear p113
                  try clear p116
                  try clear p2
                  try clear p29
                  try clear p33
                  try clear p6
                  try clear q1
                  try clear q11
                  try clear q113
                  try clear q116
                  try clear q29
                  try clear q33
                  obtain ⟨kq, x64_30, rfl, HA, HJ30, HO_36, HO_115002, HO_115003, BK109, BK114, HB⟩ := hcut
                  cases kq with
                  | zero => exact absurd HA.out (by simp [spec_fiParse.j3])
                  | succ kj30 =>
                   have H := HA.out
                   clear HA
                   simp only [spec_fiParse.j3] at H
                   by_cases c34 : x64_30 = true
                   ·subst c34
                    have H1 : (if x115002_3.length < 17592186044416 then (spec_fiParse.l1 kj30 x38_2 (rdOf ByteArray.empty t110 x38_2) (wrap64 (x8_3 + 1)) t110 (t110.length : Int) x38_2 ((rdOf ByteArray.empty t110 0).size : Int) (wrap64 ((t110.length : Int) / 2)) (x115002_3 ++ [wrap64 ((wrap64 ((wrap64 (Int.tdiv x38_2 2)) * ((rdOf ByteArray.empty t110 0).size : Int))) + x8_3)]) x115003_3) else (none)) = some (r1, r2, r3, r4, r5) := by rw [if_pos rfl] at H; exact H
                    clear H
                    have H := H1
                    clear H1
                    by_cases c35 : x115002_3.length < 17592186044416
                    ·rw [if_pos c35] at H
                     have LMc35 := Aside0.mk c35
                     clear c35
                     obtain ⟨y117, hy117⟩ : ∃ y_ : List Int, y_ = (x115002_3 ++ [wrap64 ((wrap64 ((wrap64 (Int.tdiv x38_2 2)) * ((rdOf ByteArray.empty t110 0).size : Int))) + x8_3)]) := ⟨_, rfl⟩
                     replace H : (spec_fiParse.l1 kj30 x38_2 (rdOf ByteArray.empty t110 x38_2) (wrap64 (x8_3 + 1)) t110 (t110.length : Int) x38_2 ((rdOf ByteArray.empty t110 0).size : Int) (wrap64 ((t110.length : Int) / 2)) y117 x115003_3) = some (r1, r2, r3, r4, r5) := by first | (rw [hy117]; with_reducible exact H) | (have H2_ := (Option.bind_some _ _).symm.trans H; rw [hy117]; with_reducible exact H2_) | (have H2_ := (Option.bind_some _ _).symm.trans H; with_reducible exact H2_) | with_reducible exact H | (rw [hy117]; exact H) | exact H
                     have Ny117 := Aside0.mk hy117
                     clear hy117
                     have H' := Aside0.mk H
                     clear H
                     have hnb36 := NB114_109.out
                     have hnc36 := NB109_114.out
                     have hcz37_0 : wc.cell? ⟨gb114, 0, none⟩ = some (.int .i64 ((rdOf ByteArray.empty t110 0).size : Int)) := (blk_cell BK114.out 0).trans rfl
                     have hcz37_1 : wc.cell? ⟨gb114, 1, none⟩ = some (.int .i64 (wrap64 ((t110.length : Int) / 2))) := (blk_cell BK114.out 1).trans rfl
                     have hcz37_2 : wc.cell? ⟨gb114, 2, none⟩ = some (u115002) := (blk_cell BK114.out 2).trans rfl
                     have hcz37_3 : wc.cell? ⟨gb114, 3, none⟩ = some (u115003) := (blk_cell BK114.out 3).trans rfl
                     have hfz37_0 := blk_frozen BK114.out 0
                     have hfz37_1 := blk_frozen BK114.out 1
                     have hfz37_2 := blk_frozen BK114.out 2
                     have hfz37_3 := blk_frozen BK114.out 3
                     go_wp2_with (first | ((with_reducible refine gate_builtin (b := .append) (xs := #[.tmp 75, .tmp 83]) rfl ?_); at_builtin; refine Kd.R_append (Kd.int .i64) (w0 := w) w.heap.size rfl (.tmp 75) (.tmp 83) 22 3 (.int .i64 0) 8 rfl Tryd.underlying22 info3 rfl (by decide) (by omega) u115002 x115002_3 (wrap64 ((wrap64 ((wrap64 (Int.tdiv x38_2 2)) * ((rdOf ByteArray.empty t110 0).size : Int))) + x8_3)) [.int .i64 (wrap64 ((wrap64 ((wrap64 (Int.tdiv x38_2 2)) * ((rdOf ByteArray.empty t110 0).size : Int))) + x8_3))] (fun k_ => some k_ ≠ (u115003 : Value).ownBlock) (fun _ => False) rfl rfl ?aP (fun _ hk => hk.elim) ?aF ?aO ?aB ?aS ?aL ?_; (case aP => exact rfl); (case aB => exact (bl2_ HB.out GE109.out GE114.out)); (case aF => exact (fun k_ hk => Kd.fresh' (Kd.R_lt (kr_ HO_115003.out)) k_ hk)); (case aO => exact (kr_ HO_115002.out)); (case aS => exact (below_size (bl2_ HB.out GE109.out GE114.out))); (case aL => have := LMc35.out; omega); intro v118 w38 ho hb hg hat; rw [← Ny117.out] at ho; have n0_ := Aside0.mk (Kd.R_over' (kr_ HO_36.out) (Kd.R_typed (kr_ HO_115002.out)) (by decide) hg); have n1_ := Aside0.mk (Kd.R_after (ok := (fun _ => True)) (by (with_reducible repeat (first | apply Kd.R_alloc | apply Kd.R_drewN | apply Kd.R_drew)); exact Kd.R_mono HO_115003.out (fun _ hk => ⟨trivial, hk⟩)) hg hat); have n2_ := Aside0.mk (blk_grown (g := gb109) (o := .cells #[.int .i64 x110000_3, .int .i64 x110001_3, .slice none 0 0, .slice none 0 0] 36 (0, 0)) (bk_ BK109.out) hg (Kd.R_ne HO_115002.out BK109.out (by decide))); have n3_ := Aside0.mk (blk_grown (g := gb114) (o := .cells #[.int .i64 ((rdOf ByteArray.empty t110 0).size : Int), .int .i64 (wrap64 ((t110.length : Int) / 2)), u115002, u115003] 36 (0, 0)) (bk_ BK114.out) hg (Kd.R_ne HO_115002.out BK114.out (by decide))); have n4_ := Aside0.mk (hb); have n5_ := Aside0.mk (ho); clear HO_36; clear HO_115003; clear BK109; clear BK114; clear HB; clear HO_115002; have HO_36 := n0_; have HO_115003 := n1_; have BK109 := n2_; have BK114 := n3_; have HB := n4_; have HO119 := n5_; clear n0_ n1_ n2_ n3_ n4_ n5_; clear ho hb hg hat; obtain ⟨Ao39, co39, eo39⟩ := Kd.R_slice HO119.out; subst eo39; have hcz40_0 : w38.cell? ⟨gb114, 0, none⟩ = some (.int .i64 ((rdOf ByteArray.empty t110 0).size : Int)) := (blk_cell BK114.out 0).trans rfl; have hcz40_1 : w38.cell? ⟨gb114, 1, none⟩ = some (.int .i64 (wrap64 ((t110.length : Int) / 2))) := (blk_cell BK114.out 1).trans rfl; have hcz40_2 : w38.cell? ⟨gb114, 2, none⟩ = some (u115002) := (blk_cell BK114.out 2).trans rfl; have hcz40_3 : w38.cell? ⟨gb114, 3, none⟩ = some (u115003) := (blk_cell BK114.out 3).trans rfl; have hfz40_0 := blk_frozen BK114.out 0; have hfz40_1 := blk_frozen BK114.out 1; have hfz40_2 := blk_frozen BK114.out 2; have hfz40_3 := blk_frozen BK114.out 3))
                     go_roundg kj30
                     case measure => have := HJ6.out; have := HK2.out; have := HK3.out; have := HJ30.out; omega
                     case rel => exact ⟨(wrap64 (x8_3 + 1)), (x110000_3), (x110001_3), (y117), (x115003_3), (.slice Ao39 y117.length co39), (u115003), rs_, H', ⟨by have := HJ6.out; have := HK2.out; have := HK3.out; have := HJ30.out; omega⟩, ⟨by (with_reducible repeat (first | apply Kd.R_alloc | apply Kd.R_drewN | apply Kd.R_drew)); exact Kd.R_mono (Kd.R_far (p := ⟨gb114, 2, none⟩) (Kd.R_types HO_36.out BK114.out (by decide)) (fun _ hk => hk.2) (.slice Ao39 y117.length co39)) (fun _ hk => trivial)⟩, ⟨by (with_reducible repeat (first | apply Kd.R_alloc | apply Kd.R_drewN | apply Kd.R_drew)); exact Kd.R_mono (Kd.R_far (p := ⟨gb114, 2, none⟩) (Kd.R_types HO119.out BK114.out (by decide)) (fun _ hk => hk.2) (.slice Ao39 y117.length co39)) (fun _ hk => hk.1)⟩, ⟨by (with_reducible repeat (first | apply Kd.R_alloc | apply Kd.R_drewN | apply Kd.R_drew)); exact Kd.R_mono (Kd.R_far (p := ⟨gb114, 2, none⟩) (Kd.R_types HO_115003.out BK114.out (by decide)) (fun _ hk => hk.2) (.slice Ao39 y117.length co39)) (fun _ hk => hk.1.2)⟩, ⟨bf1_ NB109_114.out BK109.out⟩, ⟨by (with_reducible repeat (first | refine blk_drewN ?_ _ | refine blk_drew ?_ | refine blk_alloc ?_ _)); refine blk_put (cs := #[.int .i64 ((rdOf ByteArray.empty t110 0).size : Int), .int .i64 (wrap64 ((t110.length : Int) / 2)), u115002, u115003]) ?_ 2 _ rfl; (with_reducible repeat (first | refine blk_drewN ?_ _ | refine blk_drew ?_ | refine blk_alloc ?_ _)); exact BK114.out⟩, ⟨bl2_ HB.out GE109.out GE114.out⟩⟩
                    ·rw [if_neg c35] at H
                     exact absurd H (by simp)
                   ·replace c34 := Bool.eq_false_iff.mpr c34
                    subst c34
                    have H1 : (if (Int.tmod x38_2 2) = 1 then (if 0 ≤ x8_3 then (if x8_3 < ((rdOf ByteArray.empty t110 x38_2).size : Int) then (if (bt (rdOf ByteArray.empty t110 x38_2) x8_3) = 124 then (if x115003_3.length < 17592186044416 then (spec_fiParse.l1 kj30 x38_2 (rdOf ByteArray.empty t110 x38_2) (wrap64 (x8_3 + 1)) t110 (t110.length : Int) x38_2 ((rdOf ByteArray.empty t110 0).size : Int) (wrap64 ((t110.length : Int) / 2)) x115002_3 (x115003_3 ++ [wrap64 ((wrap64 ((wrap64 (Int.tdiv x38_2 2)) * (wrap64 (((rdOf ByteArray.empty t110 0).size : Int) + 1)))) + x8_3)])) else (none)) else (some (0, 0, ([] : List Int), ([] : List Int), false))) else (none)) else (none)) else (some (0, 0, ([] : List Int), ([] : List Int), false))) = some (r1, r2, r3, r4, r5) := by rw [if_neg (show ¬ (false = true) by decide)] at H; exact H
                    clear H
                    have H := H1
                    clear H1
                    by_cases c41 : (Int.tmod x38_2 2) = 1
                    ·rw [if_pos c41] at H
                     have c41b0 : ((Int.tmod x38_2 2) == 1) = true := beq_iff_eq.mpr c41
                     have c41b1 : ((Int.tmod x38_2 2) != 1) = false := bne_eq_false_iff_eq.mpr c41
                     clear c41
                     by_cases c42 : 0 ≤ x8_3
                     ·rw [if_pos c42] at H
                      have c42b0 : decide (0 ≤ x8_3) = true := decide_eq_true c42
                      clear c42
                      by_cases c43 : x8_3 < ((rdOf ByteArray.empty t110 x38_2).size : Int)
                      ·rw [if_pos c43] at H
                       have c43b0 : decide (x8_3 < ((rdOf ByteArray.empty t110 x38_2).size : Int)) = true := decide_eq_true c43
                       clear c43
                       by_cases c45 : (bt (rdOf ByteArray.empty t110 x38_2) x8_3) = 124
                       ·rw [if_pos c45] at H
                        have c45b0 : ((bt (rdOf ByteArray.empty t110 x38_2) x8_3) == 124) = true := beq_iff_eq.mpr c45
                        have c45b1 : ((bt (rdOf ByteArray.empty t110 x38_2) x8_3) != 124) = false := bne_eq_false_iff_eq.mpr c45
                        clear c45
                        by_cases c46 : x115003_3.length < 17592186044416
                        ·rw [if_pos c46] at H
                         have LMc46 := Aside0.mk c46
                         clear c46
                         obtain ⟨y120, hy120⟩ : ∃ y_ : List Int, y_ = (x115003_3 ++ [wrap64 ((wrap64 ((wrap64 (Int.tdiv x38_2 2)) * (wrap64 (((rdOf ByteArray.empty t110 0).size : Int) + 1)))) + x8_3)]) := ⟨_, rfl⟩
                         replace H : (spec_fiParse.l1 kj30 x38_2 (rdOf ByteArray.empty t110 x38_2) (wrap64 (x8_3 + 1)) t110 (t110.length : Int) x38_2 ((rdOf ByteArray.empty t110 0).size : Int) (wrap64 ((t110.length : Int) / 2)) x115002_3 y120) = some (r1, r2, r3, r4, r5) := by first | (rw [hy120]; with_reducible exact H) | (have H2_ := (Option.bind_some _ _).symm.trans H; rw [hy120]; with_reducible exact H2_) | (have H2_ := (Option.bind_some _ _).symm.trans H; with_reducible exact H2_) | with_reducible exact H | (rw [hy120]; exact H) | exact H
                         have Ny120 := Aside0.mk hy120
                         clear hy120
                         have H' := Aside0.mk H
                         clear H
                         have p44 : 0 ≤ (x8_3 : Int) := of_decide_eq_true as_
                         have q44 : x8_3 < ((rdOf ByteArray.empty t110 x38_2).size : Int) := of_decide_eq_true as_
                         have hx44 := bt_at (rdOf ByteArray.empty t110 x38_2) x8_3
                         replace p44 := eq_true p44
                         replace q44 := eq_true q44
                         have hnb47 := NB114_109.out
                         have hnc47 := NB109_114.out
                         have hcz48_0 : wc.cell? ⟨gb114, 0, none⟩ = some (.int .i64 ((rdOf ByteArray.empty t110 0).size : Int)) := (blk_cell BK114.out 0).trans rfl
                         have hcz48_1 : wc.cell? ⟨gb114, 1, none⟩ = some (.int .i64 (wrap64 ((t110.length : Int) / 2))) := (blk_cell BK114.out 1).trans rfl
                         have hcz48_2 : wc.cell? ⟨gb114, 2, none⟩ = some (u115002) := (blk_cell BK114.out 2).trans rfl
                         have hcz48_3 : wc.cell? ⟨gb114, 3, none⟩ = some (u115003) := (blk_cell BK114.out 3).trans rfl
                         have hfz48_0 := blk_frozen BK114.out 0
                         have hfz48_1 := blk_frozen BK114.out 1
                         have hfz48_2 := blk_frozen BK114.out 2
                         have hfz48_3 := blk_frozen BK114.out 3
                         go_wp2_with (first | ((with_reducible refine gate_builtin (b := .append) (xs := #[.tmp 97, .tmp 106]) rfl ?_); at_builtin; refine Kd.R_append (Kd.int .i64) (w0 := w) w.heap.size rfl (.tmp 97) (.tmp 106) 22 3 (.int .i64 0) 8 rfl Tryd.underlying22 info3 rfl (by decide) (by omega) u115003 x115003_3 (wrap64 ((wrap64 ((wrap64 (Int.tdiv x38_2 2)) * (wrap64 (((rdOf ByteArray.empty t110 0).size : Int) + 1)))) + x8_3)) [.int .i64 (wrap64 ((wrap64 ((wrap64 (Int.tdiv x38_2 2)) * (wrap64 (((rdOf ByteArray.empty t110 0).size : Int) + 1)))) + x8_3))] (fun k_ => some k_ ≠ (u115002 : Value).ownBlock) (fun _ => False) rfl rfl ?aP (fun _ hk => hk.elim) ?aF ?aO ?aB ?aS ?aL ?_; (case aP => exact rfl); (case aB => exact (bl2_ HB.out GE109.out GE114.out)); (case aF => exact (fun k_ hk => Kd.fresh' (Kd.R_lt (kr_ HO_115002.out)) k_ hk)); (case aO => exact (kr_ HO_115003.out)); (case aS => exact (below_size (bl2_ HB.out GE109.out GE114.out))); (case aL => have := LMc46.out; omega); intro v121 w49 ho hb hg hat; rw [← Ny120.out] at ho; have n0_ := Aside0.mk (Kd.R_over' (kr_ HO_36.out) (Kd.R_typed (kr_ HO_115003.out)) (by decide) hg); have n1_ := Aside0.mk (Kd.R_after (ok := (fun _ => True)) (by (with_reducible repeat (first | apply Kd.R_alloc | apply Kd.R_drewN | apply Kd.R_drew)); exact Kd.R_mono HO_115002.out (fun _ hk => ⟨trivial, hk⟩)) hg hat); have n2_ := Aside0.mk (blk_grown (g := gb109) (o := .cells #[.int .i64 x110000_3, .int .i64 x110001_3, .slice none 0 0, .slice none 0 0] 36 (0, 0)) (bk_ BK109.out) hg (Kd.R_ne HO_115003.out BK109.out (by decide))); have n3_ := Aside0.mk (blk_grown (g := gb114) (o := .cells #[.int .i64 ((rdOf ByteArray.empty t110 0).size : Int), .int .i64 (wrap64 ((t110.length : Int) / 2)), u115002, u115003] 36 (0, 0)) (bk_ BK114.out) hg (Kd.R_ne HO_115003.out BK114.out (by decide))); have n4_ := Aside0.mk (hb); have n5_ := Aside0.mk (ho); clear HO_36; clear HO_115002; clear BK109; clear BK114; clear HB; clear HO_115003; have HO_36 := n0_; have HO_115002 := n1_; have BK109 := n2_; have BK114 := n3_; have HB := n4_; have HO122 := n5_; clear n0_ n1_ n2_ n3_ n4_ n5_; clear ho hb hg hat; obtain ⟨Ao50, co50, eo50⟩ := Kd.R_slice HO122.out; subst eo50; have hcz51_0 : w49.cell? ⟨gb114, 0, none⟩ = some (.int .i64 ((rdOf ByteArray.empty t110 0).size : Int)) := (blk_cell BK114.out 0).trans rfl; have hcz51_1 : w49.cell? ⟨gb114, 1, none⟩ = some (.int .i64 (wrap64 ((t110.length : Int) / 2))) := (blk_cell BK114.out 1).trans rfl; have hcz51_2 : w49.cell? ⟨gb114, 2, none⟩ = some (u115002) := (blk_cell BK114.out 2).trans rfl; have hcz51_3 : w49.cell? ⟨gb114, 3, none⟩ = some (u115003) := (blk_cell BK114.out 3).trans rfl; have hfz51_0 := blk_frozen BK114.out 0; have hfz51_1 := blk_frozen BK114.out 1; have hfz51_2 := blk_frozen BK114.out 2; have hfz51_3 := blk_frozen BK114.out 3))
                         go_roundg kj30
                         case measure => have := HJ6.out; have := HK2.out; have := HK3.out; have := HJ30.out; omega
                         case rel => exact ⟨(wrap64 (x8_3 + 1)), (x110000_3), (x110001_3), (x115002_3), (y120), (u115002), (.slice Ao50 y120.length co50), rs_, H', ⟨by have := HJ6.out; have := HK2.out; have := HK3.out; have := HJ30.out; omega⟩, ⟨by (with_reducible repeat (first | apply Kd.R_alloc | apply Kd.R_drewN | apply Kd.R_drew)); exact Kd.R_mono (Kd.R_far (p := ⟨gb114, 3, none⟩) (Kd.R_types HO_36.out BK114.out (by decide)) (fun _ hk => hk.2) (.slice Ao50 y120.length co50)) (fun _ hk => trivial)⟩, ⟨by (with_reducible repeat (first | apply Kd.R_alloc | apply Kd.R_drewN | apply Kd.R_drew)); exact Kd.R_mono (Kd.R_far (p := ⟨gb114, 3, none⟩) (Kd.R_types HO_115002.out BK114.out (by decide)) (fun _ hk => hk.2) (.slice Ao50 y120.length co50)) (fun _ hk => hk.1.2)⟩, ⟨by (with_reducible repeat (first | apply Kd.R_alloc | apply Kd.R_drewN | apply Kd.R_drew)); exact Kd.R_mono (Kd.R_far (p := ⟨gb114, 3, none⟩) (Kd.R_types HO122.out BK114.out (by decide)) (fun _ hk => hk.2) (.slice Ao50 y120.length co50)) (fun _ hk => hk.1)⟩, ⟨bf1_ NB109_114.out BK109.out⟩, ⟨by (with_reducible repeat (first | refine blk_drewN ?_ _ | refine blk_drew ?_ | refine blk_alloc ?_ _)); refine blk_put (cs := #[.int .i64 ((rdOf ByteArray.empty t110 0).size : Int), .int .i64 (wrap64 ((t110.length : Int) / 2)), u115002, u115003]) ?_ 3 _ rfl; (with_reducible repeat (first | refine blk_drewN ?_ _ | refine blk_drew ?_ | refine blk_alloc ?_ _)); exact BK114.out⟩, ⟨bl2_ HB.out GE109.out GE114.out⟩⟩
                        ·rw [if_neg c46] at H
                         exact absurd H (by simp)
                       ·rw [if_neg c45] at H
                        have c45b0 : ((bt (rdOf ByteArray.empty t110 x38_2) x8_3) == 124) = false := beq_eq_false_iff_ne.mpr c45
                        have c45b1 : ((bt (rdOf ByteArray.empty t110 x38_2) x8_3) != 124) = true := bne_iff_ne.mpr c45
                        simp only [Option.some.injEq, Prod.mk.injEq] at H
                        obtain ⟨rfl, rfl, rfl, rfl, rfl⟩ := H
                        have p44 : 0 ≤ (x8_3 : Int) := of_decide_eq_true as_
                        have q44 : x8_3 < ((rdOf ByteArray.empty t110 x38_2).size : Int) := of_decide_eq_true as_
                        have hx44 := bt_at (rdOf ByteArray.empty t110 x38_2) x8_3
                        replace p44 := eq_true p44
                        replace q44 := eq_true q44
                        have hnb52 := NB109_114.out
                        have hnc52 := NB114_109.out
                        have hcz53_0 : wc.cell? ⟨gb109, 0, none⟩ = some (.int .i64 x110000_3) := (blk_cell BK109.out 0).trans rfl
                        have hcz53_1 : wc.cell? ⟨gb109, 1, none⟩ = some (.int .i64 x110001_3) := (blk_cell BK109.out 1).trans rfl
                        have hcz53_2 : wc.cell? ⟨gb109, 2, none⟩ = some (.slice none 0 0) := (blk_cell BK109.out 2).trans rfl
                        have hcz53_3 : wc.cell? ⟨gb109, 3, none⟩ = some (.slice none 0 0) := (blk_cell BK109.out 3).trans rfl
                        have hfz53_0 := blk_frozen BK109.out 0
                        have hfz53_1 := blk_frozen BK109.out 1
                        have hfz53_2 := blk_frozen BK109.out 2
                        have hfz53_3 := blk_frozen BK109.out 3
                        go_wp2
                        refine bodyPost_ret (results_ct rfl _ _ gb109 36 #[.int .i64 0, .int .i64 0, .slice none 0 0, .slice none 0 0] (0, 0) _ rfl (by (with_reducible repeat (first | refine blk_drewN ?_ _ | refine blk_drew ?_ | refine blk_alloc ?_ _)); refine blk_put (cs := #[.int .i64 0, .int .i64 0, .slice none 0 0, .slice none 0 0]) ?_ 3 _ rfl; (with_reducible repeat (first | refine blk_drewN ?_ _ | refine blk_drew ?_ | refine blk_alloc ?_ _)); refine blk_put (cs := #[.int .i64 0, .int .i64 0, .slice none 0 0, .slice none 0 0]) ?_ 2 _ rfl; (with_reducible repeat (first | refine blk_drewN ?_ _ | refine blk_drew ?_ | refine blk_alloc ?_ _)); refine blk_put (cs := #[.int .i64 0, .int .i64 x110001_3, .slice none 0 0, .slice none 0 0]) ?_ 1 _ rfl; (with_reducible repeat (first | refine blk_drewN ?_ _ | refine blk_drew ?_ | refine blk_alloc ?_ _)); refine blk_put (cs := #[.int .i64 x110000_3, .int .i64 x110001_3, .slice none 0 0, .slice none 0 0]) ?_ 0 _ rfl; (with_reducible repeat (first | refine blk_drewN ?_ _ | refine blk_drew ?_ | refine blk_alloc ?_ _)); exact BK109.out) Tryd.underlying36 rfl (by kernel_rfl)) rfl ?_
                        exact ⟨_, _, er_, by first | exact Kd.R_nil _ _ _ _ _ | exact Kd.N_nil _ _ _ _ _ | exact Kd.V_nil _ _ _ _ _ | exact Kd.Q_nil _ _ _ _ _ | exact Kd.S_nil _ _ _ _ _, by first | exact Kd.R_nil _ _ _ _ _ | exact Kd.N_nil _ _ _ _ _ | exact Kd.V_nil _ _ _ _ _ | exact Kd.Q_nil _ _ _ _ _ | exact Kd.S_nil _ _ _ _ _, bl2_ HB.out GE109.out GE114.out⟩
                      ·rw [if_neg c43] at H
                       exact absurd H (by simp)
                     ·rw [if_neg c42] at H
                      exact absurd H (by simp)
                    ·rw [if_neg c41] at H
                     have c41b0 : ((Int.tmod x38_2 2) == 1) = false := beq_eq_false_iff_ne.mpr c41
                     have c41b1 : ((Int.tmod x38_2 2) != 1) = true := bne_iff_ne.mpr c41
                     simp only [Option.some.injEq, Prod.mk.injEq] at H
                     obtain ⟨rfl, rfl, rfl, rfl, rfl⟩ := H
                     have hnb54 := NB109_114.out
                     have hnc54 := NB114_109.out
                     have hcz55_0 : wc.cell? ⟨gb109, 0, none⟩ = some (.int .i64 x110000_3) := (blk_cell BK109.out 0).trans rfl
                     have hcz55_1 : wc.cell? ⟨gb109, 1, none⟩ = some (.int .i64 x110001_3) := (blk_cell BK109.out 1).trans rfl
                     have hcz55_2 : wc.cell? ⟨gb109, 2, none⟩ = some (.slice none 0 0) := (blk_cell BK109.out 2).trans rfl
                     have hcz55_3 : wc.cell? ⟨gb109, 3, none⟩ = some (.slice none 0 0) := (blk_cell BK109.out 3).trans rfl
                     have hfz55_0 := blk_frozen BK109.out 0
                     have hfz55_1 := blk_frozen BK109.out 1
                     have hfz55_2 := blk_frozen BK109.out 2
                     have hfz55_3 := blk_frozen BK109.out 3
                     go_wp2
                     refine bodyPost_ret (results_ct rfl _ _ gb109 36 #[.int .i64 0, .int .i64 0, .slice none 0 0, .slice none 0 0] (0, 0) _ rfl (by (with_reducible repeat (first | refine blk_drewN ?_ _ | refine blk_drew ?_ | refine blk_alloc ?_ _)); refine blk_put (cs := #[.int .i64 0, .int .i64 0, .slice none 0 0, .slice none 0 0]) ?_ 3 _ rfl; (with_reducible repeat (first | refine blk_drewN ?_ _ | refine blk_drew ?_ | refine blk_alloc ?_ _)); refine blk_put (cs := #[.int .i64 0, .int .i64 0, .slice none 0 0, .slice none 0 0]) ?_ 2 _ rfl; (with_reducible repeat (first | refine blk_drewN ?_ _ | refine blk_drew ?_ | refine blk_alloc ?_ _)); refine blk_put (cs := #[.int .i64 0, .int .i64 x110001_3, .slice none 0 0, .slice none 0 0]) ?_ 1 _ rfl; (with_reducible repeat (first | refine blk_drewN ?_ _ | refine blk_drew ?_ | refine blk_alloc ?_ _)); refine blk_put (cs := #[.int .i64 x110000_3, .int .i64 x110001_3, .slice none 0 0, .slice none 0 0]) ?_ 0 _ rfl; (with_reducible repeat (first | refine blk_drewN ?_ _ | refine blk_drew ?_ | refine blk_alloc ?_ _)); exact BK109.out) Tryd.underlying36 rfl (by kernel_rfl)) rfl ?_
                     exact ⟨_, _, er_, by first | exact Kd.R_nil _ _ _ _ _ | exact Kd.N_nil _ _ _ _ _ | exact Kd.V_nil _ _ _ _ _ | exact Kd.Q_nil _ _ _ _ _ | exact Kd.S_nil _ _ _ _ _, by first | exact Kd.R_nil _ _ _ _ _ | exact Kd.N_nil _ _ _ _ _ | exact Kd.V_nil _ _ _ _ _ | exact Kd.Q_nil _ _ _ _ _ | exact Kd.S_nil _ _ _ _ _, bl2_ HB.out GE109.out GE114.out⟩
               ·rw [if_neg c28] at H
                exact absurd H (by simp)
              ·rw [if_neg c27] at H
               have c27b0 : decide (x8_3 < ((rdOf ByteArray.empty t110 x38_2).size : Int)) = false := decide_eq_false c27
               clear c27
               have H' := Aside0.mk H
               clear H
               go_wp2
               go_roundg k3
               case measure => have := HJ6.out; have := HK2.out; have := HK3.out; omega
               case rel => exact ⟨(wrap64 (x38_2 + 1)), (x110000_3), (x110001_3), (x115002_3), (x115003_3), (u115002), (u115003), rs_, H', ⟨by have := HJ6.out; have := HK2.out; have := HK3.out; omega⟩, ⟨kr_ HO_36.out⟩, ⟨kr_ HO_115002.out⟩, ⟨kr_ HO_115003.out⟩, ⟨bk_ BK109.out⟩, ⟨bk_ BK114.out⟩, ⟨bl2_ HB.out GE109.out GE114.out⟩⟩
           ·rw [if_neg c24] at H
            have c24b0 : (((rdOf ByteArray.empty t110 x38_2).size : Int) == (wrap64 (((rdOf ByteArray.empty t110 0).size : Int) + (Int.tmod x38_2 2)))) = false := beq_eq_false_iff_ne.mpr c24
            have c24b1 : (((rdOf ByteArray.empty t110 x38_2).size : Int) != (wrap64 (((rdOf ByteArray.empty t110 0).size : Int) + (Int.tmod x38_2 2)))) = true := bne_iff_ne.mpr c24
            simp only [Option.some.injEq, Prod.mk.injEq] at H
            obtain ⟨rfl, rfl, rfl, rfl, rfl⟩ := H
            have p116 : 0 ≤ (x38_2 : Int) := of_decide_eq_true as_
            have q116 : x38_2 < (t110.length : Int) := of_decide_eq_true as_
            obtain ⟨ad116, e116, hx116_0⟩ := Kd.at_string (Kd.R_reads' HO_36.out).2.2 x38_2 p116 q116
            obtain rfl : ad113 = ad116 := (by injection e116)
            replace p116 := eq_true p116
            replace q116 := eq_true q116
            have hnb56 := NB114_109.out
            have hnc56 := NB109_114.out
            have hcz57_0 : wr.cell? ⟨gb114, 0, none⟩ = some (.int .i64 ((rdOf ByteArray.empty t110 0).size : Int)) := (blk_cell BK114.out 0).trans rfl
            have hcz57_1 : wr.cell? ⟨gb114, 1, none⟩ = some (.int .i64 (wrap64 ((t110.length : Int) / 2))) := (blk_cell BK114.out 1).trans rfl
            have hcz57_2 : wr.cell? ⟨gb114, 2, none⟩ = some (u115002) := (blk_cell BK114.out 2).trans rfl
            have hcz57_3 : wr.cell? ⟨gb114, 3, none⟩ = some (u115003) := (blk_cell BK114.out 3).trans rfl
            have hfz57_0 := blk_frozen BK114.out 0
            have hfz57_1 := blk_frozen BK114.out 1
            have hfz57_2 := blk_frozen BK114.out 2
            have hfz57_3 := blk_frozen BK114.out 3
            have hcz58_0 : wr.cell? ⟨gb109, 0, none⟩ = some (.int .i64 x110000_2) := (blk_cell BK109.out 0).trans rfl
            have hcz58_1 : wr.cell? ⟨gb109, 1, none⟩ = some (.int .i64 x110001_2) := (blk_cell BK109.out 1).trans rfl
            have hcz58_2 : wr.cell? ⟨gb109, 2, none⟩ = some (.slice none 0 0) := (blk_cell BK109.out 2).trans rfl
            have hcz58_3 : wr.cell? ⟨gb109, 3, none⟩ = some (.slice none 0 0) := (blk_cell BK109.out 3).trans rfl
            have hfz58_0 := blk_frozen BK109.out 0
            have hfz58_1 := blk_frozen BK109.out 1
            have hfz58_2 := blk_frozen BK109.out 2
            have hfz58_3 := blk_frozen BK109.out 3
            go_wp2
            refine bodyPost_ret (results_ct rfl _ _ gb109 36 #[.int .i64 0, .int .i64 0, .slice none 0 0, .slice none 0 0] (0, 0) _ rfl (by (with_reducible repeat (first | refine blk_drewN ?_ _ | refine blk_drew ?_ | refine blk_alloc ?_ _)); refine blk_put (cs := #[.int .i64 0, .int .i64 0, .slice none 0 0, .slice none 0 0]) ?_ 3 _ rfl; (with_reducible repeat (first | refine blk_drewN ?_ _ | refine blk_drew ?_ | refine blk_alloc ?_ _)); refine blk_put (cs := #[.int .i64 0, .int .i64 0, .slice none 0 0, .slice none 0 0]) ?_ 2 _ rfl; (with_reducible repeat (first | refine blk_drewN ?_ _ | refine blk_drew ?_ | refine blk_alloc ?_ _)); refine blk_put (cs := #[.int .i64 0, .int .i64 x110001_2, .slice none 0 0, .slice none 0 0]) ?_ 1 _ rfl; (with_reducible repeat (first | refine blk_drewN ?_ _ | refine blk_drew ?_ | refine blk_alloc ?_ _)); refine blk_put (cs := #[.int .i64 x110000_2, .int .i64 x110001_2, .slice none 0 0, .slice none 0 0]) ?_ 0 _ rfl; (with_reducible repeat (first | refine blk_drewN ?_ _ | refine blk_drew ?_ | refine blk_alloc ?_ _)); exact BK109.out) Tryd.underlying36 rfl (by kernel_rfl)) rfl ?_
            exact ⟨_, _, er_, by first | exact Kd.R_nil _ _ _ _ _ | exact Kd.N_nil _ _ _ _ _ | exact Kd.V_nil _ _ _ _ _ | exact Kd.Q_nil _ _ _ _ _ | exact Kd.S_nil _ _ _ _ _, by first | exact Kd.R_nil _ _ _ _ _ | exact Kd.N_nil _ _ _ _ _ | exact Kd.V_nil _ _ _ _ _ | exact Kd.Q_nil _ _ _ _ _ | exact Kd.S_nil _ _ _ _ _, bl2_ HB.out GE109.out GE114.out⟩
          ·rw [if_neg c23] at H
           exact absurd H (by simp)
         ·rw [if_neg c22] at H
          exact absurd H (by simp)
        ·rw [if_neg c21] at H
         have c21b0 : decide (x38_2 < (t110.length : Int)) = false := decide_eq_false c21
         clear c21
         simp only [Option.some.injEq, Prod.mk.injEq] at H
         obtain ⟨rfl, rfl, rfl, rfl, rfl⟩ := H
         have hnb59 := NB114_109.out
         have hnc59 := NB109_114.out
         have hcz60_0 : wr.cell? ⟨gb114, 0, none⟩ = some (.int .i64 ((rdOf ByteArray.empty t110 0).size : Int)) := (blk_cell BK114.out 0).trans rfl
         have hcz60_1 : wr.cell? ⟨gb114, 1, none⟩ = some (.int .i64 (wrap64 ((t110.length : Int) / 2))) := (blk_cell BK114.out 1).trans rfl
         have hcz60_2 : wr.cell? ⟨gb114, 2, none⟩ = some (u115002) := (blk_cell BK114.out 2).trans rfl
         have hcz60_3 : wr.cell? ⟨gb114, 3, none⟩ = some (u115003) := (blk_cell BK114.out 3).trans rfl
         have hfz60_0 := blk_frozen BK114.out 0
         have hfz60_1 := blk_frozen BK114.out 1
         have hfz60_2 := blk_frozen BK114.out 2
         have hfz60_3 := blk_frozen BK114.out 3
         have hcz61_0 : wr.cell? ⟨gb109, 0, none⟩ = some (.int .i64 x110000_2) := (blk_cell BK109.out 0).trans rfl
         have hcz61_1 : wr.cell? ⟨gb109, 1, none⟩ = some (.int .i64 x110001_2) := (blk_cell BK109.out 1).trans rfl
         have hcz61_2 : wr.cell? ⟨gb109, 2, none⟩ = some (.slice none 0 0) := (blk_cell BK109.out 2).trans rfl
         have hcz61_3 : wr.cell? ⟨gb109, 3, none⟩ = some (.slice none 0 0) := (blk_cell BK109.out 3).trans rfl
         have hfz61_0 := blk_frozen BK109.out 0
         have hfz61_1 := blk_frozen BK109.out 1
         have hfz61_2 := blk_frozen BK109.out 2
         have hfz61_3 := blk_frozen BK109.out 3
         obtain ⟨Ao62, co62, eo62⟩ := Kd.R_slice HO_115002.out
         subst eo62
         obtain ⟨Ao63, co63, eo63⟩ := Kd.R_slice HO_115003.out
         subst eo63
         go_wp2
         refine bodyPost_ret (results_ct rfl _ _ gb109 36 #[.int .i64 ((rdOf ByteArray.empty t110 0).size : Int), .int .i64 (wrap64 ((t110.length : Int) / 2)), .slice Ao62 x115002_2.length co62, .slice Ao63 x115003_2.length co63] (0, 0) _ rfl (by (with_reducible repeat (first | refine blk_drewN ?_ _ | refine blk_drew ?_ | refine blk_alloc ?_ _)); refine blk_put (cs := #[.int .i64 ((rdOf ByteArray.empty t110 0).size : Int), .int .i64 (wrap64 ((t110.length : Int) / 2)), .slice Ao62 x115002_2.length co62, .slice none 0 0]) ?_ 3 _ rfl; (with_reducible repeat (first | refine blk_drewN ?_ _ | refine blk_drew ?_ | refine blk_alloc ?_ _)); refine blk_put (cs := #[.int .i64 ((rdOf ByteArray.empty t110 0).size : Int), .int .i64 (wrap64 ((t110.length : Int) / 2)), .slice none 0 0, .slice none 0 0]) ?_ 2 _ rfl; (with_reducible repeat (first | refine blk_drewN ?_ _ | refine blk_drew ?_ | refine blk_alloc ?_ _)); refine blk_put (cs := #[.int .i64 ((rdOf ByteArray.empty t110 0).size : Int), .int .i64 x110001_2, .slice none 0 0, .slice none 0 0]) ?_ 1 _ rfl; (with_reducible repeat (first | refine blk_drewN ?_ _ | refine blk_drew ?_ | refine blk_alloc ?_ _)); refine blk_put (cs := #[.int .i64 x110000_2, .int .i64 x110001_2, .slice none 0 0, .slice none 0 0]) ?_ 0 _ rfl; (with_reducible repeat (first | refine blk_drewN ?_ _ | refine blk_drew ?_ | refine blk_alloc ?_ _)); exact BK109.out) Tryd.underlying36 rfl (by kernel_rfl)) rfl ?_
         exact ⟨_, _, er_, by (with_reducible repeat (first | apply Kd.R_alloc | apply Kd.R_drewN | apply Kd.R_drew)); exact Kd.R_mono (Kd.R_far (p := ⟨gb109, 3, none⟩) (Kd.R_far (p := ⟨gb109, 2, none⟩) (Kd.R_far (p := ⟨gb109, 1, none⟩) (Kd.R_far (p := ⟨gb109, 0, none⟩) (Kd.R_types HO_115002.out BK109.out (by decide)) (fun _ hk => hk.2) (.int .i64 ((rdOf ByteArray.empty t110 0).size : Int))) (fun _ hk => hk.2) (.int .i64 (wrap64 ((t110.length : Int) / 2)))) (fun _ hk => hk.2) (.slice Ao62 x115002_2.length co62)) (fun _ hk => hk.2) (.slice Ao63 x115003_2.length co63)) (fun _ hk => hk.1), by (with_reducible repeat (first | apply Kd.R_alloc | apply Kd.R_drewN | apply Kd.R_drew)); exact Kd.R_mono (Kd.R_far (p := ⟨gb109, 3, none⟩) (Kd.R_far (p := ⟨gb109, 2, none⟩) (Kd.R_far (p := ⟨gb109, 1, none⟩) (Kd.R_far (p := ⟨gb109, 0, none⟩) (Kd.R_types HO_115003.out BK109.out (by decide)) (fun _ hk => hk.2) (.int .i64 ((rdOf ByteArray.empty t110 0).size : Int))) (fun _ hk => hk.2) (.int .i64 (wrap64 ((t110.length : Int) / 2)))) (fun _ hk => hk.2) (.slice Ao62 x115002_2.length co62)) (fun _ hk => hk.2) (.slice Ao63 x115003_2.length co63)) (fun _ hk => hk.1), bl2_ HB.out GE109.out GE114.out⟩
  ·rw [if_neg c6] at H
   exact absurd H (by simp)


def spec_ParseFigure.f (k : Nat) (a0 : ByteArray) : Option (Int × Int × List Int × List Int × Bool) := (spec_fiParse.f k a0).bind fun bt124 => (some (bt124.1, bt124.2.1, bt124.2.2.1, bt124.2.2.2.1, bt124.2.2.2.2))
theorem spec_ParseFigure.mono : ∀ a0 k, LeO (spec_ParseFigure.f k a0) (spec_ParseFigure.f (k + 1) a0) := by
  intro a0 k
  unfold spec_ParseFigure.f
  repeat' first
      | (with_reducible exact spec_fiParse.mono _ _)
      | (with_reducible exact LeO.refl _)
      | (with_reducible exact LeO.none _)
      | (with_reducible refine LeO.ite ?_ ?_)
      | (with_reducible refine LeO.bind ?_ (fun _ => ?_))
      | exact spec_fiParse.mono _ _
      | exact LeO.none _
      | refine LeO.ite ?_ ?_
      | refine LeO.bind ?_ (fun _ => ?_)
set_option maxHeartbeats 8000000 in
set_option maxRecDepth 100000 in
theorem spec_ParseFigure.calls (k : Nat) (a0 : ByteArray) (r1 : Int) (r2 : Int) (r3 : List Int) (r4 : List Int) (r5 : Bool) (w : World) (h : spec_ParseFigure.f k a0 = some (r1, r2, r3, r4, r5)) :
    Calls Tryd.prog 21 #[.string a0] w fun e w' => ∃ v2_ v3_ : Value, e = .returned (.tuple #[.agg #[.int .i64 r1, .int .i64 r2, v2_, v3_], .bool r5]) ∧ Kd.R (Kd.int .i64) 3 w' w.heap.size (fun k_ => some k_ ≠ (v3_ : Value).ownBlock) v2_ r3 ∧ Kd.R (Kd.int .i64) 3 w' w.heap.size (fun k_ => some k_ ≠ (v2_ : Value).ownBlock) v3_ r4 ∧ Below w.heap.size w w' := by
  have hu36 := Tryd.underlying36
  have HB := Aside0.mk (Below.refl w.heap.size w)
  have H : ((spec_fiParse.f k a0).bind fun bt124 => (some (bt124.1, bt124.2.1, bt124.2.2.1, bt124.2.2.2.1, bt124.2.2.2.2))) = some (r1, r2, r3, r4, r5) := h
  clear h
  replace H := Option.bind_eq_some_iff.mp H
  obtain ⟨⟨t124, t125, t126, t129, t132⟩, A20, H⟩ := H
  replace H : (some (t124, t125, t126, t129, t132)) = some (r1, r2, r3, r4, r5) := H
  have A2 := Aside0.mk A20
  clear A20
  simp only [Option.some.injEq, Prod.mk.injEq] at H
  obtain ⟨rfl, rfl, rfl, rfl, rfl⟩ := H
  go_enter Tryd.func21, Tryd.ntmps21
  go_wp2_with (first | ((with_reducible refine gate_dst (N := 2) rfl ?_); refine boxE_ (N := 2) (cs := #[.int .i64 0, .int .i64 0, .slice none 0 0, .slice none 0 0]) (t := 36) ?_; intro gb123 hg w3 hbox hb; have n0_ := Aside0.mk (below_step (bl0_ HB.out) hb); have n1_ := Aside0.mk (hbox); have n2_ := Aside0.mk ((bs0_ hg HB.out : w.heap.size ≤ gb123)); have n3_ := Aside0.mk ((bs0_ hg HB.out : w.heap.size ≤ gb123)); clear HB; have HB := n0_; have BK123 := n1_; have GW123 := n2_; have GE123 := n3_; clear n0_ n1_ n2_ n3_; clear hb hbox hg) | ((with_reducible refine gate_callee (f := 51) rfl ?_); refine goesL_ (some 5) rfl rfl Tryd.func51 (by kernel_rfl) rfl #[.string a0] rfl ob_ ?_; (with_reducible refine (spec_fiParse.calls k a0 t124 t125 t126 t129 t132 _ A2.out).mono ?_); rintro e w4 ⟨v127, v130, rfl, ho0, ho1, hb⟩; refine ⟨_, rfl, ?_⟩; have n0_ := Aside0.mk (Kd.R_lower ho0 (below_size (bl1_ HB.out GE123.out))); have n1_ := Aside0.mk (Kd.R_lower ho1 (below_size (bl1_ HB.out GE123.out))); have n2_ := Aside0.mk (bb_ BK123.out hb); have n3_ := Aside0.mk (below_step (bl1_ HB.out GE123.out) hb); clear BK123; clear HB; have HO128 := n0_; have HO131 := n1_; have BK123 := n2_; have HB := n3_; clear n0_ n1_ n2_ n3_; (try clear hb); (try clear hb2); (try clear hk); (try clear hi); (try clear ho0); (try clear ho1); have hcz5_0 : w4.cell? ⟨gb123, 0, none⟩ = some (.int .i64 0) := (blk_cell BK123.out 0).trans rfl; have hcz5_1 : w4.cell? ⟨gb123, 1, none⟩ = some (.int .i64 0) := (blk_cell BK123.out 1).trans rfl; have hcz5_2 : w4.cell? ⟨gb123, 2, none⟩ = some (.slice none 0 0) := (blk_cell BK123.out 2).trans rfl; have hcz5_3 : w4.cell? ⟨gb123, 3, none⟩ = some (.slice none 0 0) := (blk_cell BK123.out 3).trans rfl; have hfz5_0 := blk_frozen BK123.out 0; have hfz5_1 := blk_frozen BK123.out 1; have hfz5_2 := blk_frozen BK123.out 2; have hfz5_3 := blk_frozen BK123.out 3; obtain ⟨Ao6, co6, eo6⟩ := Kd.R_slice HO128.out; subst eo6; obtain ⟨Ao7, co7, eo7⟩ := Kd.R_slice HO131.out; subst eo7))
  refine bodyPost_ret (results_ct rfl _ _ gb123 36 #[.int .i64 t124, .int .i64 t125, .slice Ao6 t126.length co6, .slice Ao7 t129.length co7] (0, 0) _ rfl (by (with_reducible repeat (first | refine blk_drewN ?_ _ | refine blk_drew ?_ | refine blk_alloc ?_ _)); refine blk_put (cs := #[.int .i64 t124, .int .i64 t125, .slice Ao6 t126.length co6, .slice none 0 0]) ?_ 3 _ rfl; (with_reducible repeat (first | refine blk_drewN ?_ _ | refine blk_drew ?_ | refine blk_alloc ?_ _)); refine blk_put (cs := #[.int .i64 t124, .int .i64 t125, .slice none 0 0, .slice none 0 0]) ?_ 2 _ rfl; (with_reducible repeat (first | refine blk_drewN ?_ _ | refine blk_drew ?_ | refine blk_alloc ?_ _)); refine blk_put (cs := #[.int .i64 t124, .int .i64 0, .slice none 0 0, .slice none 0 0]) ?_ 1 _ rfl; (with_reducible repeat (first | refine blk_drewN ?_ _ | refine blk_drew ?_ | refine blk_alloc ?_ _)); refine blk_put (cs := #[.int .i64 0, .int .i64 0, .slice none 0 0, .slice none 0 0]) ?_ 0 _ rfl; (with_reducible repeat (first | refine blk_drewN ?_ _ | refine blk_drew ?_ | refine blk_alloc ?_ _)); exact BK123.out) Tryd.underlying36 rfl (by kernel_rfl)) rfl ?_
  exact ⟨_, _, er_, by (with_reducible repeat (first | apply Kd.R_alloc | apply Kd.R_drewN | apply Kd.R_drew)); exact Kd.R_mono (Kd.R_far (p := ⟨gb123, 3, none⟩) (Kd.R_far (p := ⟨gb123, 2, none⟩) (Kd.R_far (p := ⟨gb123, 1, none⟩) (Kd.R_far (p := ⟨gb123, 0, none⟩) (Kd.R_types HO128.out BK123.out (by decide)) (fun _ hk => hk.2) (.int .i64 t124)) (fun _ hk => hk.2) (.int .i64 t125)) (fun _ hk => hk.2) (.slice Ao6 t126.length co6)) (fun _ hk => hk.2) (.slice Ao7 t129.length co7)) (fun _ hk => hk.1), by (with_reducible repeat (first | apply Kd.R_alloc | apply Kd.R_drewN | apply Kd.R_drew)); exact Kd.R_mono (Kd.R_far (p := ⟨gb123, 3, none⟩) (Kd.R_far (p := ⟨gb123, 2, none⟩) (Kd.R_far (p := ⟨gb123, 1, none⟩) (Kd.R_far (p := ⟨gb123, 0, none⟩) (Kd.R_types HO131.out BK123.out (by decide)) (fun _ hk => hk.2) (.int .i64 t124)) (fun _ hk => hk.2) (.int .i64 t125)) (fun _ hk => hk.2) (.slice Ao6 t126.length co6)) (fun _ hk => hk.2) (.slice Ao7 t129.length co7)) (fun _ hk => hk.1), bl1_ HB.out GE123.out⟩


def TBM (w : World) : Prop := ∃ m : Int, w.cell? ⟨1, 0, none⟩ = some (.int .i64 m)
theorem TBM.below {w w' : World} (h : TBM w) (hb : Below w.heap.size w w') : TBM w' := by
  first
    | exact trivial
    | (obtain ⟨m, hm⟩ := h; exact ⟨m, pw_cell_below hb hm⟩)
def TB (w : World) : Prop := (∀ j, j < 64 → w.cell? ⟨0, j, none⟩ = some (.int .u8 (Lib.deBruijn64tab.getD j 0))) ∧ TBM w
theorem TB.below {w w' : World} (h : TB w) (hb : Below w.heap.size w w') : TB w' := ⟨fun j hj => pw_cell_below hb (h.1 j hj), h.2.below hb⟩
theorem TB.lt {w : World} (h : TB w) : 0 < w.heap.size := World.block_lt_of_cell? w _ (h.1 0 (by omega))
theorem tz_key (x a : Nat) (hx : x < 18446744073709551616) (hx0 : x ≠ 0) (hlow : x &&& (18446744073709551616 - x) = a) :
    IntKind.u64.wrap (bits BinOp.and IntKind.u64 (x : Int) (IntKind.u64.wrap (-(x : Int))) * 285870213051353865) / 288230376151711744 = ((a * 285870213051353865 % 18446744073709551616 / 288230376151711744 : Nat) : Int) := by
  have e1 : IntKind.u64.wrap (-(x : Int)) = ((18446744073709551616 - x : Nat) : Int) := by rw [IntKind.wrap_u64]; omega
  rw [e1, bits_and_u64_nat x _ hx (by omega), hlow, IntKind.wrap_u64]
  omega
set_option maxHeartbeats 1000000 in
theorem tz_core (x k idx : Nat) (w : World) (hx0 : ((x : Int) == 0) = false)
    (key : IntKind.u64.wrap (bits BinOp.and IntKind.u64 (x : Int) (IntKind.u64.wrap (-(x : Int))) * 285870213051353865) / 288230376151711744 = (idx : Int))
    (hi : idx < 64) (hk : k < 64) (hcell : w.cell? ⟨0, idx, none⟩ = some (.int .u8 k)) :
    Calls Tryd.prog 126 #[.int .u64 x] w fun e w' => e = .returned (.int .i64 k) ∧ w' = w := by
  go_enter Tryd.func126, Tryd.ntmps126
  go_wp2_with (simp only [key])
  go_ret
  exact ⟨rfl, rfl⟩
theorem tz_any (x : Nat) (hx : x < 2 ^ 60) (hx0 : x ≠ 0) (w : World) (hT : TB w) :
    Calls Tryd.prog 126 #[.int .u64 x] w fun e w' => e = .returned (.int .i64 (Lib.ctz 64 x)) ∧ w = w' := by
  have hx2 : x < 18446744073709551616 := by omega
  obtain ⟨hlow, hk⟩ := Lib.lowest_bit 64 x hx0 hx2
  obtain ⟨hi, htab⟩ := Lib.deBruijn64_at _ hk
  have hcell := hT.1 _ hi
  rw [htab] at hcell
  exact (tz_core x _ _ w (by simp; omega) (tz_key x _ hx2 hx0 hlow) hi hk hcell).mono fun _ _ h => ⟨h.1, h.2.symm⟩


def strings_Split.f (a0 a1 : ByteArray) : Option (List ByteArray) := if a0.size < 4294967281 ∧ 1 ≤ a1.size then some (Lib.splitB a1 0 (Lib.countB a0 a1) a0) else none
theorem strings_Split.calls (a0 a1 : ByteArray) (r : List ByteArray) (w : World) (hT_ : TB w) (h : strings_Split.f a0 a1 = some r) :
    Calls Tryd.prog 52 #[.string a0, .string a1] w fun e w' => ∃ v0_ : Value, e = .returned v0_ ∧ Kd.R Kd.string 9 w' w.heap.size (fun _ => True) v0_ r ∧ Below w.heap.size w w' := by
  unfold strings_Split.f at h
  split at h
  · rename_i h0
    obtain rfl := Option.some.inj h
    obtain ⟨m, hm⟩ := hT_.2
    have hlen := Lib.splitB_all a1 h0.2 0 _ a0 rfl
    have hle := Lib.countB_le a1 h0.2 a0.size a0 (Nat.le_refl _)
    have hs := h0.1
    refine (Tryd.strings_Split a0 a1 m w h0.1 hm h0.2).mono ?_
    rintro e w' ⟨rfl, rfl⟩
    refine ⟨_, rfl, ?_, below_alloc (Below.refl _ _) _⟩
    rw [← hlen]
    have hL : (Lib.splitB a1 0 (Lib.countB a0 a1) a0).length ≤ 9223372036854775807 := by omega
    generalize Lib.splitB a1 0 (Lib.countB a0 a1) a0 = L at hL
    have h := own_lit_of (enc := Value.string) w w.heap.size 9 L (Nat.le_refl _) hL
    exact Kd.R_of_own (enc := Value.string) (h1 := fun _ => rfl) h (fun _ _ => trivial)
  · cases h


def impl_within.f (a0 : Int) (a1 : Int) (a2 : Int) : Option (Bool) := if a1 ≤ a0 then (some (decide (a0 ≤ a2))) else (some false)
set_option maxHeartbeats 8000000 in
set_option maxRecDepth 100000 in
theorem impl_within.calls (a0 : Int) (a1 : Int) (a2 : Int) (r : Bool) (w : World) (h : impl_within.f a0 a1 a2 = some r) :
    Calls Tryd.prog 100 #[.int .i64 a0, .int .i64 a1, .int .i64 a2] w fun e w' => e = .returned (.bool r) ∧ Drawn0 w w' := by
  have H : (if a1 ≤ a0 then (some (decide (a0 ≤ a2))) else (some false)) = some r := h
  clear h
  by_cases c4 : a1 ≤ a0
  · rw [if_pos c4] at H
    have c4b0 : decide (a1 ≤ a0) = true := decide_eq_true c4
    clear c4
    obtain rfl := Option.some.inj H
    go_enter Tryd.func100, Tryd.ntmps100
    go_wp2
    go_ret
    exact ⟨by first | rfl | (simp; done) | (simp [*]; done), by repeat (first | exact Drawn0.refl _ | apply Drawn0.step)⟩
  · rw [if_neg c4] at H
    have c4b0 : decide (a1 ≤ a0) = false := decide_eq_false c4
    clear c4
    obtain rfl := Option.some.inj H
    go_enter Tryd.func100, Tryd.ntmps100
    go_wp2
    go_ret
    exact ⟨by first | rfl | (simp; done) | (simp [*]; done), by repeat (first | exact Drawn0.refl _ | apply Drawn0.step)⟩


def impl_isGrid.f (a0 : Int) (a1 : Int) : Option (Bool) := (impl_within.f a0 1 4).bind fun t135 => (if t135 = true then ((impl_within.f a1 1 4).bind fun t136 => (some t136)) else (some false))
set_option maxHeartbeats 8000000 in
set_option maxRecDepth 100000 in
theorem impl_isGrid.calls (a0 : Int) (a1 : Int) (r : Bool) (w : World) (h : impl_isGrid.f a0 a1 = some r) :
    Calls Tryd.prog 53 #[.int .i64 a0, .int .i64 a1] w fun e w' => e = .returned (.bool r) ∧ Drawn0 w w' := by
  have H : ((impl_within.f a0 1 4).bind fun t135 => (if t135 = true then ((impl_within.f a1 1 4).bind fun t136 => (some t136)) else (some false))) = some r := h
  clear h
  replace H := Option.bind_eq_some_iff.mp H
  obtain ⟨t135, A30, H⟩ := H
  replace H : (if t135 = true then ((impl_within.f a1 1 4).bind fun t136 => (some t136)) else (some false)) = some r := H
  have A3 := Aside0.mk A30
  clear A30
  by_cases c4 : t135 = true
  · subst c4
    have H1 : ((impl_within.f a1 1 4).bind fun t136 => (some t136)) = some r := by rw [if_pos rfl] at H; exact H
    clear H
    have H := H1
    clear H1
    replace H := Option.bind_eq_some_iff.mp H
    obtain ⟨t136, A50, H⟩ := H
    replace H : (some t136) = some r := H
    have A5 := Aside0.mk A50
    clear A50
    obtain rfl := Option.some.inj H
    go_enter Tryd.func53, Tryd.ntmps53
    go_wp2_with (first | ((with_reducible refine gate_callee (f := 100) rfl ?_); refine goesL_ (some 6) rfl rfl Tryd.func100 (by kernel_rfl) rfl #[.int .i64 a0, .int .i64 1, .int .i64 4] rfl ob_ ?_; (with_reducible refine (impl_within.calls a0 1 4 true _ A3.out).mono ?_); rintro e w' ⟨rfl, ⟨nd, rfl⟩⟩; refine ⟨_, rfl, ?_⟩) | (go_at_call 100; (with_reducible refine (impl_within.calls a1 1 4 t136 _ A5.out).mono ?_); rintro e w' ⟨rfl, ⟨nd, rfl⟩⟩))
    go_ret
    exact ⟨by first | rfl | (simp; done) | (simp [*]; done), by repeat (first | exact Drawn0.refl _ | apply Drawn0.step)⟩
  · replace c4 := Bool.eq_false_iff.mpr c4
    subst c4
    have H1 : (some false) = some r := by rw [if_neg (show ¬ (false = true) by decide)] at H; exact H
    clear H
    have H := H1
    clear H1
    obtain rfl := Option.some.inj H
    go_enter Tryd.func53, Tryd.ntmps53
    go_wp2_with (first | ((with_reducible refine gate_callee (f := 100) rfl ?_); refine goesL_ (some 6) rfl rfl Tryd.func100 (by kernel_rfl) rfl #[.int .i64 a0, .int .i64 1, .int .i64 4] rfl ob_ ?_; (with_reducible refine (impl_within.calls a0 1 4 false _ A3.out).mono ?_); rintro e w' ⟨rfl, ⟨nd, rfl⟩⟩; refine ⟨_, rfl, ?_⟩))
    go_ret
    exact ⟨by first | rfl | (simp; done) | (simp [*]; done), by repeat (first | exact Drawn0.refl _ | apply Drawn0.step)⟩


def impl_grid_level.f (a0_0 : Int) (a0_1 : Int) (a1 : Int) (a2 : Int) : Option (Int) := if 0 ≤ (wrap64 ((wrap64 (a2 * a0_0)) + a1)) then (some (shl .u64 1 (wrap64 ((wrap64 (a2 * a0_0)) + a1)))) else (none)
set_option maxHeartbeats 8000000 in
set_option maxRecDepth 100000 in
theorem impl_grid_level.calls (a0_0 : Int) (a0_1 : Int) (a1 : Int) (a2 : Int) (r : Int) (w : World) (h : impl_grid_level.f a0_0 a0_1 a1 a2 = some r) :
    Calls Tryd.prog 54 #[.agg #[.int .i64 a0_0, .int .i64 a0_1], .int .i64 a1, .int .i64 a2] w fun e w' => e = .returned (.int .u64 r) ∧ Below w.heap.size w w' := by
  have hu75 := Tryd.underlying75
  have HB := Aside0.mk (Below.refl w.heap.size w)
  have H : (if 0 ≤ (wrap64 ((wrap64 (a2 * a0_0)) + a1)) then (some (shl .u64 1 (wrap64 ((wrap64 (a2 * a0_0)) + a1)))) else (none)) = some r := h
  clear h
  obtain ⟨ji4, hji4⟩ : ∃ j_ : Int, (wrap64 ((wrap64 (a2 * a0_0)) + a1)) = j_ := ⟨_, rfl⟩
  replace H : (if 0 ≤ (ji4) then (some (shl .u64 1 (ji4))) else (none)) = some r := by first | (rw [hji4] at H; exact H) | (simp only [hji4] at H ⊢; exact H)
  have hji4w : (IntKind.i64.wrap ((wrap64 (a2 * a0_0)) + a1)) = ji4 := (i64_w _).trans hji4
  by_cases c5 : 0 ≤ (ji4)
  · rw [if_pos c5] at H
    have c5b0 := eq_true c5
    have c5b1 : decide (0 ≤ (ji4)) = true := decide_eq_true c5
    clear c5
    obtain ⟨ji6, hji6⟩ : ∃ j_ : Int, (shl .u64 1 (ji4)) = j_ := ⟨_, rfl⟩
    replace H : (some ji6) = some r := by first | (rw [hji6] at H; exact H) | (simp only [hji6] at H ⊢; exact H)
    have hji6_ : (IntKind.u64.wrap (1 * 2 ^ min (ji4).toNat 64)) = ji6 := hji6
    have hji6z : (ji4) ≤ 64 → (IntKind.u64.wrap (1 * 2 ^ (ji4).toNat)) = ji6 := shl_small hji6
    have hji6u : (IntKind.u64.wrap (2 ^ min (ji4).toNat 64)) = ji6 := by have h_ := hji6_; rw [Int.one_mul] at h_; exact h_
    have hji6v : (ji4) ≤ 64 → (IntKind.u64.wrap (2 ^ (ji4).toNat)) = ji6 := fun hle_ => by have h_ := hji6z hle_; rw [Int.one_mul] at h_; exact h_
    obtain rfl := Option.some.inj H
    go_enter Tryd.func54, Tryd.ntmps54
    go_wp2_with (first | ((with_reducible refine gate_dst (N := 3) rfl ?_); refine boxE_ (N := 3) (cs := #[.int .i64 a0_0, .int .i64 a0_1]) (t := 75) ?_; intro gb137 hg w7 hbox hb; have n0_ := Aside0.mk (below_step (bl0_ HB.out) hb); have n1_ := Aside0.mk (hbox); have n2_ := Aside0.mk ((bs0_ hg HB.out : w.heap.size ≤ gb137)); have n3_ := Aside0.mk ((bs0_ hg HB.out : w.heap.size ≤ gb137)); clear HB; have HB := n0_; have BK137 := n1_; have GW137 := n2_; have GE137 := n3_; clear n0_ n1_ n2_ n3_; clear hb hbox hg; have hcz8_0 : w7.cell? ⟨gb137, 0, none⟩ = some (.int .i64 a0_0) := (blk_cell BK137.out 0).trans rfl; have hcz8_1 : w7.cell? ⟨gb137, 1, none⟩ = some (.int .i64 a0_1) := (blk_cell BK137.out 1).trans rfl; have hfz8_0 := blk_frozen BK137.out 0; have hfz8_1 := blk_frozen BK137.out 1))
    go_ret
    exact ⟨by first | rfl | (simp [errW_none, errW_some] <;> rfl) | (simp only [← hji4, ← hji6]; first | rfl | (simp [errW_none, errW_some] <;> rfl)) | (simp [*, errW_none, errW_some] <;> rfl), bl1_ HB.out GE137.out⟩
  · rw [if_neg c5] at H
    exact absurd H (by simp)


def impl_grid_levels.f (a0_0 : Int) (a0_1 : Int) : Option (Int) := some (wrap64 (a0_0 * (wrap64 (a0_1 + 1))))
set_option maxHeartbeats 8000000 in
set_option maxRecDepth 100000 in
theorem impl_grid_levels.calls (a0_0 : Int) (a0_1 : Int) (r : Int) (w : World) (h : impl_grid_levels.f a0_0 a0_1 = some r) :
    Calls Tryd.prog 101 #[.agg #[.int .i64 a0_0, .int .i64 a0_1]] w fun e w' => e = .returned (.int .i64 r) ∧ Below w.heap.size w w' := by
  have hu75 := Tryd.underlying75
  have HB := Aside0.mk (Below.refl w.heap.size w)
  have H : (some (wrap64 (a0_0 * (wrap64 (a0_1 + 1))))) = some r := h
  clear h
  obtain rfl := Option.some.inj H
  go_enter Tryd.func101, Tryd.ntmps101
  go_wp2_with (first | ((with_reducible refine gate_dst (N := 1) rfl ?_); refine boxE_ (N := 1) (cs := #[.int .i64 a0_0, .int .i64 a0_1]) (t := 75) ?_; intro gb138 hg w2 hbox hb; have n0_ := Aside0.mk (below_step (bl0_ HB.out) hb); have n1_ := Aside0.mk (hbox); have n2_ := Aside0.mk ((bs0_ hg HB.out : w.heap.size ≤ gb138)); have n3_ := Aside0.mk ((bs0_ hg HB.out : w.heap.size ≤ gb138)); clear HB; have HB := n0_; have BK138 := n1_; have GW138 := n2_; have GE138 := n3_; clear n0_ n1_ n2_ n3_; clear hb hbox hg; have hcz3_0 : w2.cell? ⟨gb138, 0, none⟩ = some (.int .i64 a0_0) := (blk_cell BK138.out 0).trans rfl; have hcz3_1 : w2.cell? ⟨gb138, 1, none⟩ = some (.int .i64 a0_1) := (blk_cell BK138.out 1).trans rfl; have hfz3_0 := blk_frozen BK138.out 0; have hfz3_1 := blk_frozen BK138.out 1))
  go_ret
  exact ⟨er_, bl1_ HB.out GE138.out⟩


def impl_grid_upright.f (a0_0 : Int) (a0_1 : Int) (a1 : Int) (a2 : Int) : Option (Int) := (impl_grid_levels.f a0_0 a0_1).bind fun t140 => (if 0 ≤ (wrap64 ((wrap64 (t140 + (wrap64 (a2 * (wrap64 (a0_0 + 1)))))) + a1)) then (some (shl .u64 1 (wrap64 ((wrap64 (t140 + (wrap64 (a2 * (wrap64 (a0_0 + 1)))))) + a1)))) else (none))
def impl_grid_upright.T1 : Bool × List (List Nat × List Nat) := (true, [([], []), ([0], [0]), ([], []), ([], []), ([3], [3]), ([4], [4]), ([2, 5], [2, 5]), ([1, 6], [1, 6]), ([], []), ([7, 8], [7, 8]), ([9], [9]), ([10, 1, 0, 1, 2, 3, 4, 5, 6, 7, 8, 9, 10], [10])])
def impl_grid_upright.B1 : List Nat := [0, 1, 0, 0, 8, 24, 60, 127, 0, 511, 1023, 2047]
theorem impl_grid_upright.tab1 : rtab .any (opsOf Tryd.f55 1) = impl_grid_upright.T1 := by kernel_rfl
theorem impl_grid_upright.bits1 : waitsOk impl_grid_upright.T1.2 impl_grid_upright.B1 = true := by kernel_rfl
set_option maxHeartbeats 8000000 in
set_option maxRecDepth 100000 in
theorem impl_grid_upright.calls (a0_0 : Int) (a0_1 : Int) (a1 : Int) (a2 : Int) (r : Int) (w : World) (h : impl_grid_upright.f a0_0 a0_1 a1 a2 = some r) :
  Calls Tryd.prog 55 #[.agg #[.int .i64 a0_0, .int .i64 a0_1], .int .i64 a1, .int .i64 a2] w fun e w' => e = .returned (.int .u64 r) ∧ Below w.heap.size w w' := by
 have hu75 := Tryd.underlying75
 have HB := Aside0.mk (Below.refl w.heap.size w)
 have H : ((impl_grid_levels.f a0_0 a0_1).bind fun t140 => (if 0 ≤ (wrap64 ((wrap64 (t140 + (wrap64 (a2 * (wrap64 (a0_0 + 1)))))) + a1)) then (some (shl .u64 1 (wrap64 ((wrap64 (t140 + (wrap64 (a2 * (wrap64 (a0_0 + 1)))))) + a1)))) else (none))) = some r := h
 clear h
 replace H := Option.bind_eq_some_iff.mp H
 obtain ⟨t140, A40, H⟩ := H
 replace H : (if 0 ≤ (wrap64 ((wrap64 (t140 + (wrap64 (a2 * (wrap64 (a0_0 + 1)))))) + a1)) then (some (shl .u64 1 (wrap64 ((wrap64 (t140 + (wrap64 (a2 * (wrap64 (a0_0 + 1)))))) + a1)))) else (none)) = some r := H
 have A4 := Aside0.mk A40
 clear A40
 obtain ⟨ji5, hji5⟩ : ∃ j_ : Int, (wrap64 ((wrap64 (t140 + (wrap64 (a2 * (wrap64 (a0_0 + 1)))))) + a1)) = j_ := ⟨_, rfl⟩
 replace H : (if 0 ≤ (ji5) then (some (shl .u64 1 (ji5))) else (none)) = some r := by first | (rw [hji5] at H; exact H) | (simp only [hji5] at H ⊢; exact H)
 (try rw [hji5] at A4)
 have hji5w : (IntKind.i64.wrap ((wrap64 (t140 + (wrap64 (a2 * (wrap64 (a0_0 + 1)))))) + a1)) = ji5 := (i64_w _).trans hji5
 by_cases c6 : 0 ≤ (ji5)
 ·rw [if_pos c6] at H
  have c6b0 := eq_true c6
  have c6b1 : decide (0 ≤ (ji5)) = true := decide_eq_true c6
  clear c6
  obtain ⟨ji7, hji7⟩ : ∃ j_ : Int, (shl .u64 1 (ji5)) = j_ := ⟨_, rfl⟩
  replace H : (some ji7) = some r := by first | (rw [hji7] at H; exact H) | (simp only [hji7] at H ⊢; exact H)
  (try rw [hji7] at A4)
  have hji7_ : (IntKind.u64.wrap (1 * 2 ^ min (ji5).toNat 64)) = ji7 := hji7
  have hji7z : (ji5) ≤ 64 → (IntKind.u64.wrap (1 * 2 ^ (ji5).toNat)) = ji7 := shl_small hji7
  have hji7u : (IntKind.u64.wrap (2 ^ min (ji5).toNat 64)) = ji7 := by have h_ := hji7_; rw [Int.one_mul] at h_; exact h_
  have hji7v : (ji5) ≤ 64 → (IntKind.u64.wrap (2 ^ (ji5).toNat)) = ji7 := fun hle_ => by have h_ := hji7z hle_; rw [Int.one_mul] at h_; exact h_
  obtain rfl := Option.some.inj H
  go_enter Tryd.func55, Tryd.ntmps55
  try go_wp2_with (first | ((with_reducible refine gate_dst (N := 3) rfl ?_); refine boxE_ (N := 3) (cs := #[.int .i64 a0_0, .int .i64 a0_1]) (t := 75) ?_; intro gb139 hg w8 hbox hb; have n0_ := Aside0.mk (below_step (bl0_ HB.out) hb); have n1_ := Aside0.mk (hbox); have n2_ := Aside0.mk ((bs0_ hg HB.out : w.heap.size ≤ gb139)); have n3_ := Aside0.mk ((bs0_ hg HB.out : w.heap.size ≤ gb139)); clear HB; have HB := n0_; have BK139 := n1_; have GW139 := n2_; have GE139 := n3_; clear n0_ n1_ n2_ n3_; clear hb hbox hg))
  have n0_ := Aside0.mk (blk_drew BK139.out)
  have n1_ := Aside0.mk (below_drew1 HB.out)
  clear BK139
  clear HB
  have BK139 := n0_
  have HB := n1_
  clear n0_ n1_
  refine start_ (n := 12) (S := fun w' => w'.cell? ⟨gb139, 0, none⟩ = some (.int .i64 a0_0) ∧ w'.cell? ⟨gb139, 1, none⟩ = some (.int .i64 a0_1)) (ds := []) #[false, false, false, false, false, false, false, false, false, false, false, false] (by kernel_rfl) rfl rfl ⟨(blk_cell BK139.out 0).trans rfl, (blk_cell BK139.out 1).trans rfl⟩ (fun hHeld => ?_); refine with_tabW impl_grid_upright.tab1 impl_grid_upright.bits1 (fun HT_ HW_ => ?_)
  generalize w8.drew = w9 at BK139 HB hHeld ⊢
  refine pure_ (i := 2) (N := some 9) (v := ?_) (a' := ?_) #[false, false, true, false, false, false, false, false, false, false, false, false] rfl rfl (any_of HT_.out (by kernel_rfl)) (fun _ _ _ h => h) (Or.inl ⟨by rfl, ?_⟩) ?_ ?_
  rotate_left
  ·intro w'
   go_simp
   with_reducible rfl
  rotate_left
  ·simp only [Act.put, List.setIfInBounds_toArray, List.set_cons_zero, List.set_cons_succ, i64_w, i32_w]
   rfl
  refine pure_ (i := 3) (N := some 10) (v := ?_) (a' := ?_) #[false, false, true, true, false, false, false, false, false, false, false, false] rfl rfl (any_of HT_.out (by kernel_rfl)) (fun _ _ _ h => h) (Or.inl ⟨by rfl, ?_⟩) ?_ ?_
  rotate_left
  ·intro w'
   go_simp
   with_reducible rfl
  rotate_left
  ·simp only [Act.put, List.setIfInBounds_toArray, List.set_cons_zero, List.set_cons_succ, i64_w, i32_w]
   rfl
  refine pure_ (i := 8) (N := some 15) (v := ?_) (a' := ?_) #[false, false, true, true, false, false, false, false, true, false, false, false] rfl rfl (any_of HT_.out (by kernel_rfl)) (fun _ _ _ h => h) (Or.inl ⟨by rfl, ?_⟩) ?_ ?_
  rotate_left
  ·intro w'
   go_simp
   with_reducible rfl
  rotate_left
  ·simp only [Act.put, List.setIfInBounds_toArray, List.set_cons_zero, List.set_cons_succ, i64_w, i32_w]
   rfl
  refine take_ (i := 0) (N := some 7) (v := ?_) (a' := ?_) #[true, false, true, true, false, false, false, false, true, false, false, false] rfl rfl (take_ofW HT_.out HW_.out (by kernel_rfl)) (fun _ _ _ h => h) (Or.inl ⟨by rfl, ?_⟩) hHeld ?_ ?_
  rotate_left
  ·rintro w' ⟨s0, s1⟩
   go_simp
   with_reducible rfl
  rotate_left
  ·simp only [Act.put, List.setIfInBounds_toArray, List.set_cons_zero, List.set_cons_succ, i64_w, i32_w]
   rfl
  refine take_ (i := 4) (N := some 11) (v := ?_) (a' := ?_) #[true, false, true, true, true, false, false, false, true, false, false, false] rfl rfl (take_ofW HT_.out HW_.out (by kernel_rfl)) (fun _ _ _ h => h) (Or.inl ⟨by rfl, ?_⟩) hHeld ?_ ?_
  rotate_left
  ·rintro w' ⟨s0, s1⟩
   go_simp
   with_reducible rfl
  rotate_left
  ·simp only [Act.put, List.setIfInBounds_toArray, List.set_cons_zero, List.set_cons_succ, i64_w, i32_w]
   rfl
  refine pure_ (i := 5) (N := some 12) (v := ?_) (a' := ?_) #[true, false, true, true, true, true, false, false, true, false, false, false] rfl rfl (any_of HT_.out (by kernel_rfl)) (fun _ _ _ h => h) (Or.inl ⟨by rfl, ?_⟩) ?_ ?_
  rotate_left
  ·intro w'
   go_simp
   with_reducible rfl
  rotate_left
  ·simp only [Act.put, List.setIfInBounds_toArray, List.set_cons_zero, List.set_cons_succ, i64_w, i32_w]
   rfl
  refine pure_ (i := 6) (N := some 13) (v := ?_) (a' := ?_) #[true, false, true, true, true, true, true, false, true, false, false, false] rfl rfl (any_of HT_.out (by kernel_rfl)) (fun _ _ _ h => h) (Or.inl ⟨by rfl, ?_⟩) ?_ ?_
  rotate_left
  ·intro w'
   go_simp
   with_reducible rfl
  rotate_left
  ·simp only [Act.put, List.setIfInBounds_toArray, List.set_cons_zero, List.set_cons_succ, i64_w, i32_w]
   rfl
  refine one_ (i := 1) (N := some 8) #[true, true, true, true, true, true, true, false, true, false, false, false] rfl rfl (one_of HT_.out (by kernel_rfl)) (by decide) (fun K hK => ?_)
  refine goes_ Tryd.func101 (by kernel_rfl) rfl #[.agg #[.int .i64 a0_0, .int .i64 a0_1]] (by rfl) rfl rfl ob_ ?_
  with_reducible refine (impl_grid_levels.calls a0_0 a0_1 t140 _ A4.out).mono ?_
  rintro e w10 ⟨rfl, hb⟩
  refine ⟨_, rfl, ?_⟩
  have n0_ := Aside0.mk (bb_ BK139.out hb)
  have n1_ := Aside0.mk (below_step (bl1_ HB.out GE139.out) hb)
  clear BK139
  clear HB
  have BK139 := n0_
  have HB := n1_
  clear n0_ n1_
  (try clear hb)
  (try clear hb2)
  (try clear hk)
  (try clear hi)
  refine hK.out _ _ ⟨(blk_cell BK139.out 0).trans rfl, (blk_cell BK139.out 1).trans rfl⟩ (fun hHeld => ?_)
  clear hK K
  refine norm_ (a' := ?_) ?_ ?_
  rotate_left
  ·show Act.put _ (some 8) _ = _
   simp only [Act.put, List.setIfInBounds_toArray, List.set_cons_zero, List.set_cons_succ, i64_w, i32_w]
   rfl
  refine pure_ (i := 7) (N := some 14) (v := ?_) (a' := ?_) #[true, true, true, true, true, true, true, true, true, false, false, false] rfl rfl (any_of HT_.out (by kernel_rfl)) (fun _ _ _ h => h) (Or.inl ⟨by rfl, ?_⟩) ?_ ?_
  rotate_left
  ·intro w'
   go_simp
   with_reducible rfl
  rotate_left
  ·simp only [Act.put, List.setIfInBounds_toArray, List.set_cons_zero, List.set_cons_succ, i64_w, i32_w]
   rfl
  refine pure_ (i := 9) (N := some 16) (v := ?_) (a' := ?_) #[true, true, true, true, true, true, true, true, true, true, false, false] rfl rfl (any_of HT_.out (by kernel_rfl)) (fun _ _ _ h => h) (Or.inl ⟨by rfl, ?_⟩) ?_ ?_
  rotate_left
  ·intro w'
   go_simp
   with_reducible rfl
  rotate_left
  ·simp only [Act.put, List.setIfInBounds_toArray, List.set_cons_zero, List.set_cons_succ, i64_w, i32_w]
   rfl
  refine pure_ (i := 10) (N := some 17) (v := ?_) (a' := ?_) #[true, true, true, true, true, true, true, true, true, true, true, false] rfl rfl (any_of HT_.out (by kernel_rfl)) (fun _ _ _ h => h) (Or.inl ⟨by rfl, ?_⟩) ?_ ?_
  rotate_left
  ·intro w'
   go_simp
   with_reducible rfl
  rotate_left
  ·simp only [Act.put, List.setIfInBounds_toArray, List.set_cons_zero, List.set_cons_succ, i64_w, i32_w]
   rfl
  refine pure_ (i := 11) (N := some 6) (v := ?_) (a' := ?_) #[true, true, true, true, true, true, true, true, true, true, true, true] rfl rfl (any_of HT_.out (by kernel_rfl)) (fun _ _ _ h => h) (Or.inl ⟨by rfl, ?_⟩) ?_ ?_
  rotate_left
  ·intro w'
   go_simp
   with_reducible rfl
  rotate_left
  ·simp only [Act.put, List.setIfInBounds_toArray, List.set_cons_zero, List.set_cons_succ, i64_w, i32_w]
   rfl
  refine done_ (done_of HT_.out (by kernel_rfl)) ?_
  try go_wp2
  go_ret
  exact ⟨by first | rfl | (simp [errW_none, errW_some] <;> rfl) | (simp only [← hji5, ← hji7]; first | rfl | (simp [errW_none, errW_some] <;> rfl)) | (simp [*, errW_none, errW_some] <;> rfl), bl1_ HB.out GE139.out⟩
 ·rw [if_neg c6] at H
  exact absurd H (by simp)


def impl_Figure_grid.f (a0_0 : Int) (a0_1 : Int) (l0_2 : List Int) (l0_3 : List Int) : Option (Int × Int) := some (a0_0, a0_1)
set_option maxHeartbeats 8000000 in
set_option maxRecDepth 100000 in
theorem impl_Figure_grid.calls (a0_0 : Int) (a0_1 : Int) (A0_2 : Option Addr) (c0_2 : Nat) (l0_2 : List Int) (A0_3 : Option Addr) (c0_3 : Nat) (l0_3 : List Int) (r1 : Int) (r2 : Int) (w : World) (hr0_2 : Kd.C (Kd.int .i64) w A0_2 l0_2.length l0_2) (hc0_2 : l0_2.length ≤ c0_2) (hr0_3 : Kd.C (Kd.int .i64) w A0_3 l0_3.length l0_3) (hc0_3 : l0_3.length ≤ c0_3) (h : impl_Figure_grid.f a0_0 a0_1 l0_2 l0_3 = some (r1, r2)) :
    Calls Tryd.prog 71 #[.agg #[.int .i64 a0_0, .int .i64 a0_1, .slice A0_2 l0_2.length c0_2, .slice A0_3 l0_3.length c0_3]] w fun e w' => e = .returned (.agg #[.int .i64 r1, .int .i64 r2]) ∧ Below w.heap.size w w' := by
  have hu36 := Tryd.underlying36
  have hu75 := Tryd.underlying75
  have HR0_2 := Aside0.mk hr0_2
  have HC0_2 := Aside0.mk hc0_2
  clear hr0_2 hc0_2
  have HR0_3 := Aside0.mk hr0_3
  have HC0_3 := Aside0.mk hc0_3
  clear hr0_3 hc0_3
  have HB := Aside0.mk (Below.refl w.heap.size w)
  have H : (some (a0_0, a0_1)) = some (r1, r2) := h
  clear h
  simp only [Option.some.injEq, Prod.mk.injEq] at H
  obtain ⟨rfl, rfl⟩ := H
  go_enter Tryd.func71, Tryd.ntmps71
  go_wp2_with (first | ((with_reducible refine gate_dst (N := 1) rfl ?_); refine boxE_ (N := 1) (cs := #[.int .i64 a0_0, .int .i64 a0_1, .slice A0_2 l0_2.length c0_2, .slice A0_3 l0_3.length c0_3]) (t := 36) ?_; intro gb151 hg w2 hbox hb; have n0_ := Aside0.mk (below_step (bl0_ HB.out) hb); have n1_ := Aside0.mk (hbox); have n2_ := Aside0.mk ((bs0_ hg HB.out : w.heap.size ≤ gb151)); have n3_ := Aside0.mk ((bs0_ hg HB.out : w.heap.size ≤ gb151)); clear HB; have HB := n0_; have BK151 := n1_; have GW151 := n2_; have GE151 := n3_; clear n0_ n1_ n2_ n3_; clear hb hbox hg) | ((with_reducible refine gate_dst (N := 2) rfl ?_); refine boxE_ (N := 2) (cs := #[.int .i64 0, .int .i64 0]) (t := 75) ?_; intro gb152 hg w3 hbox hb; have n0_ := Aside0.mk (bb_ BK151.out hb); have n1_ := Aside0.mk (below_step (bl1_ HB.out GE151.out) hb); have n2_ := Aside0.mk (hbox); have n3_ := Aside0.mk ((bs1_ hg HB.out GE151.out : w.heap.size ≤ gb152)); have n4_ := Aside0.mk ((bs1_ hg HB.out GE151.out : w.heap.size ≤ gb152)); have n5_ := Aside0.mk ((nl_ hg BK151.out : gb151 ≠ gb152)); have n6_ := Aside0.mk ((ng_ hg BK151.out : gb152 ≠ gb151)); clear BK151; clear HB; have BK151 := n0_; have HB := n1_; have BK152 := n2_; have GW152 := n3_; have GE152 := n4_; have NB151_152 := n5_; have NB152_151 := n6_; clear n0_ n1_ n2_ n3_ n4_ n5_ n6_; clear hb hbox hg; have hnb4 := NB151_152.out; have hnc4 := NB152_151.out; have hcz5_0 : w3.cell? ⟨gb151, 0, none⟩ = some (.int .i64 a0_0) := (blk_cell BK151.out 0).trans rfl; have hcz5_1 : w3.cell? ⟨gb151, 1, none⟩ = some (.int .i64 a0_1) := (blk_cell BK151.out 1).trans rfl; have hcz5_2 : w3.cell? ⟨gb151, 2, none⟩ = some (.slice A0_2 l0_2.length c0_2) := (blk_cell BK151.out 2).trans rfl; have hcz5_3 : w3.cell? ⟨gb151, 3, none⟩ = some (.slice A0_3 l0_3.length c0_3) := (blk_cell BK151.out 3).trans rfl; have hfz5_0 := blk_frozen BK151.out 0; have hfz5_1 := blk_frozen BK151.out 1; have hfz5_2 := blk_frozen BK151.out 2; have hfz5_3 := blk_frozen BK151.out 3; have hcz6_0 : w3.cell? ⟨gb152, 0, none⟩ = some (.int .i64 0) := (blk_cell BK152.out 0).trans rfl; have hcz6_1 : w3.cell? ⟨gb152, 1, none⟩ = some (.int .i64 0) := (blk_cell BK152.out 1).trans rfl; have hfz6_0 := blk_frozen BK152.out 0; have hfz6_1 := blk_frozen BK152.out 1))
  refine bodyPost_ret (results_cell_row rfl _ _ gb152 75 #[.int .i64 a0_0, .int .i64 a0_1] (0, 0) _ rfl (by (with_reducible repeat (first | refine blk_drewN ?_ _ | refine blk_drew ?_ | refine blk_alloc ?_ _)); refine blk_put (cs := #[.int .i64 a0_0, .int .i64 0]) ?_ 1 _ rfl; (with_reducible repeat (first | refine blk_drewN ?_ _ | refine blk_drew ?_ | refine blk_alloc ?_ _)); refine blk_put (cs := #[.int .i64 0, .int .i64 0]) ?_ 0 _ rfl; (with_reducible repeat (first | refine blk_drewN ?_ _ | refine blk_drew ?_ | refine blk_alloc ?_ _)); exact BK152.out) Tryd.underlying75 rfl (by kernel_rfl)) rfl ?_
  exact ⟨er_, bl2_ HB.out GE151.out GE152.out⟩


def spec_l1All.l0 : Nat → Int → Int → List Int → Int → Int → Option (Bool)
  | 0, _, _, _, _, _ => none
  | k + 1, x1, x2, x9, x10, x11 => if x11 < x10 then (if 0 ≤ x11 then (if x11 < (x9.length : Int) then ((spec_l1In.f (rd x9 x11) x1 x2).bind fun t263 => (if t263 = true then (spec_l1All.l0 k x1 x2 x9 x10 (wrap64 (x11 + 1))) else (some false))) else (none)) else (none)) else (some true)
def spec_l1All.f (k : Nat) (l0 : List Int) (a1 : Int) (a2 : Int) : Option (Bool) := spec_l1All.l0 k a1 a2 l0 (l0.length : Int) 0
theorem spec_l1All.mono_l : ∀ k, (∀ y0 y1 y2 y3 y4, LeO (spec_l1All.l0 k y0 y1 y2 y3 y4) (spec_l1All.l0 (k + 1) y0 y1 y2 y3 y4))
  | 0 => fun _ _ _ _ _ r h => by simp [spec_l1All.l0] at h
  | k + 1 => by
    have ih0 := spec_l1All.mono_l k
    · intro y0 y1 y2 y3 y4
      unfold spec_l1All.l0
      repeat' first
      | (with_reducible exact ih0 _ _ _ _ _)
      | (with_reducible exact LeO.refl _)
      | (with_reducible exact LeO.none _)
      | (with_reducible refine LeO.ite ?_ ?_)
      | (with_reducible refine LeO.bind ?_ (fun _ => ?_))
      | exact ih0 _ _ _ _ _
      | exact LeO.none _
      | refine LeO.ite ?_ ?_
      | refine LeO.bind ?_ (fun _ => ?_)
theorem spec_l1All.mono : ∀ a0 a1 a2 k, LeO (spec_l1All.f k a0 a1 a2) (spec_l1All.f (k + 1) a0 a1 a2) := by
  intro a0 a1 a2 k
  have ih0 := spec_l1All.mono_l k
  unfold spec_l1All.f
  repeat' first
      | (with_reducible exact ih0 _ _ _ _ _)
      | (with_reducible exact LeO.refl _)
      | (with_reducible exact LeO.none _)
      | (with_reducible refine LeO.ite ?_ ?_)
      | (with_reducible refine LeO.bind ?_ (fun _ => ?_))
      | exact ih0 _ _ _ _ _
      | exact LeO.none _
      | refine LeO.ite ?_ ?_
      | refine LeO.bind ?_ (fun _ => ?_)

mutual
def spec_fiRises.j0 : Nat → List Int → Bool → Option (Bool)
  | 0, _, _ => none
  | k + 1, x0, x16 => if x16 = true then (some false) else (spec_fiRises.l0 k x0 1)
def spec_fiRises.l0 : Nat → List Int → Int → Option (Bool)
  | 0, _, _ => none
  | k + 1, x0, x5 => if x5 < (x0.length : Int) then (if 0 ≤ (wrap64 (x5 - 1)) then (if (wrap64 (x5 - 1)) < (x0.length : Int) then (if 0 ≤ x5 then (if (rd x0 (wrap64 (x5 - 1))) ≥ (rd x0 x5) then (some false) else (spec_fiRises.l0 k x0 (wrap64 (x5 + 1)))) else (none)) else (none)) else (none)) else (some true)
end
def spec_fiRises.f (k : Nat) (l0 : List Int) (a1 : Int) : Option (Bool) := if (l0.length : Int) > (wrap64 (a1 + 1)) then (spec_fiRises.j0 k l0 true) else ((spec_l1All.f k l0 0 a1).bind fun t264 => (spec_fiRises.j0 k l0 (!t264)))
theorem spec_fiRises.mono_l : ∀ k, (∀ y0 y1, LeO (spec_fiRises.j0 k y0 y1) (spec_fiRises.j0 (k + 1) y0 y1)) ∧ (∀ y0 y1, LeO (spec_fiRises.l0 k y0 y1) (spec_fiRises.l0 (k + 1) y0 y1))
  | 0 => ⟨fun _ _ r h => by simp [spec_fiRises.j0] at h, fun _ _ r h => by simp [spec_fiRises.l0] at h⟩
  | k + 1 => by
    obtain ⟨ih0, ih1⟩ := spec_fiRises.mono_l k
    refine ⟨?_, ?_⟩
    · intro y0 y1
      unfold spec_fiRises.j0
      repeat' first
      | (with_reducible exact ih0 _ _)
      | (with_reducible exact ih1 _ _)
      | (with_reducible exact spec_l1All.mono _ _ _ _)
      | (with_reducible exact LeO.refl _)
      | (with_reducible exact LeO.none _)
      | (with_reducible refine LeO.ite ?_ ?_)
      | (with_reducible refine LeO.bind ?_ (fun _ => ?_))
      | exact ih0 _ _
      | exact ih1 _ _
      | exact spec_l1All.mono _ _ _ _
      | exact LeO.none _
      | refine LeO.ite ?_ ?_
      | refine LeO.bind ?_ (fun _ => ?_)
    · intro y0 y1
      unfold spec_fiRises.l0
      repeat' first
      | (with_reducible exact ih0 _ _)
      | (with_reducible exact ih1 _ _)
      | (with_reducible exact spec_l1All.mono _ _ _ _)
      | (with_reducible exact LeO.refl _)
      | (with_reducible exact LeO.none _)
      | (with_reducible refine LeO.ite ?_ ?_)
      | (with_reducible refine LeO.bind ?_ (fun _ => ?_))
      | exact ih0 _ _
      | exact ih1 _ _
      | exact spec_l1All.mono _ _ _ _
      | exact LeO.none _
      | refine LeO.ite ?_ ?_
      | refine LeO.bind ?_ (fun _ => ?_)
theorem spec_fiRises.mono : ∀ a0 a1 k, LeO (spec_fiRises.f k a0 a1) (spec_fiRises.f (k + 1) a0 a1) := by
  intro a0 a1 k
  obtain ⟨ih0, ih1⟩ := spec_fiRises.mono_l k
  unfold spec_fiRises.f
  repeat' first
      | (with_reducible exact ih0 _ _)
      | (with_reducible exact ih1 _ _)
      | (with_reducible exact spec_l1All.mono _ _ _ _)
      | (with_reducible exact LeO.refl _)
      | (with_reducible exact LeO.none _)
      | (with_reducible refine LeO.ite ?_ ?_)
      | (with_reducible refine LeO.bind ?_ (fun _ => ?_))
      | exact ih0 _ _
      | exact ih1 _ _
      | exact spec_l1All.mono _ _ _ _
      | exact LeO.none _
      | refine LeO.ite ?_ ?_
      | refine LeO.bind ?_ (fun _ => ?_)

def spec_fiGood.f (k : Nat) (a0_0 : Int) (a0_1 : Int) (l0_2 : List Int) (l0_3 : List Int) : Option (Bool) := (spec_fiGrid.f a0_0 a0_1).bind fun t268 => (if t268 = true then ((spec_fiRises.f k l0_2 (wrap64 ((wrap64 (a0_0 * (wrap64 (a0_1 + 1)))) - 1))).bind fun t269 => (if t269 = true then ((spec_fiRises.f k l0_3 (wrap64 ((wrap64 ((wrap64 (a0_0 + 1)) * a0_1)) - 1))).bind fun t270 => (some t270)) else (some false))) else (some false))
theorem spec_fiGood.mono : ∀ a0 a1 a2 a3 k, LeO (spec_fiGood.f k a0 a1 a2 a3) (spec_fiGood.f (k + 1) a0 a1 a2 a3) := by
  intro a0 a1 a2 a3 k
  unfold spec_fiGood.f
  repeat' first
      | (with_reducible exact spec_fiRises.mono _ _ _)
      | (with_reducible exact LeO.refl _)
      | (with_reducible exact LeO.none _)
      | (with_reducible refine LeO.ite ?_ ?_)
      | (with_reducible refine LeO.bind ?_ (fun _ => ?_))
      | exact spec_fiRises.mono _ _ _
      | exact LeO.none _
      | refine LeO.ite ?_ ?_
      | refine LeO.bind ?_ (fun _ => ?_)

def impl_isRising.l0 : Nat → List Int → Int → Option (Bool)
  | 0, _, _ => none
  | k + 1, x0, x3 => if x3 < (x0.length : Int) then (if 0 ≤ x3 then (if 0 ≤ (wrap64 (x3 - 1)) then (if (wrap64 (x3 - 1)) < (x0.length : Int) then (if (rd x0 x3) ≤ (rd x0 (wrap64 (x3 - 1))) then (some false) else (impl_isRising.l0 k x0 (wrap64 (x3 + 1)))) else (none)) else (none)) else (none)) else (some true)
def impl_isRising.f (k : Nat) (l0 : List Int) : Option (Bool) := impl_isRising.l0 k l0 1
theorem impl_isRising.mono_l : ∀ k, (∀ y0 y1, LeO (impl_isRising.l0 k y0 y1) (impl_isRising.l0 (k + 1) y0 y1))
  | 0 => fun _ _ r h => by simp [impl_isRising.l0] at h
  | k + 1 => by
    have ih0 := impl_isRising.mono_l k
    · intro y0 y1
      unfold impl_isRising.l0
      repeat' first
      | (with_reducible exact ih0 _ _)
      | (with_reducible exact LeO.refl _)
      | (with_reducible exact LeO.none _)
      | (with_reducible refine LeO.ite ?_ ?_)
      | (with_reducible refine LeO.bind ?_ (fun _ => ?_))
      | exact ih0 _ _
      | exact LeO.none _
      | refine LeO.ite ?_ ?_
      | refine LeO.bind ?_ (fun _ => ?_)
theorem impl_isRising.mono : ∀ a0 k, LeO (impl_isRising.f k a0) (impl_isRising.f (k + 1) a0) := by
  intro a0 k
  have ih0 := impl_isRising.mono_l k
  unfold impl_isRising.f
  repeat' first
      | (with_reducible exact ih0 _ _)
      | (with_reducible exact LeO.refl _)
      | (with_reducible exact LeO.none _)
      | (with_reducible refine LeO.ite ?_ ?_)
      | (with_reducible refine LeO.bind ?_ (fun _ => ?_))
      | exact ih0 _ _
      | exact LeO.none _
      | refine LeO.ite ?_ ?_
      | refine LeO.bind ?_ (fun _ => ?_)

theorem rd_nat (l : List Int) (k : Nat) (h : k < l.length) : rd l (k : Int) = l[k] := by
  unfold rd; rw [Int.toNat_natCast, List.getD_eq_getElem?_getD, List.getElem?_eq_getElem h]; rfl


def impl_areWithin.f (l0 : List Int) (a1 : Int) (a2 : Int) : Option Bool := some (l0.all fun x => decide (a1 ≤ x) && decide (x ≤ a2))

def impl_grid_uprights.f (a0_0 : Int) (a0_1 : Int) : Option (Int) := some (wrap64 (a0_1 * (wrap64 (a0_0 + 1))))
end Go.Proofs.YtehjfaddhmdicaaDoor.P
namespace Go.Proofs.YtehjfaddhmdicaaDoor.P
open Go.RowKit Go.Proofs.YtehjfaddhmdicaaDoorW.PrintWords Go.Proofs.YtehjfaddhmdicaaDoorW.PrintLast Go.Proofs.YtehjfaddhmdicaaDoorW.PrintMore
attribute [local go_sem] max2_int min2_int max_two min_two max_three min_three max_four min_four   -- for this text's walks alone
set_option linter.unusedVariables false
set_option linter.unusedSimpArgs false

section
variable {P : Program} {ops : Array Oper} {Q : Exit → Act → World → Prop} {S : World → Prop} {ds : List Nat} {md : Region.Mode} {i : Nat} {N : Option Tmp} {oi : Oper} {v : Value} {fuel : Nat} {l : Array Bool} {a a' : Act} {w : World}
end

end Go.Proofs.YtehjfaddhmdicaaDoor.P
namespace Go.Proofs.YtehjfaddhmdicaaDoor.P
open Go.RowKit Go.Proofs.YtehjfaddhmdicaaDoorW.PrintWords Go.Proofs.YtehjfaddhmdicaaDoorW.PrintLast Go.Proofs.YtehjfaddhmdicaaDoorW.PrintMore
attribute [local go_sem] max2_int min2_int max_two min_two max_three min_three max_four min_four   -- for this text's walks alone
set_option linter.unusedVariables false
set_option linter.unusedSimpArgs false

def impl_IsFigure.f (k : Nat) (a0_0 : Int) (a0_1 : Int) (l0_2 : List Int) (l0_3 : List Int) : Option (Bool) := (impl_isGrid.f a0_0 a0_1).bind fun t327 => (if t327 = true then ((impl_isRising.f k l0_2).bind fun t328 => (if t328 = true then ((impl_isRising.f k l0_3).bind fun t329 => (if t329 = true then ((impl_Figure_grid.f a0_0 a0_1 l0_2 l0_3).bind fun bt330 => ((impl_grid_levels.f bt330.1 bt330.2).bind fun t332 => ((impl_areWithin.f l0_2 0 (wrap64 (t332 - 1))).bind fun t333 => (if t333 = true then ((impl_Figure_grid.f a0_0 a0_1 l0_2 l0_3).bind fun bt334 => ((impl_grid_uprights.f bt334.1 bt334.2).bind fun t336 => ((impl_areWithin.f l0_3 0 (wrap64 (t336 - 1))).bind fun t337 => (some t337)))) else (some false))))) else (some false))) else (some false))) else (some false))
theorem impl_IsFigure.mono : ∀ a0 a1 a2 a3 k, LeO (impl_IsFigure.f k a0 a1 a2 a3) (impl_IsFigure.f (k + 1) a0 a1 a2 a3) := by
  intro a0 a1 a2 a3 k
  unfold impl_IsFigure.f
  repeat' first
      | (with_reducible exact impl_isRising.mono _ _)
      | (with_reducible exact LeO.refl _)
      | (with_reducible exact LeO.none _)
      | (with_reducible refine LeO.ite ?_ ?_)
      | (with_reducible refine LeO.bind ?_ (fun _ => ?_))
      | exact impl_isRising.mono _ _
      | exact LeO.none _
      | refine LeO.ite ?_ ?_
      | refine LeO.bind ?_ (fun _ => ?_)
def impl_IsFigure.T1 : Bool × List (List Nat × List Nat) := (true, [([], []), ([0], [0]), ([], []), ([2], [2]), ([1, 3], [1, 3]), ([4, 4], [4]), ([5], [5]), ([6, 5], [5, 6]), ([7, 5, 5], [5, 7]), ([5, 8], [5, 8]), ([9, 8], [9]), ([10], [10]), ([11, 10], [10, 11]), ([12, 10, 10], [10, 12]), ([10, 13], [10, 13]), ([14, 13], [14]), ([15], [15]), ([16, 15], [15, 16]), ([15], [15]), ([18, 15, 15], [15, 18]), ([19, 19, 15], [15, 19]), ([20, 15], [15, 20]), ([17, 21, 20, 15], [15, 17, 21]), ([15, 22], [15, 22]), ([23, 22], [23]), ([24], [24]), ([25, 24], [24, 25]), ([24], [24]), ([27, 24, 24], [24, 27]), ([28, 28, 24], [24, 28]), ([29, 24], [24, 29]), ([26, 30, 29, 24], [24, 26, 30]), ([24, 31], [24, 31]), ([32, 31, 0, 1, 2, 3, 4, 5, 6, 7, 8, 9, 10, 11, 12, 13, 14, 15, 16, 17, 18, 19, 20, 21, 22, 23, 24, 25, 26, 27, 28, 29, 30, 31, 32], [32])])
def impl_IsFigure.B1 : List Nat := [0, 1, 0, 4, 15, 31, 63, 127, 255, 511, 1023, 2047, 4095, 8191, 16383, 32767, 65535, 131071, 65535, 327679, 851967, 1900543, 4194303, 8388607, 16777215, 33554431, 67108863, 33554431, 167772159, 436207615, 973078527, 2147483647, 4294967295, 8589934591]
theorem impl_IsFigure.tab1 : rtab .any (opsOf Tryd.f93 1) = impl_IsFigure.T1 := by kernel_rfl
theorem impl_IsFigure.bits1 : waitsOk impl_IsFigure.T1.2 impl_IsFigure.B1 = true := by kernel_rfl

def risingB : List Int → Bool
  | a :: b :: t => decide (a < b) && risingB (b :: t)
  | _ => true
def inB (lo hi : Int) (l : List Int) : Bool := l.all fun x => decide (lo ≤ x) && decide (x ≤ hi)
def figB (w h : Int) (a u : List Int) : Bool :=
  (decide (1 ≤ w) && decide (w ≤ 4) && decide (1 ≤ h) && decide (h ≤ 4)) && (risingB a && (risingB u && (inB 0 (w * (h + 1) - 1) a && inB 0 (h * (w + 1) - 1) u)))
theorem within_f (n lo hi : Int) : impl_within.f n lo hi = some (decide (lo ≤ n) && decide (n ≤ hi)) := by
  unfold impl_within.f
  by_cases h : lo ≤ n
  · rw [if_pos h, decide_eq_true h]; rfl
  · rw [if_neg h, decide_eq_false h]; rfl
theorem l1In_f (n lo hi : Int) : spec_l1In.f n lo hi = some (decide (lo ≤ n) && decide (n ≤ hi)) := by
  unfold spec_l1In.f
  by_cases h : lo ≤ n
  · rw [if_pos h, decide_eq_true h]; rfl
  · rw [if_neg (show ¬ n ≥ lo from h), decide_eq_false h]; rfl
theorem isGrid_f (w h : Int) : impl_isGrid.f w h = some (decide (1 ≤ w) && decide (w ≤ 4) && decide (1 ≤ h) && decide (h ≤ 4)) := by
  unfold impl_isGrid.f
  rw [within_f, within_f, Option.bind_some, Option.bind_some]
  cases (decide (1 ≤ w) && decide (w ≤ 4)) <;> simp
theorem fiGrid_f (w h : Int) : spec_fiGrid.f w h = some (decide (1 ≤ w) && decide (w ≤ 4) && decide (1 ≤ h) && decide (h ≤ 4)) := by
  unfold spec_fiGrid.f
  rw [l1In_f, l1In_f, Option.bind_some, Option.bind_some]
  cases (decide (1 ≤ w) && decide (w ≤ 4)) <;> simp
theorem grid_bounds {w h : Int} (hg : (decide (1 ≤ w) && decide (w ≤ 4) && decide (1 ≤ h) && decide (h ≤ 4)) = true) : 1 ≤ w ∧ w ≤ 4 ∧ 1 ≤ h ∧ h ≤ 4 := by
  simp only [Bool.and_eq_true, decide_eq_true_iff] at hg; omega
theorem area_bounds {w h : Int} (h1 : 1 ≤ w) (h2 : w ≤ 4) (h3 : 1 ≤ h) (h4 : h ≤ 4) : 2 ≤ w * (h + 1) ∧ w * (h + 1) ≤ 20 ∧ 2 ≤ h * (w + 1) ∧ h * (w + 1) ≤ 20 := by
  have : w = 1 ∨ w = 2 ∨ w = 3 ∨ w = 4 := by omega
  rcases this with rfl | rfl | rfl | rfl <;> omega

mutual
def impl_Figure_set.l0 : Nat → Int → List Int → Int → Int → Int → Int → List Int → List Int → Option (Int)
 | 0, _, _, _, _, _, _, _, _ => none
 | k + 1, x3, x9, x10, x11, x154000, x154001, x154002, x154003 => if x11 < x10 then (if 0 ≤ x11 then (if x11 < (x9.length : Int) then (if 0 ≤ (rd x9 x11) then (impl_Figure_set.l0 k (Go.bits .or .u64 x3 (shl .u64 1 (rd x9 x11))) x9 x10 (wrap64 (x11 + 1)) x154000 x154001 x154002 x154003) else (none)) else (none)) else (none)) else (impl_Figure_set.l1 k x3 x154003 (x154003.length : Int) 0 x154000 x154001 x154002 x154003)
def impl_Figure_set.l1 : Nat → Int → List Int → Int → Int → Int → Int → List Int → List Int → Option (Int)
 | 0, _, _, _, _, _, _, _, _ => none
 | k + 1, x3, x21, x22, x23, x154000, x154001, x154002, x154003 => if x23 < x22 then (if 0 ≤ x23 then (if x23 < (x21.length : Int) then ((impl_Figure_grid.f x154000 x154001 x154002 x154003).bind fun bt156 => ((impl_grid_levels.f bt156.1 bt156.2).bind fun t158 => (if 0 ≤ (wrap64 (t158 + (rd x21 x23))) then (impl_Figure_set.l1 k (Go.bits .or .u64 x3 (shl .u64 1 (wrap64 (t158 + (rd x21 x23))))) x21 x22 (wrap64 (x23 + 1)) x154000 x154001 x154002 x154003) else (none)))) else (none)) else (none)) else (some x3)
end
def impl_Figure_set.f (k : Nat) (a0_0 : Int) (a0_1 : Int) (l0_2 : List Int) (l0_3 : List Int) : Option (Int) := impl_Figure_set.l0 k 0 l0_2 (l0_2.length : Int) 0 a0_0 a0_1 l0_2 l0_3
theorem impl_Figure_set.mono_l : ∀ k, (∀ y0 y1 y2 y3 y4 y5 y6 y7, LeO (impl_Figure_set.l0 k y0 y1 y2 y3 y4 y5 y6 y7) (impl_Figure_set.l0 (k + 1) y0 y1 y2 y3 y4 y5 y6 y7)) ∧ (∀ y0 y1 y2 y3 y4 y5 y6 y7, LeO (impl_Figure_set.l1 k y0 y1 y2 y3 y4 y5 y6 y7) (impl_Figure_set.l1 (k + 1) y0 y1 y2 y3 y4 y5 y6 y7))
 | 0 => ⟨fun _ _ _ _ _ _ _ _ r h => by simp [impl_Figure_set.l0] at h, fun _ _ _ _ _ _ _ _ r h => by simp [impl_Figure_set.l1] at h⟩
 | k + 1 => by
  obtain ⟨ih0, ih1⟩ := impl_Figure_set.mono_l k
  refine ⟨?_, ?_⟩
  ·intro y0 y1 y2 y3 y4 y5 y6 y7
   unfold impl_Figure_set.l0
   repeat' first
   | (with_reducible exact ih0 _ _ _ _ _ _ _ _)
   | (with_reducible exact ih1 _ _ _ _ _ _ _ _)
   | (with_reducible exact LeO.refl _)
   | (with_reducible exact LeO.none _)
   | (with_reducible refine LeO.ite ?_ ?_)
   | (with_reducible refine LeO.bind ?_ (fun _ => ?_))
   | exact ih0 _ _ _ _ _ _ _ _
   | exact ih1 _ _ _ _ _ _ _ _
   | exact LeO.none _
   | refine LeO.ite ?_ ?_
   | refine LeO.bind ?_ (fun _ => ?_)
  ·intro y0 y1 y2 y3 y4 y5 y6 y7
   unfold impl_Figure_set.l1
   repeat' first
   | (with_reducible exact ih0 _ _ _ _ _ _ _ _)
   | (with_reducible exact ih1 _ _ _ _ _ _ _ _)
   | (with_reducible exact LeO.refl _)
   | (with_reducible exact LeO.none _)
   | (with_reducible refine LeO.ite ?_ ?_)
   | (with_reducible refine LeO.bind ?_ (fun _ => ?_))
   | exact ih0 _ _ _ _ _ _ _ _
   | exact ih1 _ _ _ _ _ _ _ _
   | exact LeO.none _
   | refine LeO.ite ?_ ?_
   | refine LeO.bind ?_ (fun _ => ?_)
theorem impl_Figure_set.mono : ∀ a0 a1 a2 a3 k, LeO (impl_Figure_set.f k a0 a1 a2 a3) (impl_Figure_set.f (k + 1) a0 a1 a2 a3) := by
 intro a0 a1 a2 a3 k
 obtain ⟨ih0, ih1⟩ := impl_Figure_set.mono_l k
 unfold impl_Figure_set.f
 repeat' first
   | (with_reducible exact ih0 _ _ _ _ _ _ _ _)
   | (with_reducible exact ih1 _ _ _ _ _ _ _ _)
   | (with_reducible exact LeO.refl _)
   | (with_reducible exact LeO.none _)
   | (with_reducible refine LeO.ite ?_ ?_)
   | (with_reducible refine LeO.bind ?_ (fun _ => ?_))
   | exact ih0 _ _ _ _ _ _ _ _
   | exact ih1 _ _ _ _ _ _ _ _
   | exact LeO.none _
   | refine LeO.ite ?_ ?_
   | refine LeO.bind ?_ (fun _ => ?_)
set_option maxHeartbeats 8000000 in
set_option maxRecDepth 100000 in
theorem impl_Figure_set.calls (k : Nat) (a0_0 : Int) (a0_1 : Int) (A0_2 : Option Addr) (c0_2 : Nat) (l0_2 : List Int) (A0_3 : Option Addr) (c0_3 : Nat) (l0_3 : List Int) (r : Int) (w : World) (hr0_2 : Kd.C (Kd.int .i64) w A0_2 l0_2.length l0_2) (hc0_2 : l0_2.length ≤ c0_2) (hr0_3 : Kd.C (Kd.int .i64) w A0_3 l0_3.length l0_3) (hc0_3 : l0_3.length ≤ c0_3) (h : impl_Figure_set.f k a0_0 a0_1 l0_2 l0_3 = some r) :
  Calls Tryd.prog 72 #[.agg #[.int .i64 a0_0, .int .i64 a0_1, .slice A0_2 l0_2.length c0_2, .slice A0_3 l0_3.length c0_3]] w fun e w' => e = .returned (.int .u64 r) ∧ Below w.heap.size w w' := by
 have hu36 := Tryd.underlying36
 have HR0_2 := Aside0.mk hr0_2
 have HC0_2 := Aside0.mk hc0_2
 clear hr0_2 hc0_2
 have HR0_3 := Aside0.mk hr0_3
 have HC0_3 := Aside0.mk hc0_3
 clear hr0_3 hc0_3
 have HB := Aside0.mk (Below.refl w.heap.size w)
 have H : (impl_Figure_set.l0 k 0 l0_2 (l0_2.length : Int) 0 a0_0 a0_1 l0_2 l0_3) = some r := h
 clear h
 have H' := Aside0.mk H
 clear H
 go_enter Tryd.func72, Tryd.ntmps72
 go_wp2_with (first | ((with_reducible refine gate_dst (N := 1) rfl ?_); refine boxE_ (N := 1) (cs := #[.int .i64 a0_0, .int .i64 a0_1, .slice A0_2 l0_2.length c0_2, .slice A0_3 l0_3.length c0_3]) (t := 36) ?_; intro gb153 hg w2 hbox hb; have n0_ := Aside0.mk (below_step (bl0_ HB.out) hb); have n1_ := Aside0.mk (hbox); have n2_ := Aside0.mk ((bs0_ hg HB.out : w.heap.size ≤ gb153)); have n3_ := Aside0.mk ((bs0_ hg HB.out : w.heap.size ≤ gb153)); clear HB; have HB := n0_; have BK153 := n1_; have GW153 := n2_; have GE153 := n3_; clear n0_ n1_ n2_ n3_; clear hb hbox hg; have hcz3_0 : w2.cell? ⟨gb153, 0, none⟩ = some (.int .i64 a0_0) := (blk_cell BK153.out 0).trans rfl; have hcz3_1 : w2.cell? ⟨gb153, 1, none⟩ = some (.int .i64 a0_1) := (blk_cell BK153.out 1).trans rfl; have hcz3_2 : w2.cell? ⟨gb153, 2, none⟩ = some (.slice A0_2 l0_2.length c0_2) := (blk_cell BK153.out 2).trans rfl; have hcz3_3 : w2.cell? ⟨gb153, 3, none⟩ = some (.slice A0_3 l0_3.length c0_3) := (blk_cell BK153.out 3).trans rfl; have hfz3_0 := blk_frozen BK153.out 0; have hfz3_1 := blk_frozen BK153.out 1; have hfz3_2 := blk_frozen BK153.out 2; have hfz3_3 := blk_frozen BK153.out 3))
 go_loopg [3, 11] k (fun kq v3 v11 w' => ∃ (x3_1 : Int) (x11_1 : Int), v3 = .int .u64 x3_1 ∧ v11 = .int .i64 x11_1 ∧ Aside0 (impl_Figure_set.l0 kq x3_1 l0_2 (l0_2.length : Int) x11_1 a0_0 a0_1 l0_2 l0_3 = some r) ∧ Aside0 (kq ≤ k) ∧ Aside0 (w'.heap[gb153]? = some (.cells #[.int .i64 a0_0, .int .i64 a0_1, (.slice A0_2 l0_2.length c0_2), (.slice A0_3 l0_3.length c0_3)] 36 (0, 0))) ∧ Aside0 (Below w.heap.size w w'))
 case atStart => exact ⟨(0), (0), rs_, rs_, H', ⟨Nat.le_refl _⟩, ⟨bk_ BK153.out⟩, ⟨bl1_ HB.out GE153.out⟩⟩
 case round =>
  clear H'
  try clear p2
  try clear hcz3_0
  try clear hcz3_1
  try clear hcz3_2
  try clear hcz3_3
  try clear hfz3_0
  try clear hfz3_1
  try clear hfz3_2
  try clear hfz3_3
  obtain ⟨x3_1, x11_1, rfl, rfl, HA, HK1, BK153, HB⟩ := hrel
  cases gk with
  | zero => exact absurd HA.out (by simp [impl_Figure_set.l0])
  | succ k1 =>
   have H := HA.out
   clear HA
   simp only [impl_Figure_set.l0] at H
   by_cases c4 : x11_1 < (l0_2.length : Int)
   ·rw [if_pos c4] at H
    have c4b0 : decide (x11_1 < (l0_2.length : Int)) = true := decide_eq_true c4
    clear c4
    by_cases c5 : 0 ≤ x11_1
    ·rw [if_pos c5] at H
     have c5b0 : decide (0 ≤ x11_1) = true := decide_eq_true c5
     clear c5
     by_cases c6 : x11_1 < (l0_2.length : Int)
     ·rw [if_pos c6] at H
      have c6b0 : decide (x11_1 < (l0_2.length : Int)) = true := decide_eq_true c6
      clear c6
      by_cases c7 : 0 ≤ (rd l0_2 x11_1)
      ·rw [if_pos c7] at H
       have c7b0 := eq_true c7
       have c7b1 : decide (0 ≤ (rd l0_2 x11_1)) = true := decide_eq_true c7
       clear c7
       obtain ⟨ji8, hji8⟩ : ∃ j_ : Int, (shl .u64 1 (rd l0_2 x11_1)) = j_ := ⟨_, rfl⟩
       replace H : (impl_Figure_set.l0 k1 (Go.bits .or .u64 x3_1 (ji8)) l0_2 (l0_2.length : Int) (wrap64 (x11_1 + 1)) a0_0 a0_1 l0_2 l0_3) = some r := by first | (rw [hji8] at H; exact H) | (simp only [hji8] at H ⊢; exact H)
       have hji8_ : (IntKind.u64.wrap (1 * 2 ^ min (rd l0_2 x11_1).toNat 64)) = ji8 := hji8
       have hji8z : (rd l0_2 x11_1) ≤ 64 → (IntKind.u64.wrap (1 * 2 ^ (rd l0_2 x11_1).toNat)) = ji8 := shl_small hji8
       have hji8u : (IntKind.u64.wrap (2 ^ min (rd l0_2 x11_1).toNat 64)) = ji8 := by have h_ := hji8_; rw [Int.one_mul] at h_; exact h_
       have hji8v : (rd l0_2 x11_1) ≤ 64 → (IntKind.u64.wrap (2 ^ (rd l0_2 x11_1).toNat)) = ji8 := fun hle_ => by have h_ := hji8z hle_; rw [Int.one_mul] at h_; exact h_
       have H' := Aside0.mk H
       clear H
       have p154 : 0 ≤ (x11_1 : Int) := of_decide_eq_true as_
       have q154 : x11_1 < (l0_2.length : Int) := of_decide_eq_true as_
       obtain ⟨ad154, e154, hx154_0⟩ := Kd.at_int HR0_2.out x11_1 p154 q154
       cases e154
       replace hx154_0 := (HB.out.cell (World.block_lt_of_cell? w _ hx154_0)).trans hx154_0
       replace p154 := eq_true p154
       replace q154 := eq_true q154
       go_wp2
       go_roundg k1
       case measure => have := HK1.out; omega
       case rel => exact ⟨(Go.bits .or .u64 x3_1 (ji8)), (wrap64 (x11_1 + 1)), (by first | rfl | (simp; done) | (simp only [← hji8] <;> (first | rfl | simp)) | (simp [*]; done)), rs_, H', ⟨by have := HK1.out; omega⟩, ⟨bk_ BK153.out⟩, ⟨bl1_ HB.out GE153.out⟩⟩
      ·rw [if_neg c7] at H
       exact absurd H (by simp)
     ·rw [if_neg c6] at H
      exact absurd H (by simp)
    ·rw [if_neg c5] at H
     exact absurd H (by simp)
   ·rw [if_neg c4] at H
    have c4b0 : decide (x11_1 < (l0_2.length : Int)) = false := decide_eq_false c4
    clear c4
    have H' := Aside0.mk H
    clear H
    have hcz9_0 : wr.cell? ⟨gb153, 0, none⟩ = some (.int .i64 a0_0) := (blk_cell BK153.out 0).trans rfl
    have hcz9_1 : wr.cell? ⟨gb153, 1, none⟩ = some (.int .i64 a0_1) := (blk_cell BK153.out 1).trans rfl
    have hcz9_2 : wr.cell? ⟨gb153, 2, none⟩ = some (.slice A0_2 l0_2.length c0_2) := (blk_cell BK153.out 2).trans rfl
    have hcz9_3 : wr.cell? ⟨gb153, 3, none⟩ = some (.slice A0_3 l0_3.length c0_3) := (blk_cell BK153.out 3).trans rfl
    have hfz9_0 := blk_frozen BK153.out 0
    have hfz9_1 := blk_frozen BK153.out 1
    have hfz9_2 := blk_frozen BK153.out 2
    have hfz9_3 := blk_frozen BK153.out 3
    go_wp2
    go_loopg [3, 23] k1 (fun kq v3 v23 w' => ∃ (x3_2 : Int) (x23_2 : Int), v3 = .int .u64 x3_2 ∧ v23 = .int .i64 x23_2 ∧ Aside0 (impl_Figure_set.l1 kq x3_2 l0_3 (l0_3.length : Int) x23_2 a0_0 a0_1 l0_2 l0_3 = some r) ∧ Aside0 (kq ≤ k1) ∧ Aside0 (w'.heap[gb153]? = some (.cells #[.int .i64 a0_0, .int .i64 a0_1, (.slice A0_2 l0_2.length c0_2), (.slice A0_3 l0_3.length c0_3)] 36 (0, 0))) ∧ Aside0 (Below w.heap.size w w'))
    case atStart => exact ⟨(x3_1), (0), rs_, rs_, H', ⟨Nat.le_refl _⟩, ⟨bk_ BK153.out⟩, ⟨bl1_ HB.out GE153.out⟩⟩
    case round =>
     clear H'
     try clear p1
     try clear q1
     try clear hx1
     try clear p2
     try clear c4
     try clear c4b0
     try clear c5
     try clear c5b0
     try clear c6
     try clear c6b0
     try clear p6
     try clear c7
     try clear c7b0
     try clear c7b1
     try clear hcz3_0
     try clear hcz3_1
     try clear hcz3_2
     try clear hcz3_3
     try clear hcz9_0
     try clear hcz9_1
     try clear hcz9_2
     try clear hcz9_3
     try clear hfz3_0
     try clear hfz3_1
     try clear hfz3_2
     try clear hfz3_3
     try clear hfz9_0
     try clear hfz9_1
     try clear hfz9_2
     try clear hfz9_3
     try clear hx154_0
     try clear p154
     try clear p2
     try clear q154
     obtain ⟨x3_2, x23_2, rfl, rfl, HA, HK2, BK153, HB⟩ := hrel
     cases gk with
     | zero => exact absurd HA.out (by simp [impl_Figure_set.l1])
     | succ k2 =>
      have H := HA.out
      clear HA
      simp only [impl_Figure_set.l1] at H
      by_cases c10 : x23_2 < (l0_3.length : Int)
      ·rw [if_pos c10] at H
       have c10b0 : decide (x23_2 < (l0_3.length : Int)) = true := decide_eq_true c10
       clear c10
       by_cases c11 : 0 ≤ x23_2
       ·rw [if_pos c11] at H
        have c11b0 : decide (0 ≤ x23_2) = true := decide_eq_true c11
        clear c11
        by_cases c12 : x23_2 < (l0_3.length : Int)
        ·rw [if_pos c12] at H
         have c12b0 : decide (x23_2 < (l0_3.length : Int)) = true := decide_eq_true c12
         clear c12
         replace H := Option.bind_eq_some_iff.mp H
         obtain ⟨⟨t156, t157⟩, A130, H⟩ := H
         replace H : ((impl_grid_levels.f t156 t157).bind fun t158 => (if 0 ≤ (wrap64 (t158 + (rd l0_3 x23_2))) then (impl_Figure_set.l1 k2 (Go.bits .or .u64 x3_2 (shl .u64 1 (wrap64 (t158 + (rd l0_3 x23_2))))) l0_3 (l0_3.length : Int) (wrap64 (x23_2 + 1)) a0_0 a0_1 l0_2 l0_3) else (none))) = some r := H
         have A13 := Aside0.mk A130
         clear A130
         replace H := Option.bind_eq_some_iff.mp H
         obtain ⟨t158, A140, H⟩ := H
         replace H : (if 0 ≤ (wrap64 (t158 + (rd l0_3 x23_2))) then (impl_Figure_set.l1 k2 (Go.bits .or .u64 x3_2 (shl .u64 1 (wrap64 (t158 + (rd l0_3 x23_2))))) l0_3 (l0_3.length : Int) (wrap64 (x23_2 + 1)) a0_0 a0_1 l0_2 l0_3) else (none)) = some r := H
         have A14 := Aside0.mk A140
         clear A140
         obtain ⟨ji15, hji15⟩ : ∃ j_ : Int, (wrap64 (t158 + (rd l0_3 x23_2))) = j_ := ⟨_, rfl⟩
         replace H : (if 0 ≤ (ji15) then (impl_Figure_set.l1 k2 (Go.bits .or .u64 x3_2 (shl .u64 1 (ji15))) l0_3 (l0_3.length : Int) (wrap64 (x23_2 + 1)) a0_0 a0_1 l0_2 l0_3) else (none)) = some r := by first | (rw [hji15] at H; exact H) | (simp only [hji15] at H ⊢; exact H)
         (try rw [hji15] at A13)
         (try rw [hji15] at A14)
         have hji15w : (IntKind.i64.wrap (t158 + (rd l0_3 x23_2))) = ji15 := (i64_w _).trans hji15
         by_cases c16 : 0 ≤ (ji15)
         ·rw [if_pos c16] at H
          have c16b0 := eq_true c16
          have c16b1 : decide (0 ≤ (ji15)) = true := decide_eq_true c16
          clear c16
          obtain ⟨ji17, hji17⟩ : ∃ j_ : Int, (shl .u64 1 (ji15)) = j_ := ⟨_, rfl⟩
          replace H : (impl_Figure_set.l1 k2 (Go.bits .or .u64 x3_2 (ji17)) l0_3 (l0_3.length : Int) (wrap64 (x23_2 + 1)) a0_0 a0_1 l0_2 l0_3) = some r := by first | (rw [hji17] at H; exact H) | (simp only [hji17] at H ⊢; exact H)
          (try rw [hji17] at A13)
          (try rw [hji17] at A14)
          have hji17_ : (IntKind.u64.wrap (1 * 2 ^ min (ji15).toNat 64)) = ji17 := hji17
          have hji17z : (ji15) ≤ 64 → (IntKind.u64.wrap (1 * 2 ^ (ji15).toNat)) = ji17 := shl_small hji17
          have hji17u : (IntKind.u64.wrap (2 ^ min (ji15).toNat 64)) = ji17 := by have h_ := hji17_; rw [Int.one_mul] at h_; exact h_
          have hji17v : (ji15) ≤ 64 → (IntKind.u64.wrap (2 ^ (ji15).toNat)) = ji17 := fun hle_ => by have h_ := hji17z hle_; rw [Int.one_mul] at h_; exact h_
          have H' := Aside0.mk H
          clear H
          have p155 : 0 ≤ (x23_2 : Int) := of_decide_eq_true as_
          have q155 : x23_2 < (l0_3.length : Int) := of_decide_eq_true as_
          obtain ⟨ad155, e155, hx155_0⟩ := Kd.at_int HR0_3.out x23_2 p155 q155
          cases e155
          replace hx155_0 := (HB.out.cell (World.block_lt_of_cell? w _ hx155_0)).trans hx155_0
          replace p155 := eq_true p155
          replace q155 := eq_true q155
          have hcz18_0 : wr.cell? ⟨gb153, 0, none⟩ = some (.int .i64 a0_0) := (blk_cell BK153.out 0).trans rfl
          have hcz18_1 : wr.cell? ⟨gb153, 1, none⟩ = some (.int .i64 a0_1) := (blk_cell BK153.out 1).trans rfl
          have hcz18_2 : wr.cell? ⟨gb153, 2, none⟩ = some (.slice A0_2 l0_2.length c0_2) := (blk_cell BK153.out 2).trans rfl
          have hcz18_3 : wr.cell? ⟨gb153, 3, none⟩ = some (.slice (some ad155) l0_3.length c0_3) := (blk_cell BK153.out 3).trans rfl
          have hfz18_0 := blk_frozen BK153.out 0
          have hfz18_1 := blk_frozen BK153.out 1
          have hfz18_2 := blk_frozen BK153.out 2
          have hfz18_3 := blk_frozen BK153.out 3
          go_wp2_with (first | ((with_reducible refine gate_callee (f := 71) rfl ?_); refine goesL_ (some 29) rfl rfl Tryd.func71 (by kernel_rfl) rfl #[.agg #[.int .i64 a0_0, .int .i64 a0_1, .slice A0_2 l0_2.length c0_2, .slice (some ad155) l0_3.length c0_3]] rfl ob_ ?_; (with_reducible refine (impl_Figure_grid.calls a0_0 a0_1 _ _ l0_2 _ _ l0_3 t156 t157 _ ?side1 ?side2 ?side3 ?side4 A13.out).mono ?_); (case side1 => exact kc_ (Kd.C_below HR0_2.out HB.out)); (case side2 => exact HC0_2.out); (case side3 => exact kc_ (Kd.C_below HR0_3.out HB.out)); (case side4 => exact HC0_3.out); rintro e w19 ⟨rfl, hb⟩; refine ⟨_, rfl, ?_⟩; have n0_ := Aside0.mk (bb_ BK153.out hb); have n1_ := Aside0.mk (below_step (bl1_ HB.out GE153.out) hb); clear BK153; clear HB; have BK153 := n0_; have HB := n1_; clear n0_ n1_; (try clear hb); (try clear hb2); (try clear hk); (try clear hi)) | ((with_reducible refine gate_callee (f := 101) rfl ?_); refine goesL_ (some 30) rfl rfl Tryd.func101 (by kernel_rfl) rfl #[.agg #[.int .i64 t156, .int .i64 t157]] rfl ob_ ?_; (with_reducible refine (impl_grid_levels.calls t156 t157 t158 _ A14.out).mono ?_); rintro e w20 ⟨rfl, hb⟩; refine ⟨_, rfl, ?_⟩; have n0_ := Aside0.mk (bb_ BK153.out hb); have n1_ := Aside0.mk (below_step (bl1_ HB.out GE153.out) hb); clear BK153; clear HB; have BK153 := n0_; have HB := n1_; clear n0_ n1_; (try clear hb); (try clear hb2); (try clear hk); (try clear hi)))
          go_roundg k2
          case measure => have := HK1.out; have := HK2.out; omega
          case rel => exact ⟨(Go.bits .or .u64 x3_2 (ji17)), (wrap64 (x23_2 + 1)), (by first | rfl | (simp; done) | (simp only [← hji17] <;> (first | rfl | simp)) | (simp [*]; done)), rs_, H', ⟨by have := HK1.out; have := HK2.out; omega⟩, ⟨bk_ BK153.out⟩, ⟨bl1_ HB.out GE153.out⟩⟩
         ·rw [if_neg c16] at H
          exact absurd H (by simp)
        ·rw [if_neg c12] at H
         exact absurd H (by simp)
       ·rw [if_neg c11] at H
        exact absurd H (by simp)
      ·rw [if_neg c10] at H
       have c10b0 : decide (x23_2 < (l0_3.length : Int)) = false := decide_eq_false c10
       clear c10
       obtain rfl := Option.some.inj H
       go_wp2
       go_ret
       exact ⟨er_, bl1_ HB.out GE153.out⟩


theorem u64_small (n : Int) (h0 : 0 ≤ n) (h1 : n < 2 ^ 60) : IntKind.u64.wrap n = n := by
 have : IntKind.u64.wrap n = n % 18446744073709551616 := by simp [IntKind.wrap, IntKind.bits, IntKind.signed]
 rw [this]; omega
theorem or_u64 (a b : Nat) (ha : a < 2 ^ 60) (hb : b < 2 ^ 60) : Go.bits .or .u64 (a : Int) (b : Int) = ((a ||| b : Nat) : Int) := (bits_nat .u64 60 (by decide) u64_small a b ha hb).2
theorem and_u64 (a b : Nat) (ha : a < 2 ^ 60) (hb : b < 2 ^ 60) : Go.bits .and .u64 (a : Int) (b : Int) = ((a &&& b : Nat) : Int) := (bits_nat .u64 60 (by decide) u64_small a b ha hb).1
theorem pow_lt60 {n : Nat} (h : n < 60) : 2 ^ n < 2 ^ 60 := Nat.pow_lt_pow_right (by decide) h
theorem shl_u64 (n : Nat) (h : n < 60) : shl .u64 1 (n : Int) = ((2 ^ n : Nat) : Int) := by
 unfold shl
 rw [Int.toNat_natCast, show min n IntKind.u64.bits = n from Nat.min_eq_left (by show n ≤ 64; omega), Int.one_mul]
 have h2 := pow_lt60 h
 rw [u64_small _ (by exact_mod_cast Nat.zero_le _) (by exact_mod_cast h2)]
 norm_cast
def bitsFrom (s : Nat) (l : List Int) (m : Nat) : Nat := l.foldl (fun m k => m ||| 2 ^ (s + k.toNat)) m
theorem bitsFrom_lt (s : Nat) (l : List Int) : ∀ m, m < 2 ^ 60 → (∀ k ∈ l, s + k.toNat < 60) → bitsFrom s l m < 2 ^ 60 := by
 induction l with
 | nil => intro m hm _; exact hm
 | cons a t ih =>
  intro m hm h
  exact ih _ (Nat.or_lt_two_pow hm (pow_lt60 (h a (by simp)))) (fun k hk => h k (by simp [hk]))
theorem bitsFrom_test (s : Nat) (l : List Int) (i : Nat) : ∀ m, (bitsFrom s l m).testBit i = (m.testBit i || l.any fun k => decide (s + k.toNat = i)) := by
 induction l with
 | nil => intro m; simp [bitsFrom]
 | cons a t ih =>
  intro m
  have := ih (m ||| 2 ^ (s + a.toNat))
  unfold bitsFrom at this ⊢
  rw [List.foldl_cons, this, Nat.testBit_or, Nat.testBit_two_pow, List.any_cons, Bool.or_assoc]
theorem inB_mem {lo hi : Int} {l : List Int} (h : inB lo hi l = true) (x : Int) (hx : x ∈ l) : lo ≤ x ∧ x ≤ hi := by
 unfold inB at h
 rw [List.all_eq_true] at h
 have := h x hx
 simpa using this
def figMask (w h : Int) (a u : List Int) : Nat := bitsFrom (w * (h + 1)).toNat u (bitsFrom 0 a 0)
theorem figMask_lt {w h : Int} {a u : List Int} (hf : figB w h a u = true) : figMask w h a u < 2 ^ 60 := by
 unfold figB at hf
 simp only [Bool.and_eq_true] at hf
 obtain ⟨hg, -, -, hi1, hi2⟩ := hf
 obtain ⟨b1, b2, b3, b4⟩ := grid_bounds (by simp only [Bool.and_eq_true]; exact hg)
 obtain ⟨c1, c2, c3, c4⟩ := area_bounds b1 b2 b3 b4
 refine bitsFrom_lt _ _ _ (bitsFrom_lt _ _ _ (by decide) (fun k hk => ?_)) (fun k hk => ?_)
 ·have := inB_mem hi1 k hk; omega
 ·have := inB_mem hi2 k hk; omega
theorem figMask_level {w h : Int} {a u : List Int} (hf : figB w h a u = true) (e : Nat) (he : (e : Int) < w * (h + 1)) : (figMask w h a u).testBit e = decide ((e : Int) ∈ a) := by
 unfold figB at hf
 simp only [Bool.and_eq_true] at hf
 obtain ⟨hg, -, -, hi1, hi2⟩ := hf
 unfold figMask
 rw [bitsFrom_test, bitsFrom_test, Nat.zero_testBit, Bool.false_or]
 rw [show (u.any fun k => decide ((w * (h + 1)).toNat + k.toNat = e)) = false from by
  rw [List.any_eq_false]; intro k hk; have := inB_mem hi2 k hk; simp; omega]
 rw [Bool.or_false, Bool.eq_iff_iff, List.any_eq_true, decide_eq_true_iff]
 constructor
 ·rintro ⟨k, hk, hke⟩
  have := inB_mem hi1 k hk
  simp at hke
  rw [show (e : Int) = k by omega]
  exact hk
 ·intro hm
  exact ⟨_, hm, by simp⟩
theorem figMask_upright {w h : Int} {a u : List Int} (hf : figB w h a u = true) (e : Nat) : (figMask w h a u).testBit ((w * (h + 1)).toNat + e) = decide ((e : Int) ∈ u) := by
 unfold figB at hf
 simp only [Bool.and_eq_true] at hf
 obtain ⟨hg, -, -, hi1, hi2⟩ := hf
 obtain ⟨b1, b2, b3, b4⟩ := grid_bounds (by simp only [Bool.and_eq_true]; exact hg)
 obtain ⟨c1, c2, c3, c4⟩ := area_bounds b1 b2 b3 b4
 unfold figMask
 rw [bitsFrom_test, bitsFrom_test, Nat.zero_testBit, Bool.false_or]
 rw [show (a.any fun k => decide (0 + k.toNat = (w * (h + 1)).toNat + e)) = false from by
  rw [List.any_eq_false]; intro k hk; have := inB_mem hi1 k hk; simp; omega]
 rw [Bool.false_or, Bool.eq_iff_iff, List.any_eq_true, decide_eq_true_iff]
 constructor
 ·rintro ⟨k, hk, hke⟩
  have := inB_mem hi2 k hk
  simp at hke
  rw [show (e : Int) = k by omega]
  exact hk
 ·intro hm
  exact ⟨_, hm, by simp⟩
theorem set_l1 (w h : Int) (a u : List Int) (hL : u.length ≤ 4000000) (hw : wrap64 (w * wrap64 (h + 1)) = w * (h + 1)) (h0 : 0 ≤ w * (h + 1)) (h1 : w * (h + 1) ≤ 20) (hu : ∀ k ∈ u, 0 ≤ k ∧ k ≤ 20) : ∀ (d k i : Nat) (m : Nat), u.length - i = d → i ≤ u.length → d < k → m < 2 ^ 60 →
  impl_Figure_set.l1 k (m : Int) u (u.length : Int) (i : Int) w h a u = some ((bitsFrom (w * (h + 1)).toNat (u.drop i) m : Nat) : Int) := by
 intro d
 induction d with
 | zero =>
  intro k i m h2 h3 h4 h5
  obtain ⟨k, rfl⟩ : ∃ q, k = q + 1 := ⟨k - 1, by omega⟩
  simp only [impl_Figure_set.l1]
  rw [if_neg (by omega), List.drop_of_length_le (by omega)]
  rfl
 | succ d ih =>
  intro k i m h2 h3 h4 h5
  obtain ⟨k, rfl⟩ : ∃ q, k = q + 1 := ⟨k - 1, by omega⟩
  have hi : i < u.length := by omega
  have hk := hu u[i] (List.getElem_mem hi)
  have e2 : wrap64 ((i : Int) + 1) = ((i + 1 : Nat) : Int) := by unfold wrap64; omega
  have e3 : wrap64 (w * (h + 1) + u[i]) = (((w * (h + 1)).toNat + u[i].toNat : Nat) : Int) := by unfold wrap64; omega
  have hlt : (w * (h + 1)).toNat + u[i].toNat < 60 := by omega
  simp only [impl_Figure_set.l1]
  unfold impl_Figure_grid.f impl_grid_levels.f
  rw [if_pos (by omega), if_pos (by omega), if_pos (by omega), rd_nat u i hi, Option.bind_some, Option.bind_some, hw, e3, if_pos (by omega), shl_u64 _ hlt, or_u64 _ _ h5 (pow_lt60 hlt), e2,
   ih k (i + 1) _ (by omega) (by omega) (by omega) (Nat.or_lt_two_pow h5 (pow_lt60 hlt)), List.drop_eq_getElem_cons hi]
  rfl
theorem set_l0 (w h : Int) (a u : List Int) (hL : a.length ≤ 4000000) (hLu : u.length ≤ 4000000) (hw : wrap64 (w * wrap64 (h + 1)) = w * (h + 1)) (h0 : 0 ≤ w * (h + 1)) (h1 : w * (h + 1) ≤ 20) (ha : ∀ k ∈ a, 0 ≤ k ∧ k ≤ 20) (hu : ∀ k ∈ u, 0 ≤ k ∧ k ≤ 20) : ∀ (d k i : Nat) (m : Nat), a.length - i = d → i ≤ a.length → d + u.length + 2 < k → m < 2 ^ 60 →
  impl_Figure_set.l0 k (m : Int) a (a.length : Int) (i : Int) w h a u = some ((bitsFrom (w * (h + 1)).toNat u (bitsFrom 0 (a.drop i) m) : Nat) : Int) := by
 intro d
 induction d with
 | zero =>
  intro k i m h2 h3 h4 h5
  obtain ⟨k, rfl⟩ : ∃ q, k = q + 1 := ⟨k - 1, by omega⟩
  simp only [impl_Figure_set.l0]
  rw [if_neg (by omega), List.drop_of_length_le (by omega)]
  exact set_l1 w h a u hLu hw h0 h1 hu u.length k 0 m (by omega) (by omega) (by omega) h5
 | succ d ih =>
  intro k i m h2 h3 h4 h5
  obtain ⟨k, rfl⟩ : ∃ q, k = q + 1 := ⟨k - 1, by omega⟩
  have hi : i < a.length := by omega
  have hk := ha a[i] (List.getElem_mem hi)
  have e2 : wrap64 ((i : Int) + 1) = ((i + 1 : Nat) : Int) := by unfold wrap64; omega
  have c1 : (i : Int) < (a.length : Int) := Int.ofNat_lt.2 hi
  have c2 : (0 : Int) ≤ (i : Int) := Int.natCast_nonneg _
  have hr := rd_nat a i hi
  have hd := List.drop_eq_getElem_cons hi
  have n1 : a.length - (i + 1) = d := by clear hk hr hd c1 c2 ih h5 hw h0 h1 hu ha; omega
  have n2 : i + 1 ≤ a.length := hi
  have n3 : d + u.length + 2 < k := by clear hk hr hd c1 c2 ih h5 hw h0 h1 hu ha; omega
  have hih := fun m hm => ih k (i + 1) m n1 n2 n3 hm
  generalize a[i] = x at hk hr hd
  obtain ⟨hk1, hk2⟩ := hk
  obtain ⟨y, rfl⟩ : ∃ y : Nat, x = (y : Int) := ⟨x.toNat, (Int.toNat_of_nonneg hk1).symm⟩
  have hlt : y < 60 := by clear hr hd c1 c2 ih h5 hw h0 h1 hu ha hih; omega
  simp only [impl_Figure_set.l0]
  rw [if_pos c1, if_pos c2, if_pos c1, hr, if_pos hk1, shl_u64 _ hlt, or_u64 _ _ h5 (pow_lt60 hlt), e2, hih _ (Nat.or_lt_two_pow h5 (pow_lt60 hlt)), hd]
  unfold bitsFrom
  rw [List.foldl_cons, Nat.zero_add, Int.toNat_natCast]
theorem set_f {w h : Int} {a u : List Int} (hf : figB w h a u = true) (ha : a.length ≤ 1000000) (hu : u.length ≤ 1000000) (k : Nat) (hk : 2000010 < k) : impl_Figure_set.f k w h a u = some ((figMask w h a u : Nat) : Int) := by
 unfold figB at hf
 simp only [Bool.and_eq_true] at hf
 obtain ⟨hg, -, -, hi1, hi2⟩ := hf
 obtain ⟨b1, b2, b3, b4⟩ := grid_bounds (by simp only [Bool.and_eq_true]; exact hg)
 obtain ⟨c1, c2, c3, c4⟩ := area_bounds b1 b2 b3 b4
 have e1 : wrap64 (h + 1) = h + 1 := by unfold wrap64; omega
 have e3 : wrap64 (w * (h + 1)) = w * (h + 1) := by unfold wrap64; omega
 unfold impl_Figure_set.f figMask
 have q := set_l0 w h a u (by omega) (by omega) (by rw [e1, e3]) (by omega) (by omega) (fun k hk => by have := inB_mem hi1 k hk; omega) (fun k hk => by have := inB_mem hi2 k hk; omega) a.length k 0 0 (by omega) (by omega) (by clear hi1 hi2; omega) (by decide)
 rw [List.drop_zero] at q
 exact q


def bits_OnesCount64.f (a0 : Int) : Option (Int) := some (Go.bits .and .i64 (wrap64 (IntKind.u64.wrap ((IntKind.u64.wrap ((IntKind.u64.wrap ((Go.bits .and .u64 (IntKind.u64.wrap (((IntKind.u64.wrap ((Go.bits .and .u64 ((IntKind.u64.wrap ((Go.bits .and .u64 (a0 / 2) 6148914691236517205) + (Go.bits .and .u64 a0 6148914691236517205))) / 4) 3689348814741910323) + (Go.bits .and .u64 (IntKind.u64.wrap ((Go.bits .and .u64 (a0 / 2) 6148914691236517205) + (Go.bits .and .u64 a0 6148914691236517205))) 3689348814741910323))) / 16) + (IntKind.u64.wrap ((Go.bits .and .u64 ((IntKind.u64.wrap ((Go.bits .and .u64 (a0 / 2) 6148914691236517205) + (Go.bits .and .u64 a0 6148914691236517205))) / 4) 3689348814741910323) + (Go.bits .and .u64 (IntKind.u64.wrap ((Go.bits .and .u64 (a0 / 2) 6148914691236517205) + (Go.bits .and .u64 a0 6148914691236517205))) 3689348814741910323))))) 1085102592571150095) + ((Go.bits .and .u64 (IntKind.u64.wrap (((IntKind.u64.wrap ((Go.bits .and .u64 ((IntKind.u64.wrap ((Go.bits .and .u64 (a0 / 2) 6148914691236517205) + (Go.bits .and .u64 a0 6148914691236517205))) / 4) 3689348814741910323) + (Go.bits .and .u64 (IntKind.u64.wrap ((Go.bits .and .u64 (a0 / 2) 6148914691236517205) + (Go.bits .and .u64 a0 6148914691236517205))) 3689348814741910323))) / 16) + (IntKind.u64.wrap ((Go.bits .and .u64 ((IntKind.u64.wrap ((Go.bits .and .u64 (a0 / 2) 6148914691236517205) + (Go.bits .and .u64 a0 6148914691236517205))) / 4) 3689348814741910323) + (Go.bits .and .u64 (IntKind.u64.wrap ((Go.bits .and .u64 (a0 / 2) 6148914691236517205) + (Go.bits .and .u64 a0 6148914691236517205))) 3689348814741910323))))) 1085102592571150095) / 256))) + ((IntKind.u64.wrap ((Go.bits .and .u64 (IntKind.u64.wrap (((IntKind.u64.wrap ((Go.bits .and .u64 ((IntKind.u64.wrap ((Go.bits .and .u64 (a0 / 2) 6148914691236517205) + (Go.bits .and .u64 a0 6148914691236517205))) / 4) 3689348814741910323) + (Go.bits .and .u64 (IntKind.u64.wrap ((Go.bits .and .u64 (a0 / 2) 6148914691236517205) + (Go.bits .and .u64 a0 6148914691236517205))) 3689348814741910323))) / 16) + (IntKind.u64.wrap ((Go.bits .and .u64 ((IntKind.u64.wrap ((Go.bits .and .u64 (a0 / 2) 6148914691236517205) + (Go.bits .and .u64 a0 6148914691236517205))) / 4) 3689348814741910323) + (Go.bits .and .u64 (IntKind.u64.wrap ((Go.bits .and .u64 (a0 / 2) 6148914691236517205) + (Go.bits .and .u64 a0 6148914691236517205))) 3689348814741910323))))) 1085102592571150095) + ((Go.bits .and .u64 (IntKind.u64.wrap (((IntKind.u64.wrap ((Go.bits .and .u64 ((IntKind.u64.wrap ((Go.bits .and .u64 (a0 / 2) 6148914691236517205) + (Go.bits .and .u64 a0 6148914691236517205))) / 4) 3689348814741910323) + (Go.bits .and .u64 (IntKind.u64.wrap ((Go.bits .and .u64 (a0 / 2) 6148914691236517205) + (Go.bits .and .u64 a0 6148914691236517205))) 3689348814741910323))) / 16) + (IntKind.u64.wrap ((Go.bits .and .u64 ((IntKind.u64.wrap ((Go.bits .and .u64 (a0 / 2) 6148914691236517205) + (Go.bits .and .u64 a0 6148914691236517205))) / 4) 3689348814741910323) + (Go.bits .and .u64 (IntKind.u64.wrap ((Go.bits .and .u64 (a0 / 2) 6148914691236517205) + (Go.bits .and .u64 a0 6148914691236517205))) 3689348814741910323))))) 1085102592571150095) / 256))) / 65536))) + ((IntKind.u64.wrap ((IntKind.u64.wrap ((Go.bits .and .u64 (IntKind.u64.wrap (((IntKind.u64.wrap ((Go.bits .and .u64 ((IntKind.u64.wrap ((Go.bits .and .u64 (a0 / 2) 6148914691236517205) + (Go.bits .and .u64 a0 6148914691236517205))) / 4) 3689348814741910323) + (Go.bits .and .u64 (IntKind.u64.wrap ((Go.bits .and .u64 (a0 / 2) 6148914691236517205) + (Go.bits .and .u64 a0 6148914691236517205))) 3689348814741910323))) / 16) + (IntKind.u64.wrap ((Go.bits .and .u64 ((IntKind.u64.wrap ((Go.bits .and .u64 (a0 / 2) 6148914691236517205) + (Go.bits .and .u64 a0 6148914691236517205))) / 4) 3689348814741910323) + (Go.bits .and .u64 (IntKind.u64.wrap ((Go.bits .and .u64 (a0 / 2) 6148914691236517205) + (Go.bits .and .u64 a0 6148914691236517205))) 3689348814741910323))))) 1085102592571150095) + ((Go.bits .and .u64 (IntKind.u64.wrap (((IntKind.u64.wrap ((Go.bits .and .u64 ((IntKind.u64.wrap ((Go.bits .and .u64 (a0 / 2) 6148914691236517205) + (Go.bits .and .u64 a0 6148914691236517205))) / 4) 3689348814741910323) + (Go.bits .and .u64 (IntKind.u64.wrap ((Go.bits .and .u64 (a0 / 2) 6148914691236517205) + (Go.bits .and .u64 a0 6148914691236517205))) 3689348814741910323))) / 16) + (IntKind.u64.wrap ((Go.bits .and .u64 ((IntKind.u64.wrap ((Go.bits .and .u64 (a0 / 2) 6148914691236517205) + (Go.bits .and .u64 a0 6148914691236517205))) / 4) 3689348814741910323) + (Go.bits .and .u64 (IntKind.u64.wrap ((Go.bits .and .u64 (a0 / 2) 6148914691236517205) + (Go.bits .and .u64 a0 6148914691236517205))) 3689348814741910323))))) 1085102592571150095) / 256))) + ((IntKind.u64.wrap ((Go.bits .and .u64 (IntKind.u64.wrap (((IntKind.u64.wrap ((Go.bits .and .u64 ((IntKind.u64.wrap ((Go.bits .and .u64 (a0 / 2) 6148914691236517205) + (Go.bits .and .u64 a0 6148914691236517205))) / 4) 3689348814741910323) + (Go.bits .and .u64 (IntKind.u64.wrap ((Go.bits .and .u64 (a0 / 2) 6148914691236517205) + (Go.bits .and .u64 a0 6148914691236517205))) 3689348814741910323))) / 16) + (IntKind.u64.wrap ((Go.bits .and .u64 ((IntKind.u64.wrap ((Go.bits .and .u64 (a0 / 2) 6148914691236517205) + (Go.bits .and .u64 a0 6148914691236517205))) / 4) 3689348814741910323) + (Go.bits .and .u64 (IntKind.u64.wrap ((Go.bits .and .u64 (a0 / 2) 6148914691236517205) + (Go.bits .and .u64 a0 6148914691236517205))) 3689348814741910323))))) 1085102592571150095) + ((Go.bits .and .u64 (IntKind.u64.wrap (((IntKind.u64.wrap ((Go.bits .and .u64 ((IntKind.u64.wrap ((Go.bits .and .u64 (a0 / 2) 6148914691236517205) + (Go.bits .and .u64 a0 6148914691236517205))) / 4) 3689348814741910323) + (Go.bits .and .u64 (IntKind.u64.wrap ((Go.bits .and .u64 (a0 / 2) 6148914691236517205) + (Go.bits .and .u64 a0 6148914691236517205))) 3689348814741910323))) / 16) + (IntKind.u64.wrap ((Go.bits .and .u64 ((IntKind.u64.wrap ((Go.bits .and .u64 (a0 / 2) 6148914691236517205) + (Go.bits .and .u64 a0 6148914691236517205))) / 4) 3689348814741910323) + (Go.bits .and .u64 (IntKind.u64.wrap ((Go.bits .and .u64 (a0 / 2) 6148914691236517205) + (Go.bits .and .u64 a0 6148914691236517205))) 3689348814741910323))))) 1085102592571150095) / 256))) / 65536))) / 4294967296)))) 127)

def t1 (b : Nat) : Nat := (b / 2 &&& 85) + (b &&& 85)
def t2 (b : Nat) : Nat := (b / 4 &&& 51) + (b &&& 51)

theorem R_lit0 {α : Type} (d : Kd α) (e : Nat) (W : World) (base : Nat) (hb : base ≤ W.heap.size) : d.R e (W.alloc (.cells #[] e)) base (fun k => k = W.heap.size) (.slice (some ⟨W.heap.size, 0, none⟩) 0 0) ([] : List α) := by
  refine ⟨fun k hk => by simpa [Value.ownBlock] using hk.symm, [], ?_, Reps.none _ _⟩
  have h := World.ownsRow_lit (base := base) (e := e) (size := d.sz) W #[] 0 hb (by simp [maxLen]) (by simp)
  simpa using h
theorem lit1_C {α : Type} (enc : α → Value) (h1 : ∀ x, (enc x).oneCell' = true) (e : Nat) (W : World) (x : α) : (Kd.scalar enc h1).C (W.alloc (.cells #[enc x] e)) (some ⟨W.heap.size, 0, none⟩) 1 [x] := by
  refine Kd.C_of_reads (enc := enc) (d := x) (h1 := h1) ⟨rfl, by omega, fun _ => ⟨_, rfl, fun j hj => ?_⟩⟩
  obtain rfl : j = 0 := by omega
  exact World.cell?_alloc_at _ _ _ _ rfl

def bitsN (s : Nat) : List Nat := (List.range 64).filter fun i => s.testBit i
theorem filter_first {p q : Nat → Bool} {k n : Nat} (hk : k < n) (hp : p k = true) (h0 : ∀ i, i < k → p i = false) (hq : ∀ i, q i = (p i && !(i == k))) : (List.range n).filter p = k :: (List.range n).filter q := by
  have e : List.range n = List.range k ++ k :: List.range' (k + 1) (n - k - 1) := by
    rw [List.range_eq_range', List.range_eq_range', show k :: List.range' (k + 1) (n - k - 1) = List.range' k (n - k - 1 + 1) from (List.range'_succ (s := k) (n := n - k - 1) (step := 1)).symm]
    have := List.range'_append_1 (s := 0) (m := k) (n := n - k - 1 + 1)
    rw [Nat.zero_add] at this
    rw [this]
    congr 1
    omega
  rw [e, List.filter_append, List.filter_append, List.filter_cons_of_pos hp, List.filter_cons_of_neg (by rw [hq]; simp)]
  have a1 : (List.range k).filter p = [] := by
    rw [List.filter_eq_nil_iff]; intro i hi; rw [h0 i (List.mem_range.1 hi)]; simp
  have a2 : (List.range k).filter q = [] := by
    rw [List.filter_eq_nil_iff]; intro i hi; rw [hq, h0 i (List.mem_range.1 hi)]; simp
  rw [a1, a2, List.nil_append, List.nil_append]
  congr 1
  apply List.filter_congr
  intro i hi
  rw [hq]
  have : i ≠ k := by
    rw [List.mem_range'_1] at hi; omega
  simp [this]
theorem low_bits (s : Nat) (h0 : s ≠ 0) (h : s < 2 ^ 60) : Lib.ctz 64 s < 60 ∧ s.testBit (Lib.ctz 64 s) = true ∧ (∀ i, i < Lib.ctz 64 s → s.testBit i = false) ∧ (∀ i, (s &&& (s - 1)).testBit i = (s.testBit i && !(i == Lib.ctz 64 s))) ∧ s &&& (s - 1) < s := by
  obtain ⟨m, hm, hk⟩ := Lib.ctzFrom_spec 64 s (by omega) (Nat.lt_of_lt_of_le h (by decide))
  have e : Lib.ctz 64 s = Lib.ctzFrom 64 s := by unfold Lib.ctz; rw [if_neg h0]
  rw [e]
  generalize Lib.ctzFrom 64 s = k at hm hk
  have hp : 0 < 2 ^ k := Nat.two_pow_pos k
  have hs1 : s - 1 = 2 ^ k * (2 * m) + (2 ^ k - 1) := by
    rw [hm, Nat.mul_add]; omega
  have t1 : ∀ i, s.testBit i = (decide (k ≤ i) && (2 * m + 1).testBit (i - k)) := fun i => by rw [hm, Nat.testBit_two_pow_mul]
  have t2 : ∀ i, (s - 1).testBit i = if i < k then (2 ^ k - 1).testBit i else (2 * m).testBit (i - k) := fun i => by rw [hs1, Nat.testBit_two_pow_mul_add _ (by omega)]
  have odd0 : (2 * m + 1).testBit 0 = true := by simp
  refine ⟨?_, ?_, ?_, ?_, ?_⟩
  · rcases Nat.lt_or_ge k 60 with hlt | hge
    · exact hlt
    · exfalso
      have h1 : 2 ^ 60 ≤ 2 ^ k := Nat.pow_le_pow_right (by omega) hge
      have h2 : 2 ^ k * 1 ≤ 2 ^ k * (2 * m + 1) := Nat.mul_le_mul_left _ (by omega)
      omega
  · rw [t1]; simp
  · intro i hi; rw [t1]; simp; omega
  · intro i
    rw [Nat.testBit_and, t1, t2]
    rcases Nat.lt_trichotomy i k with hi | hi | hi
    · simp [show ¬ k ≤ i by omega]
    · subst hi; simp
    · obtain ⟨j, hj⟩ : ∃ j, i - k = j + 1 := ⟨i - k - 1, by omega⟩
      rw [if_neg (by omega), hj, Nat.testBit_succ, Nat.testBit_succ, show (2 * m + 1) / 2 = m by omega, show 2 * m / 2 = m by omega]
      simp [show k ≤ i by omega, show i ≠ k by omega]
  · have := Nat.and_le_right (n := s) (m := s - 1)
    omega
theorem bitsN_step (s : Nat) (h0 : s ≠ 0) (h : s < 2 ^ 60) : bitsN s = Lib.ctz 64 s :: bitsN (s &&& (s - 1)) := by
  obtain ⟨h1, h2, h3, h4, _⟩ := low_bits s h0 h
  exact filter_first (by omega) h2 h3 h4
theorem bitsN_zero : bitsN 0 = [] := by decide
theorem bitsN_len (s : Nat) : (bitsN s).length ≤ 64 := Nat.le_trans (List.length_filter_le _ _) (by simp)
def bitsI (s : Nat) : List Int := (bitsN s).map fun n : Nat => (n : Int)
theorem bitsI_len (s : Nat) : (bitsI s).length ≤ 64 := by unfold bitsI; rw [List.length_map]; exact bitsN_len s
set_option maxRecDepth 100000 in
set_option maxHeartbeats 4000000 in
theorem listed_any (s : Nat) (hs : s < 2 ^ 60) (w : World) (hT : TB w) :
    Calls Tryd.prog 89 #[.int .u64 s] w fun e w' => ∃ v, e = .returned v ∧ Kd.R (Kd.int .i64) 3 w' w.heap.size (fun _ => True) v (bitsI s) ∧ Below w.heap.size w w' := by
  have HT := Aside0.mk hT
  have hi5 : (Tryd.prog.info? 3).map (fun i => (i.zero, i.size, i.bytes)) = some (some (.int .i64 0), 1, 8) := by kernel_rfl
  have R0 : Aside0 (Kd.R (Kd.int .i64) 3 (w.alloc (.cells #[] 3)) w.heap.size (fun _ => True) (.slice (some ⟨w.heap.size, 0, none⟩) 0 0) []) := ⟨Kd.R_mono (R_lit0 (Kd.int .i64) 3 w w.heap.size (Nat.le_refl _)) (fun _ _ => trivial)⟩
  have B0 := Aside0.mk (below_alloc (Below.refl w.heap.size w) (.cells #[] 3))
  have S0 : Aside0 (([] : List Int) ++ bitsI s = bitsI s ∧ s < 2 ^ 60) := ⟨rfl, hs⟩
  clear hT hs
  go_enter Tryd.func89, Tryd.ntmps89
  go_wp2_with fail
  go_loopg [0, 3] s (fun gg u0 u3 wr => ∃ (t : Nat) (acc : List Int), t ≤ gg ∧ u0 = .int .u64 t ∧ Aside0 (acc ++ bitsI t = bitsI s ∧ t < 2 ^ 60) ∧ Aside0 (Kd.R (Kd.int .i64) 3 wr w.heap.size (fun _ => True) u3 acc) ∧ Aside0 (Below w.heap.size w wr))
  case atStart => exact ⟨s, [], Nat.le_refl _, rfl, S0, R0, B0⟩
  case round =>
    clear S0 R0 B0
    obtain ⟨t, acc, hgg, rfl, HS, HO, HB⟩ := hrel
    by_cases ht : t = 0
    · subst ht
      have HF : Aside0 (acc = bitsI s) := ⟨by have h := HS.out.1; rw [show bitsI 0 = [] from by unfold bitsI; rw [bitsN_zero]; rfl, List.append_nil] at h; exact h⟩
      go_wp2_with fail
      go_ret
      exact ⟨_, rfl, by rw [← HF.out]; exact HO.out, HB.out⟩
    · have ht60 := HS.out.2
      have hlen : acc.length ≤ 64 := by
        have h := congrArg List.length HS.out.1
        have := bitsI_len s
        simp at h
        omega
      obtain ⟨-, -, -, -, hlt⟩ := low_bits t ht ht60
      have hstep := bitsN_step t ht ht60
      have hgt : decide (0 < (t : Int)) = true := by simp; omega
      have hsub : IntKind.u64.wrap ((t : Int) - 1) = ((t - 1 : Nat) : Int) := by rw [IntKind.wrap_u64]; omega
      have hand : bits BinOp.and IntKind.u64 (t : Int) ((t - 1 : Nat) : Int) = ((t &&& (t - 1) : Nat) : Int) := bits_and_u64_nat t (t - 1) (by omega) (by omega)
      have HS2 : Aside0 ((acc ++ [(Lib.ctz 64 t : Int)]) ++ bitsI (t &&& (t - 1)) = bitsI s ∧ t &&& (t - 1) < 2 ^ 60) := ⟨by rw [← HS.out.1]; unfold bitsI; rw [hstep]; simp, by omega⟩
      have HTZ := Aside0.mk (fun W (h : TB W) => tz_any t ht60 ht W h)
      have HL := Aside0.mk hlen
      have HT1 := Aside0.mk (HT.out.below HB.out)
      clear ht60 hlen hstep HS
      generalize Lib.ctz 64 t = z at HS2 HTZ
      go_wp2_with (first
        | (go_at_call 126; refine (HTZ.out _ HT1.out).mono ?_; rintro e w' ⟨rfl, rfl⟩)
        | (at_builtin; refine Kd.R_append_row (w0 := w) (h1 := fun _ => rfl) (Value.int .i64) (0 : Int) w.heap.size rfl _ _ _ _ _ 8 rfl Tryd.underlying22 hi5 rfl (by decide) u3 acc [(z : Int)] _ 1 _ (fun _ => True) rfl rfl (fun _ _ => trivial) ?xA ?xB ?xC ?xD ?xE ?_; (case xA => exact Kd.R_alloc HO.out _); (case xB => exact lit1_C (Value.int .i64) _ _ wr _); (case xC => exact below_alloc HB.out _); (case xD => have h_ := HB.out.size; simp; omega); (case xE => have h_ := HL.out; omega); intro v1 w1 ho hb hg hat; have HO1 := Aside0.mk ho; have HB1 := Aside0.mk hb; clear ho hb hg hat))
      go_roundg (t &&& (t - 1))
      case measure => omega
      case rel => exact ⟨t &&& (t - 1), acc ++ [(z : Int)], Nat.le_refl _, rfl, HS2, HO1, HB1⟩
def impl_set_listed.f (a0 : Int) : Option (List Int) := if 0 ≤ a0 ∧ a0 < 1152921504606846976 then some (bitsI a0.toNat) else none
theorem impl_set_listed.calls (a0 : Int) (r : List Int) (w : World) (hT_ : TB w) (h : impl_set_listed.f a0 = some r) :
    Calls Tryd.prog 89 #[.int .u64 a0] w fun e w' => ∃ v0_ : Value, e = .returned v0_ ∧ Kd.R (Kd.int .i64) 3 w' w.heap.size (fun _ => True) v0_ r ∧ Below w.heap.size w w' := by
  unfold impl_set_listed.f at h
  split at h
  · rename_i h0
    obtain rfl := Option.some.inj h
    obtain ⟨n, rfl⟩ := Int.eq_ofNat_of_zero_le h0.1
    rw [Int.toNat_natCast]
    exact listed_any n (by have h2 : (2 : Nat) ^ 60 = 1152921504606846976 := by decide
                           have := h0.2; omega) w hT_
  · cases h


def impl_grid_figure.f (a0_0 : Int) (a0_1 : Int) (a1 : Int) : Option (Int × Int × List Int × List Int) := (impl_grid_levels.f a0_0 a0_1).bind fun t143 => (if 0 ≤ t143 then ((impl_set_listed.f (Go.bits .and .u64 a1 (IntKind.u64.wrap ((shl .u64 1 t143) - 1)))).bind fun t144 => ((impl_grid_levels.f a0_0 a0_1).bind fun t147 => (if 0 ≤ t147 then ((impl_set_listed.f (shr .u64 a1 t147)).bind fun t148 => (some (a0_0, a0_1, t144, t148))) else (none)))) else (none))
def impl_grid_figure.T2 : Bool × List (List Nat × List Nat) := (true, [([], []), ([0], [0]), ([], []), ([2], [2]), ([], []), ([], []), ([4, 5], [4, 5]), ([6], [6]), ([], []), ([], []), ([9, 7], [9]), ([8, 10], [8, 10]), ([11, 10], [11]), ([1, 3, 7, 12], [1, 3, 7, 12]), ([13, 12, 0, 1, 2, 3, 4, 5, 6, 7, 8, 9, 10, 11, 12, 13], [13])])
def impl_grid_figure.B2 : List Nat := [0, 1, 0, 4, 0, 0, 48, 112, 0, 0, 752, 2032, 4080, 8191, 16383]
theorem impl_grid_figure.tab2 : rtab .any (opsOf Tryd.f56 2) = impl_grid_figure.T2 := by kernel_rfl
theorem impl_grid_figure.bits2 : waitsOk impl_grid_figure.T2.2 impl_grid_figure.B2 = true := by kernel_rfl
set_option maxHeartbeats 8000000 in
set_option maxRecDepth 100000 in
theorem impl_grid_figure.calls (a0_0 : Int) (a0_1 : Int) (a1 : Int) (r1 : Int) (r2 : Int) (r3 : List Int) (r4 : List Int) (w : World) (hT_ : TB w) (h : impl_grid_figure.f a0_0 a0_1 a1 = some (r1, r2, r3, r4)) :
  Calls Tryd.prog 56 #[.agg #[.int .i64 a0_0, .int .i64 a0_1], .int .u64 a1] w fun e w' => ∃ v2_ v3_ : Value, e = .returned (.agg #[.int .i64 r1, .int .i64 r2, v2_, v3_]) ∧ Kd.R (Kd.int .i64) 3 w' w.heap.size (fun k_ => some k_ ≠ (v3_ : Value).ownBlock) v2_ r3 ∧ Kd.R (Kd.int .i64) 3 w' w.heap.size (fun k_ => some k_ ≠ (v2_ : Value).ownBlock) v3_ r4 ∧ Below w.heap.size w w' := by
 have hu75 := Tryd.underlying75
 have hu36 := Tryd.underlying36
 have HB := Aside0.mk (Below.refl w.heap.size w)
 have HTB := Aside0.mk hT_
 clear hT_
 have H : ((impl_grid_levels.f a0_0 a0_1).bind fun t143 => (if 0 ≤ t143 then ((impl_set_listed.f (Go.bits .and .u64 a1 (IntKind.u64.wrap ((shl .u64 1 t143) - 1)))).bind fun t144 => ((impl_grid_levels.f a0_0 a0_1).bind fun t147 => (if 0 ≤ t147 then ((impl_set_listed.f (shr .u64 a1 t147)).bind fun t148 => (some (a0_0, a0_1, t144, t148))) else (none)))) else (none))) = some (r1, r2, r3, r4) := h
 clear h
 replace H := Option.bind_eq_some_iff.mp H
 obtain ⟨t143, A30, H⟩ := H
 replace H : (if 0 ≤ t143 then ((impl_set_listed.f (Go.bits .and .u64 a1 (IntKind.u64.wrap ((shl .u64 1 t143) - 1)))).bind fun t144 => ((impl_grid_levels.f a0_0 a0_1).bind fun t147 => (if 0 ≤ t147 then ((impl_set_listed.f (shr .u64 a1 t147)).bind fun t148 => (some (a0_0, a0_1, t144, t148))) else (none)))) else (none)) = some (r1, r2, r3, r4) := H
 have A3 := Aside0.mk A30
 clear A30
 by_cases c4 : 0 ≤ t143
 ·rw [if_pos c4] at H
  have c4b0 := eq_true c4
  have c4b1 : decide (0 ≤ t143) = true := decide_eq_true c4
  clear c4
  obtain ⟨ji5, hji5⟩ : ∃ j_ : Int, (shl .u64 1 t143) = j_ := ⟨_, rfl⟩
  replace H : ((impl_set_listed.f (Go.bits .and .u64 a1 (IntKind.u64.wrap ((ji5) - 1)))).bind fun t144 => ((impl_grid_levels.f a0_0 a0_1).bind fun t147 => (if 0 ≤ t147 then ((impl_set_listed.f (shr .u64 a1 t147)).bind fun t148 => (some (a0_0, a0_1, t144, t148))) else (none)))) = some (r1, r2, r3, r4) := by first | (rw [hji5] at H; exact H) | (simp only [hji5] at H ⊢; exact H)
  (try rw [hji5] at A3)
  have hji5_ : (IntKind.u64.wrap (1 * 2 ^ min t143.toNat 64)) = ji5 := hji5
  have hji5z : t143 ≤ 64 → (IntKind.u64.wrap (1 * 2 ^ t143.toNat)) = ji5 := shl_small hji5
  have hji5u : (IntKind.u64.wrap (2 ^ min t143.toNat 64)) = ji5 := by have h_ := hji5_; rw [Int.one_mul] at h_; exact h_
  have hji5v : t143 ≤ 64 → (IntKind.u64.wrap (2 ^ t143.toNat)) = ji5 := fun hle_ => by have h_ := hji5z hle_; rw [Int.one_mul] at h_; exact h_
  replace H := Option.bind_eq_some_iff.mp H
  obtain ⟨t144, A60, H⟩ := H
  replace H : ((impl_grid_levels.f a0_0 a0_1).bind fun t147 => (if 0 ≤ t147 then ((impl_set_listed.f (shr .u64 a1 t147)).bind fun t148 => (some (a0_0, a0_1, t144, t148))) else (none))) = some (r1, r2, r3, r4) := H
  have A6 := Aside0.mk A60
  clear A60
  replace H := Option.bind_eq_some_iff.mp H
  obtain ⟨t147, A70, H⟩ := H
  replace H : (if 0 ≤ t147 then ((impl_set_listed.f (shr .u64 a1 t147)).bind fun t148 => (some (a0_0, a0_1, t144, t148))) else (none)) = some (r1, r2, r3, r4) := H
  have A7 := Aside0.mk A70
  clear A70
  by_cases c8 : 0 ≤ t147
  ·rw [if_pos c8] at H
   have c8b0 := eq_true c8
   have c8b1 : decide (0 ≤ t147) = true := decide_eq_true c8
   clear c8
   obtain ⟨ji9, hji9⟩ : ∃ j_ : Int, (shr .u64 a1 t147) = j_ := ⟨_, rfl⟩
   replace H : ((impl_set_listed.f (ji9)).bind fun t148 => (some (a0_0, a0_1, t144, t148))) = some (r1, r2, r3, r4) := by first | (rw [hji9] at H; exact H) | (simp only [hji9] at H ⊢; exact H)
   (try rw [hji9] at A3)
   (try rw [hji9] at A6)
   (try rw [hji9] at A7)
   have hji9_ : (a1 / 2 ^ min t147.toNat 64) = ji9 := hji9
   have hji9z : t147 ≤ 64 → (a1 / 2 ^ t147.toNat) = ji9 := shr_small hji9
   replace H := Option.bind_eq_some_iff.mp H
   obtain ⟨t148, A100, H⟩ := H
   replace H : (some (a0_0, a0_1, t144, t148)) = some (r1, r2, r3, r4) := H
   have A10 := Aside0.mk A100
   clear A100
   simp only [Option.some.injEq, Prod.mk.injEq] at H
   obtain ⟨rfl, rfl, rfl, rfl⟩ := H
   go_enter Tryd.func56, Tryd.ntmps56
   try go_wp2_with (first | ((with_reducible refine gate_dst (N := 2) rfl ?_); refine boxE_ (N := 2) (cs := #[.int .i64 a0_0, .int .i64 a0_1]) (t := 75) ?_; intro gb141 hg w11 hbox hb; have n0_ := Aside0.mk (below_step (bl0_ HB.out) hb); have n1_ := Aside0.mk (hbox); have n2_ := Aside0.mk ((bs0_ hg HB.out : w.heap.size ≤ gb141)); have n3_ := Aside0.mk ((bs0_ hg HB.out : w.heap.size ≤ gb141)); clear HB; have HB := n0_; have BK141 := n1_; have GW141 := n2_; have GE141 := n3_; clear n0_ n1_ n2_ n3_; clear hb hbox hg) | ((with_reducible refine gate_dst (N := 4) rfl ?_); refine boxE_ (N := 4) (cs := #[.int .i64 0, .int .i64 0, .slice none 0 0, .slice none 0 0]) (t := 36) ?_; intro gb142 hg w12 hbox hb; have n0_ := Aside0.mk (bb_ BK141.out hb); have n1_ := Aside0.mk (below_step (bl1_ HB.out GE141.out) hb); have n2_ := Aside0.mk (hbox); have n3_ := Aside0.mk ((bs1_ hg HB.out GE141.out : w.heap.size ≤ gb142)); have n4_ := Aside0.mk ((bs1_ hg HB.out GE141.out : w.heap.size ≤ gb142)); have n5_ := Aside0.mk ((nl_ hg BK141.out : gb141 ≠ gb142)); have n6_ := Aside0.mk ((ng_ hg BK141.out : gb142 ≠ gb141)); clear BK141; clear HB; have BK141 := n0_; have HB := n1_; have BK142 := n2_; have GW142 := n3_; have GE142 := n4_; have NB141_142 := n5_; have NB142_141 := n6_; clear n0_ n1_ n2_ n3_ n4_ n5_ n6_; clear hb hbox hg; have hnb13 := NB141_142.out; have hnc13 := NB142_141.out; have hcz14_0 : w12.cell? ⟨gb141, 0, none⟩ = some (.int .i64 a0_0) := (blk_cell BK141.out 0).trans rfl; have hcz14_1 : w12.cell? ⟨gb141, 1, none⟩ = some (.int .i64 a0_1) := (blk_cell BK141.out 1).trans rfl; have hfz14_0 := blk_frozen BK141.out 0; have hfz14_1 := blk_frozen BK141.out 1) | ((with_reducible refine gate_callee (f := 101) rfl ?_); refine goesL_ (some 7) rfl rfl Tryd.func101 (by kernel_rfl) rfl #[.agg #[.int .i64 a0_0, .int .i64 a0_1]] rfl ob_ ?_; (with_reducible refine (impl_grid_levels.calls a0_0 a0_1 t143 _ A3.out).mono ?_); rintro e w15 ⟨rfl, hb⟩; refine ⟨_, rfl, ?_⟩; have n0_ := Aside0.mk (bb_ BK141.out hb); have n1_ := Aside0.mk (bb_ BK142.out hb); have n2_ := Aside0.mk (below_step (bl2_ HB.out GE141.out GE142.out) hb); clear BK141; clear BK142; clear HB; have BK141 := n0_; have BK142 := n1_; have HB := n2_; clear n0_ n1_ n2_; (try clear hb); (try clear hb2); (try clear hk); (try clear hi)))
   have n0_ := Aside0.mk (blk_drew BK141.out)
   have n1_ := Aside0.mk (blk_drew BK142.out)
   have n2_ := Aside0.mk (below_drew1 HB.out)
   clear BK141
   clear BK142
   clear HB
   have BK141 := n0_
   have BK142 := n1_
   have HB := n2_
   clear n0_ n1_ n2_
   refine start_ (n := 15) (S := fun w' => w'.cell? ⟨gb141, 0, none⟩ = some (.int .i64 a0_0) ∧ w'.cell? ⟨gb141, 1, none⟩ = some (.int .i64 a0_1)) (ds := []) #[false, false, false, false, false, false, false, false, false, false, false, false, false, false, false] (by kernel_rfl) rfl rfl ⟨(blk_cell BK141.out 0).trans rfl, (blk_cell BK141.out 1).trans rfl⟩ (fun hHeld => ?_); refine with_tabW impl_grid_figure.tab2 impl_grid_figure.bits2 (fun HT_ HW_ => ?_)
   generalize w15.drew = w16 at BK141 BK142 HB hHeld ⊢
   refine pure_ (i := 0) (N := some 10) (v := ?_) (a' := ?_) #[true, false, false, false, false, false, false, false, false, false, false, false, false, false, false] rfl rfl (any_of HT_.out (by kernel_rfl)) (fun _ _ _ h => h) (Or.inl ⟨by rfl, ?_⟩) ?_ ?_
   rotate_left
   ·intro w'
    go_simp
    with_reducible rfl
   rotate_left
   ·simp only [Act.put, List.setIfInBounds_toArray, List.set_cons_zero, List.set_cons_succ, i64_w, i32_w]
    rfl
   refine pure_ (i := 2) (N := some 12) (v := ?_) (a' := ?_) #[true, false, true, false, false, false, false, false, false, false, false, false, false, false, false] rfl rfl (any_of HT_.out (by kernel_rfl)) (fun _ _ _ h => h) (Or.inl ⟨by rfl, ?_⟩) ?_ ?_
   rotate_left
   ·intro w'
    go_simp
    with_reducible rfl
   rotate_left
   ·simp only [Act.put, List.setIfInBounds_toArray, List.set_cons_zero, List.set_cons_succ, i64_w, i32_w]
    rfl
   refine pure_ (i := 4) (N := some 14) (v := ?_) (a' := ?_) #[true, false, true, false, true, false, false, false, false, false, false, false, false, false, false] rfl rfl (any_of HT_.out (by kernel_rfl)) (fun _ _ _ h => h) (Or.inl ⟨by rfl, ?_⟩) ?_ ?_
   rotate_left
   ·intro w'
    go_simp
    with_reducible rfl
   rotate_left
   ·simp only [Act.put, List.setIfInBounds_toArray, List.set_cons_zero, List.set_cons_succ, i64_w, i32_w]
    rfl
   refine pure_ (i := 5) (N := some 15) (v := ?_) (a' := ?_) #[true, false, true, false, true, true, false, false, false, false, false, false, false, false, false] rfl rfl (any_of HT_.out (by kernel_rfl)) (fun _ _ _ h => h) (Or.inl ⟨by rfl, ?_⟩) ?_ ?_
   rotate_left
   ·intro w'
    go_simp
    with_reducible rfl
   rotate_left
   ·simp only [Act.put, List.setIfInBounds_toArray, List.set_cons_zero, List.set_cons_succ, i64_w, i32_w]
    rfl
   refine pure_ (i := 6) (N := some 16) (v := ?_) (a' := ?_) #[true, false, true, false, true, true, true, false, false, false, false, false, false, false, false] rfl rfl (any_of HT_.out (by kernel_rfl)) (fun _ _ _ h => h) (Or.inl ⟨by rfl, ?_⟩) ?_ ?_
   rotate_left
   ·intro w'
    go_simp
    with_reducible rfl
   rotate_left
   ·simp only [Act.put, List.setIfInBounds_toArray, List.set_cons_zero, List.set_cons_succ, i64_w, i32_w]
    rfl
   refine pure_ (i := 8) (N := some 18) (v := ?_) (a' := ?_) #[true, false, true, false, true, true, true, false, true, false, false, false, false, false, false] rfl rfl (any_of HT_.out (by kernel_rfl)) (fun _ _ _ h => h) (Or.inl ⟨by rfl, ?_⟩) ?_ ?_
   rotate_left
   ·intro w'
    go_simp
    with_reducible rfl
   rotate_left
   ·simp only [Act.put, List.setIfInBounds_toArray, List.set_cons_zero, List.set_cons_succ, i64_w, i32_w]
    rfl
   refine take_ (i := 1) (N := some 11) (v := ?_) (a' := ?_) #[true, true, true, false, true, true, true, false, true, false, false, false, false, false, false] rfl rfl (take_ofW HT_.out HW_.out (by kernel_rfl)) (fun _ _ _ h => h) (Or.inl ⟨by rfl, ?_⟩) hHeld ?_ ?_
   rotate_left
   ·rintro w' ⟨s0, s1⟩
    go_simp
    with_reducible rfl
   rotate_left
   ·simp only [Act.put, List.setIfInBounds_toArray, List.set_cons_zero, List.set_cons_succ, i64_w, i32_w]
    rfl
   refine take_ (i := 3) (N := some 13) (v := ?_) (a' := ?_) #[true, true, true, true, true, true, true, false, true, false, false, false, false, false, false] rfl rfl (take_ofW HT_.out HW_.out (by kernel_rfl)) (fun _ _ _ h => h) (Or.inl ⟨by rfl, ?_⟩) hHeld ?_ ?_
   rotate_left
   ·rintro w' ⟨s0, s1⟩
    go_simp
    with_reducible rfl
   rotate_left
   ·simp only [Act.put, List.setIfInBounds_toArray, List.set_cons_zero, List.set_cons_succ, i64_w, i32_w]
    rfl
   refine take_ (i := 9) (N := some 19) (v := ?_) (a' := ?_) #[true, true, true, true, true, true, true, false, true, true, false, false, false, false, false] rfl rfl (take_ofW HT_.out HW_.out (by kernel_rfl)) (fun _ _ _ h => h) (Or.inl ⟨by rfl, ?_⟩) hHeld ?_ ?_
   rotate_left
   ·rintro w' ⟨s0, s1⟩
    go_simp
    with_reducible rfl
   rotate_left
   ·simp only [Act.put, List.setIfInBounds_toArray, List.set_cons_zero, List.set_cons_succ, i64_w, i32_w]
    rfl
   refine one_ (i := 7) (N := some 17) #[true, true, true, true, true, true, true, true, true, true, false, false, false, false, false] rfl rfl (one_of HT_.out (by kernel_rfl)) (by decide) (fun K hK => ?_)
   refine goes_ Tryd.func89 (by kernel_rfl) rfl #[.int .u64 (Go.bits .and .u64 a1 (IntKind.u64.wrap ((ji5) - 1)))] (by rfl) rfl rfl (by (try simp only [List.map_toArray, List.map_cons, List.map_nil]); first | done | (simp only [hji5]; rfl) | rfl | (simp only [List.length_drop, List.length_take]; rfl)) ?_
   with_reducible refine (impl_set_listed.calls (Go.bits .and .u64 a1 (IntKind.u64.wrap ((ji5) - 1))) t144 _ (TB.below HTB.out (bl2_ HB.out GE141.out GE142.out)) A6.out).mono ?_
   rintro e w17 ⟨v145, rfl, ho0, hb⟩
   refine ⟨_, rfl, ?_⟩
   have n0_ := Aside0.mk (Kd.R_lower ho0 (below_size (bl2_ HB.out GE141.out GE142.out)))
   have n1_ := Aside0.mk (bb_ BK141.out hb)
   have n2_ := Aside0.mk (bb_ BK142.out hb)
   have n3_ := Aside0.mk (below_step (bl2_ HB.out GE141.out GE142.out) hb)
   clear BK141
   clear BK142
   clear HB
   have HO146 := n0_
   have BK141 := n1_
   have BK142 := n2_
   have HB := n3_
   clear n0_ n1_ n2_ n3_
   (try clear hb)
   (try clear hb2)
   (try clear hk)
   (try clear hi)
   (try clear ho0)
   refine hK.out _ _ ⟨(blk_cell BK141.out 0).trans rfl, (blk_cell BK141.out 1).trans rfl⟩ (fun hHeld => ?_)
   clear hK K
   refine norm_ (a' := ?_) ?_ ?_
   rotate_left
   ·show Act.put _ (some 17) _ = _
    simp only [Act.put, List.setIfInBounds_toArray, List.set_cons_zero, List.set_cons_succ, i64_w, i32_w]
    rfl
   refine one_ (i := 10) (N := some 20) #[true, true, true, true, true, true, true, true, true, true, true, false, false, false, false] rfl rfl (one_of HT_.out (by kernel_rfl)) (by decide) (fun K hK => ?_)
   refine goes_ Tryd.func101 (by kernel_rfl) rfl #[.agg #[.int .i64 a0_0, .int .i64 a0_1]] (by rfl) rfl rfl ob_ ?_
   with_reducible refine (impl_grid_levels.calls a0_0 a0_1 t147 _ A7.out).mono ?_
   rintro e w18 ⟨rfl, hb⟩
   refine ⟨_, rfl, ?_⟩
   have n0_ := Aside0.mk (Kd.R_below (kr_ HO146.out) hb)
   have n1_ := Aside0.mk (bb_ BK141.out hb)
   have n2_ := Aside0.mk (bb_ BK142.out hb)
   have n3_ := Aside0.mk (below_step (bl2_ HB.out GE141.out GE142.out) hb)
   clear HO146
   clear BK141
   clear BK142
   clear HB
   have HO146 := n0_
   have BK141 := n1_
   have BK142 := n2_
   have HB := n3_
   clear n0_ n1_ n2_ n3_
   (try clear hb)
   (try clear hb2)
   (try clear hk)
   (try clear hi)
   refine hK.out _ _ ⟨(blk_cell BK141.out 0).trans rfl, (blk_cell BK141.out 1).trans rfl⟩ (fun hHeld => ?_)
   clear hK K
   refine norm_ (a' := ?_) ?_ ?_
   rotate_left
   ·show Act.put _ (some 20) _ = _
    simp only [Act.put, List.setIfInBounds_toArray, List.set_cons_zero, List.set_cons_succ, i64_w, i32_w]
    rfl
   refine pure_ (i := 11) (N := some 21) (v := ?_) (a' := ?_) #[true, true, true, true, true, true, true, true, true, true, true, true, false, false, false] rfl rfl (any_of HT_.out (by kernel_rfl)) (fun _ _ _ h => h) (Or.inl ⟨by rfl, ?_⟩) ?_ ?_
   rotate_left
   ·intro w'
    go_simp
    with_reducible rfl
   rotate_left
   ·simp only [Act.put, List.setIfInBounds_toArray, List.set_cons_zero, List.set_cons_succ, i64_w, i32_w]
    rfl
   refine one_ (i := 12) (N := some 22) #[true, true, true, true, true, true, true, true, true, true, true, true, true, false, false] rfl rfl (one_of HT_.out (by kernel_rfl)) (by decide) (fun K hK => ?_)
   refine goes_ Tryd.func89 (by kernel_rfl) rfl #[.int .u64 ji9] (by rfl) rfl rfl (by (try simp only [List.map_toArray, List.map_cons, List.map_nil]); first | done | (simp only [hji9]; rfl) | rfl | (simp only [List.length_drop, List.length_take]; rfl)) ?_
   with_reducible refine (impl_set_listed.calls ji9 t148 _ (TB.below HTB.out (bl2_ HB.out GE141.out GE142.out)) A10.out).mono ?_
   rintro e w19 ⟨v149, rfl, ho0, hb⟩
   refine ⟨_, rfl, ?_⟩
   have n0_ := Aside0.mk (Kd.R_elder' (kr_ HO146.out) (Kd.R_base ho0) hb)
   have n1_ := Aside0.mk (Kd.R_lower (Kd.R_new' ho0 (Kd.R_lt (kr_ HO146.out))) (below_size (bl2_ HB.out GE141.out GE142.out)))
   have n2_ := Aside0.mk (bb_ BK141.out hb)
   have n3_ := Aside0.mk (bb_ BK142.out hb)
   have n4_ := Aside0.mk (below_step (bl2_ HB.out GE141.out GE142.out) hb)
   clear HO146
   clear BK141
   clear BK142
   clear HB
   have HO146 := n0_
   have HO150 := n1_
   have BK141 := n2_
   have BK142 := n3_
   have HB := n4_
   clear n0_ n1_ n2_ n3_ n4_
   (try clear hb)
   (try clear hb2)
   (try clear hk)
   (try clear hi)
   (try clear ho0)
   obtain ⟨Ao20, co20, eo20⟩ := Kd.R_slice HO150.out
   (first | subst eo20 | (injection eo20 with f1_ f2_ f3_; have f4_ := f1_.symm; have f5_ := f3_.symm; clear f1_ f2_ f3_; subst f4_; subst f5_))
   obtain ⟨Ao21, co21, eo21⟩ := Kd.R_slice HO146.out
   (first | subst eo21 | (injection eo21 with f1_ f2_ f3_; have f4_ := f1_.symm; have f5_ := f3_.symm; clear f1_ f2_ f3_; subst f4_; subst f5_))
   refine hK.out _ _ ⟨(blk_cell BK141.out 0).trans rfl, (blk_cell BK141.out 1).trans rfl⟩ (fun hHeld => ?_)
   clear hK K
   refine norm_ (a' := ?_) ?_ ?_
   rotate_left
   ·show Act.put _ (some 22) _ = _
    simp only [Act.put, List.setIfInBounds_toArray, List.set_cons_zero, List.set_cons_succ, i64_w, i32_w]
    rfl
   refine pure_ (i := 13) (N := some 23) (v := ?_) (a' := ?_) #[true, true, true, true, true, true, true, true, true, true, true, true, true, true, false] rfl rfl (any_of HT_.out (by kernel_rfl)) (fun _ _ _ h => h) (Or.inl ⟨by rfl, ?_⟩) ?_ ?_
   rotate_left
   ·intro w'
    go_simp
    with_reducible rfl
   rotate_left
   ·simp only [Act.put, List.setIfInBounds_toArray, List.set_cons_zero, List.set_cons_succ, i64_w, i32_w]
    rfl
   refine one_ (i := 14) (N := none) #[true, true, true, true, true, true, true, true, true, true, true, true, true, true, true] rfl rfl (one_of HT_.out (by kernel_rfl)) (by decide) (fun K hK => ?_)
   have hs22 : w19.cell? ⟨gb142, 0, none⟩ = some (.int .i64 0) := (blk_cell BK142.out 0).trans rfl
   have hfs22 := blk_frozen BK142.out 0
   have hns22_0 := NB141_142.out
   have hms22_0 := NB142_141.out
   have hs23 : w19.cell? ⟨gb142, 1, none⟩ = some (.int .i64 0) := (blk_cell BK142.out 1).trans rfl
   have hfs23 := blk_frozen BK142.out 1
   have hns23_0 := NB141_142.out
   have hms23_0 := NB142_141.out
   have hs24 : w19.cell? ⟨gb142, 2, none⟩ = some (.slice none 0 0) := (blk_cell BK142.out 2).trans rfl
   have hfs24 := blk_frozen BK142.out 2
   have hns24_0 := NB141_142.out
   have hms24_0 := NB142_141.out
   have hs25 : w19.cell? ⟨gb142, 3, none⟩ = some (.slice none 0 0) := (blk_cell BK142.out 3).trans rfl
   have hfs25 := blk_frozen BK142.out 3
   have hns25_0 := NB141_142.out
   have hms25_0 := NB142_141.out
   refine skip_ (w1 := ?_) (by rfl) rfl ?_ ?_
   rotate_left
   ·go_simp
    rfl
   refine hK.out _ _ ⟨((cell_far (p := ⟨gb142, _, none⟩) NB141_142.out _).trans (((cell_far (p := ⟨gb142, _, none⟩) NB141_142.out _).trans (((cell_far (p := ⟨gb142, _, none⟩) NB141_142.out _).trans (((cell_far (p := ⟨gb142, _, none⟩) NB141_142.out _).trans (hHeld.1)))))))), ((cell_far (p := ⟨gb142, _, none⟩) NB141_142.out _).trans (((cell_far (p := ⟨gb142, _, none⟩) NB141_142.out _).trans (((cell_far (p := ⟨gb142, _, none⟩) NB141_142.out _).trans (((cell_far (p := ⟨gb142, _, none⟩) NB141_142.out _).trans (hHeld.2))))))))⟩ (fun hHeld => ?_)
   clear hK K
   refine done_ (done_of HT_.out (by kernel_rfl)) ?_
   try go_wp2
   refine bodyPost_ret (results_cell_row rfl _ _ gb142 36 #[.int .i64 a0_0, .int .i64 a0_1, .slice Ao21 t144.length co21, .slice Ao20 t148.length co20] (0, 0) _ rfl (by (with_reducible repeat (first | refine blk_drewN ?_ _ | refine blk_drew ?_ | refine blk_alloc ?_ _)); refine blk_put (cs := #[.int .i64 a0_0, .int .i64 a0_1, .slice Ao21 t144.length co21, .slice none 0 0]) ?_ 3 _ rfl; (with_reducible repeat (first | refine blk_drewN ?_ _ | refine blk_drew ?_ | refine blk_alloc ?_ _)); refine blk_put (cs := #[.int .i64 a0_0, .int .i64 a0_1, .slice none 0 0, .slice none 0 0]) ?_ 2 _ rfl; (with_reducible repeat (first | refine blk_drewN ?_ _ | refine blk_drew ?_ | refine blk_alloc ?_ _)); refine blk_put (cs := #[.int .i64 a0_0, .int .i64 0, .slice none 0 0, .slice none 0 0]) ?_ 1 _ rfl; (with_reducible repeat (first | refine blk_drewN ?_ _ | refine blk_drew ?_ | refine blk_alloc ?_ _)); refine blk_put (cs := #[.int .i64 0, .int .i64 0, .slice none 0 0, .slice none 0 0]) ?_ 0 _ rfl; (with_reducible repeat (first | refine blk_drewN ?_ _ | refine blk_drew ?_ | refine blk_alloc ?_ _)); exact BK142.out) Tryd.underlying36 rfl (by kernel_rfl)) rfl ?_
   exact ⟨_, _, by first | rfl | (simp [errW_none, errW_some] <;> rfl) | (simp only [← hji5, ← hji9]; first | rfl | (simp [errW_none, errW_some] <;> rfl)) | (simp [*, errW_none, errW_some] <;> rfl), by (with_reducible repeat (first | apply Kd.R_alloc | apply Kd.R_drewN | apply Kd.R_drew)); exact Kd.R_mono (Kd.R_far (p := ⟨gb142, 3, none⟩) (Kd.R_far (p := ⟨gb142, 2, none⟩) (Kd.R_far (p := ⟨gb142, 1, none⟩) (Kd.R_far (p := ⟨gb142, 0, none⟩) (Kd.R_types HO146.out BK142.out (by decide)) (fun _ hk => hk.2) (.int .i64 a0_0)) (fun _ hk => hk.2) (.int .i64 a0_1)) (fun _ hk => hk.2) (.slice Ao21 t144.length co21)) (fun _ hk => hk.2) (.slice Ao20 t148.length co20)) (fun _ hk => hk.1.2), by (with_reducible repeat (first | apply Kd.R_alloc | apply Kd.R_drewN | apply Kd.R_drew)); exact Kd.R_mono (Kd.R_far (p := ⟨gb142, 3, none⟩) (Kd.R_far (p := ⟨gb142, 2, none⟩) (Kd.R_far (p := ⟨gb142, 1, none⟩) (Kd.R_far (p := ⟨gb142, 0, none⟩) (Kd.R_types HO150.out BK142.out (by decide)) (fun _ hk => hk.2) (.int .i64 a0_0)) (fun _ hk => hk.2) (.int .i64 a0_1)) (fun _ hk => hk.2) (.slice Ao21 t144.length co21)) (fun _ hk => hk.2) (.slice Ao20 t148.length co20)) (fun _ hk => hk.1.2), bl2_ HB.out GE141.out GE142.out⟩
  ·rw [if_neg c8] at H
   exact absurd H (by simp)
 ·rw [if_neg c4] at H
  exact absurd H (by simp)


structure FrameBut (O : Nat → Prop) (w w' : World) : Prop where
  os : w'.os = w.os
  tape : w'.tape = w.tape
  output : w'.output = w.output
  size : w.heap.size ≤ w'.heap.size
  block : ∀ k, k < w.heap.size → ¬ O k → w'.heap[k]? = w.heap[k]?
theorem FrameBut.refl (O : Nat → Prop) (w : World) : FrameBut O w w := ⟨rfl, rfl, rfl, Nat.le_refl _, fun _ _ _ => rfl⟩
theorem FrameBut.trans {O O1 : Nat → Prop} {w w1 w2 : World} (h : FrameBut O w w1) (k : FrameBut O1 w1 w2) (hO : ∀ k, O1 k → O k ∨ w.heap.size ≤ k) : FrameBut O w w2 :=
  ⟨k.os.trans h.os, k.tape.trans h.tape, k.output.trans h.output, Nat.le_trans h.size k.size, fun i hi hn => (k.block i (Nat.lt_of_lt_of_le hi h.size) (fun h1 => (hO i h1).elim hn (fun h2 => absurd hi (Nat.not_lt.2 h2)))).trans (h.block i hi hn)⟩
theorem FrameBut.mono {O O1 : Nat → Prop} {w w1 : World} (h : FrameBut O w w1) (hO : ∀ k, k < w.heap.size → O k → O1 k) : FrameBut O1 w w1 :=
  ⟨h.os, h.tape, h.output, h.size, fun i hi hn => h.block i hi (fun h1 => hn (hO i hi h1))⟩
theorem FrameBut.of_below {O : Nat → Prop} {w w1 : World} (h : Below w.heap.size w w1) : FrameBut O w w1 := ⟨h.os, h.tape, h.output, h.size, fun i hi _ => h.block i hi⟩
theorem FrameBut.below {O : Nat → Prop} {w w1 w2 : World} (h : FrameBut O w w1) (k : Below w1.heap.size w1 w2) : FrameBut O w w2 := h.trans (FrameBut.of_below (O := O) k) (fun _ h => .inl h)
theorem FrameBut.alloc {O : Nat → Prop} {w w1 : World} (h : FrameBut O w w1) (o : Obj) : FrameBut O w (w1.alloc o) := h.below (below_alloc (Below.refl _ _) o)
theorem FrameBut.drew {O : Nat → Prop} {w w1 : World} (h : FrameBut O w w1) : FrameBut O w w1.drew := h.below (below_drew (Below.refl _ _))
theorem FrameBut.drewN {O : Nat → Prop} {w w1 : World} (h : FrameBut O w w1) (n : Nat) : FrameBut O w (w1.drewN n) := h.below (pw_below_drewN (Below.refl _ _) n)
theorem FrameBut.grown {O : Nat → Prop} {w w1 w2 : World} {row : Option Nat} (h : FrameBut O w w1) (hg : w1.grownBy w2 row) (hr : ∀ k, row = some k → O k ∨ w.heap.size ≤ k) : FrameBut O w w2 :=
  h.trans (O1 := fun k => row = some k) ⟨hg.os, hg.tape, hg.output, hg.size, fun k hk hn => hg.block k hk (fun e => hn e.symm)⟩ hr
theorem FrameBut.setCell {O : Nat → Prop} {w w1 : World} (h : FrameBut O w w1) {p : Addr} (hp : O p.block ∨ w.heap.size ≤ p.block) (u : Value) : FrameBut O w (w1.setCell p u) :=
  h.trans (O1 := fun k => k = p.block) ⟨rfl, rfl, rfl, by simp [World.setCell], fun k _ hn => Below.heap_setCell _ _ _ _ hn⟩ (fun k e => by rw [e]; exact hp)
theorem FrameBut.toBelow {O : Nat → Prop} {w w1 : World} {B : Nat} (h : FrameBut O w w1) (hB : B ≤ w.heap.size) (hO : ∀ k, k < B → ¬ O k) : Below B w w1 :=
  ⟨h.os, h.tape, h.output, h.size, fun k hk => h.block k (Nat.lt_of_lt_of_le hk hB) (hO k hk)⟩
theorem FrameBut.cell {O : Nat → Prop} {w w1 : World} (h : FrameBut O w w1) {b i : Nat} {v : Value} (hc : w.cell? ⟨b, i, none⟩ = some v) (hn : ¬ O b) : w1.cell? ⟨b, i, none⟩ = some v :=
  (World.cell?_of_block (w := w) (a := ⟨b, i, none⟩) (h.block b (World.block_lt_of_cell? w _ hc) hn)).trans hc
structure CB (P : Program) (g : Nat) (lb : Array Value) {α : Type} (en : α → Value) (good : α → Prop) (max : Nat) (Inv : List α → (Nat → Prop) → World → Prop) : Prop where
  call : ∀ acc O W x, acc.length < max → good x → Inv acc O W → Calls P g (#[en x] ++ lb) W fun e w' => e = .returned (.tuple #[]) ∧ ∃ O', Inv (acc ++ [x]) O' w' ∧ FrameBut O W w' ∧ ∀ k, O' k → O k ∨ W.heap.size ≤ k
  move : ∀ acc O W W', Inv acc O W → W.heap.size ≤ W'.heap.size → W'.os = W.os → W'.tape = W.tape → W'.output = W.output → (∀ k, O k → W'.heap[k]? = W.heap[k]?) → Inv acc O W'
  lt : ∀ acc O W, Inv acc O W → ∀ k, O k → k < W.heap.size
theorem CB.frame {P : Program} {g : Nat} {lb : Array Value} {α : Type} {en : α → Value} {good : α → Prop} {max : Nat} {Inv : List α → (Nat → Prop) → World → Prop} (C : CB P g lb en good max Inv) {acc : List α} {O O1 : Nat → Prop} {W W' : World}
    (h : Inv acc O W) (hf : FrameBut O1 W W') (hd : ∀ k, O k → ¬ O1 k) : Inv acc O W' := C.move acc O W W' h hf.size hf.os hf.tape hf.output (fun k hk => hf.block k (C.lt acc O W h k hk) (hd k hk))
theorem CB.below {P : Program} {g : Nat} {lb : Array Value} {α : Type} {en : α → Value} {good : α → Prop} {max : Nat} {Inv : List α → (Nat → Prop) → World → Prop} (C : CB P g lb en good max Inv) {acc : List α} {O : Nat → Prop} {W W' : World}
    (h : Inv acc O W) (hb : Below W.heap.size W W') : Inv acc O W' := C.move acc O W W' h hb.size hb.os hb.tape hb.output (fun k hk => hb.block k (C.lt acc O W h k hk))


def spec_fiEdge.f (a0_0 : Int) (a0_1 : Int) (l0_2 : List Int) (l0_3 : List Int) (a1 : Bool) (a2 : Int) (a3 : Int) : Option (Int × Bool) := if a1 = true then ((spec_l1In.f a2 0 a0_0).bind fun t306 => (if t306 = true then ((spec_l1In.f a3 0 (wrap64 (a0_1 - 1))).bind fun t307 => (some (wrap64 ((wrap64 (a3 * (wrap64 (a0_0 + 1)))) + a2), t307))) else (some (wrap64 ((wrap64 (a3 * (wrap64 (a0_0 + 1)))) + a2), false)))) else ((spec_l1In.f a2 0 (wrap64 (a0_0 - 1))).bind fun t308 => (if t308 = true then ((spec_l1In.f a3 0 a0_1).bind fun t309 => (some (wrap64 ((wrap64 (a3 * a0_0)) + a2), t309))) else (some (wrap64 ((wrap64 (a3 * a0_0)) + a2), false))))

def spec_l1Has.l0 : Nat → Int → List Int → Int → Int → Option (Bool)
  | 0, _, _, _, _ => none
  | k + 1, x1, x7, x8, x9 => if x9 < x8 then (if 0 ≤ x9 then (if x9 < (x7.length : Int) then (if (rd x7 x9) = x1 then (some true) else (spec_l1Has.l0 k x1 x7 x8 (wrap64 (x9 + 1)))) else (none)) else (none)) else (some false)
def spec_l1Has.f (k : Nat) (l0 : List Int) (a1 : Int) : Option (Bool) := spec_l1Has.l0 k a1 l0 (l0.length : Int) 0
theorem spec_l1Has.mono_l : ∀ k, (∀ y0 y1 y2 y3, LeO (spec_l1Has.l0 k y0 y1 y2 y3) (spec_l1Has.l0 (k + 1) y0 y1 y2 y3))
  | 0 => fun _ _ _ _ r h => by simp [spec_l1Has.l0] at h
  | k + 1 => by
    have ih0 := spec_l1Has.mono_l k
    · intro y0 y1 y2 y3
      unfold spec_l1Has.l0
      repeat' first
      | (with_reducible exact ih0 _ _ _ _)
      | (with_reducible exact LeO.refl _)
      | (with_reducible exact LeO.none _)
      | (with_reducible refine LeO.ite ?_ ?_)
      | (with_reducible refine LeO.bind ?_ (fun _ => ?_))
      | exact ih0 _ _ _ _
      | exact LeO.none _
      | refine LeO.ite ?_ ?_
      | refine LeO.bind ?_ (fun _ => ?_)
theorem spec_l1Has.mono : ∀ a0 a1 k, LeO (spec_l1Has.f k a0 a1) (spec_l1Has.f (k + 1) a0 a1) := by
  intro a0 a1 k
  have ih0 := spec_l1Has.mono_l k
  unfold spec_l1Has.f
  repeat' first
      | (with_reducible exact ih0 _ _ _ _)
      | (with_reducible exact LeO.refl _)
      | (with_reducible exact LeO.none _)
      | (with_reducible refine LeO.ite ?_ ?_)
      | (with_reducible refine LeO.bind ?_ (fun _ => ?_))
      | exact ih0 _ _ _ _
      | exact LeO.none _
      | refine LeO.ite ?_ ?_
      | refine LeO.bind ?_ (fun _ => ?_)

def spec_fiHas.f (k : Nat) (a0_0 : Int) (a0_1 : Int) (l0_2 : List Int) (l0_3 : List Int) (a1 : Bool) (a2 : Int) (a3 : Int) : Option (Bool) := (spec_fiEdge.f a0_0 a0_1 l0_2 l0_3 a1 a2 a3).bind fun bt312 => (if a1 = true then ((spec_l1Has.f k l0_3 bt312.1).bind fun t314 => (some t314)) else ((spec_l1Has.f k l0_2 bt312.1).bind fun t315 => (some t315)))
theorem spec_fiHas.mono : ∀ a0 a1 a2 a3 a4 a5 a6 k, LeO (spec_fiHas.f k a0 a1 a2 a3 a4 a5 a6) (spec_fiHas.f (k + 1) a0 a1 a2 a3 a4 a5 a6) := by
  intro a0 a1 a2 a3 a4 a5 a6 k
  unfold spec_fiHas.f
  repeat' first
      | (with_reducible exact spec_l1Has.mono _ _ _)
      | (with_reducible exact LeO.refl _)
      | (with_reducible exact LeO.none _)
      | (with_reducible refine LeO.ite ?_ ?_)
      | (with_reducible refine LeO.bind ?_ (fun _ => ?_))
      | exact spec_l1Has.mono _ _ _
      | exact LeO.none _
      | refine LeO.ite ?_ ?_
      | refine LeO.bind ?_ (fun _ => ?_)

structure GridOK (w h : Int) : Prop where
  w1 : 1 ≤ w
  w4 : w ≤ 4
  h1 : 1 ≤ h
  h4 : h ≤ 4
theorem gridOK_of {w h : Int} {a u : List Int} (hf : figB w h a u = true) : GridOK w h := by
  unfold figB at hf
  simp only [Bool.and_eq_true] at hf
  obtain ⟨b1, b2, b3, b4⟩ := grid_bounds (by simp only [Bool.and_eq_true]; exact hf.1)
  exact ⟨b1, b2, b3, b4⟩
theorem prod_b {w y : Int} (h1 : 1 ≤ w) (h4 : w ≤ 5) (hy : 0 ≤ y) (hy4 : y ≤ 4) : 0 ≤ y * w ∧ y * w ≤ 20 := by
  have : y = 0 ∨ y = 1 ∨ y = 2 ∨ y = 3 ∨ y = 4 := by omega
  rcases this with rfl | rfl | rfl | rfl | rfl <;> omega
theorem level_f {w h x y : Int} (g : GridOK w h) (hx : 0 ≤ x) (hx4 : x ≤ 4) (hy : 0 ≤ y) (hy4 : y ≤ 4) : impl_grid_level.f w h x y = some ((2 ^ (y * w + x).toNat : Nat) : Int) := by
  obtain ⟨p1, p2⟩ := prod_b g.w1 (by have := g.w4; omega) hy hy4
  have e1 : wrap64 (y * w) = y * w := by unfold wrap64; omega
  have e2 : wrap64 (y * w + x) = (((y * w + x).toNat : Nat) : Int) := by unfold wrap64; omega
  unfold impl_grid_level.f
  rw [e1, e2, if_pos (Int.natCast_nonneg _), shl_u64 _ (by omega)]
theorem upright_f {w h x y : Int} (g : GridOK w h) (hx : 0 ≤ x) (hx4 : x ≤ 4) (hy : 0 ≤ y) (hy4 : y ≤ 4) : impl_grid_upright.f w h x y = some ((2 ^ ((w * (h + 1)).toNat + (y * (w + 1) + x).toNat) : Nat) : Int) := by
  obtain ⟨p1, p2⟩ := prod_b (w := w + 1) (by have := g.w1; omega) (by have := g.w4; omega) hy hy4
  obtain ⟨c1, c2, -, -⟩ := area_bounds g.w1 g.w4 g.h1 g.h4
  have w1 := g.w1
  have w4 := g.w4
  have h1 := g.h1
  have h4 := g.h4
  have e0 : wrap64 (h + 1) = h + 1 := by unfold wrap64; omega
  have e1 : wrap64 (w + 1) = w + 1 := by unfold wrap64; omega
  have e2 : wrap64 (w * (h + 1)) = w * (h + 1) := by unfold wrap64; omega
  have e3 : wrap64 (y * (w + 1)) = y * (w + 1) := by unfold wrap64; omega
  have e4 : wrap64 (w * (h + 1) + y * (w + 1)) = w * (h + 1) + y * (w + 1) := by unfold wrap64; omega
  have e5 : wrap64 (w * (h + 1) + y * (w + 1) + x) = (((w * (h + 1)).toNat + (y * (w + 1) + x).toNat : Nat) : Int) := by unfold wrap64; omega
  unfold impl_grid_upright.f impl_grid_levels.f
  rw [Option.bind_some, e0, e1, e2, e3, e4, e5, if_pos (Int.natCast_nonneg _), shl_u64 _ (by omega)]
theorem and_two (e m : Nat) : 2 ^ e &&& m = if m.testBit e = true then 2 ^ e else 0 := by
  apply Nat.eq_of_testBit_eq
  intro i
  rw [Nat.testBit_and, Nat.testBit_two_pow]
  by_cases h : m.testBit e = true
  · rw [if_pos h, Nat.testBit_two_pow]
    by_cases hi : e = i
    · subst hi; simp [h]
    · simp [hi]
  · rw [if_neg h, Nat.zero_testBit]
    by_cases hi : e = i
    · subst hi; simpa using h
    · simp [hi]


def joinB (xs : List ByteArray) (sep : ByteArray) : ByteArray := ⟨(Lib.join (xs.map (·.data.toList)) sep.data.toList).toArray⟩
theorem Join_any (xs : List ByteArray) (sep : ByteArray) (hn : xs.length ≤ 1000) (hl : (Lib.join (xs.map (·.data.toList)) sep.data.toList).length ≤ 140737488355328) (W : World) (base : Nat) (ok : Nat → Prop) (A : Option Addr) (c : Nat) (hR : Kd.R Kd.string 9 W base ok (.slice A xs.length c) xs) :
    Calls Tryd.prog 105 #[.slice A xs.length c, .string sep] W fun e w' => e = .returned (.string (joinB xs sep)) ∧ Below W.heap.size W w' := by
  rcases Nat.eq_zero_or_pos xs.length with h0 | h0
  · have hx : xs = [] := List.eq_nil_of_length_eq_zero h0
    subst hx
    refine (Tryd.strings_Join_none A c sep W).mono ?_
    rintro e w' ⟨rfl, rfl⟩
    exact ⟨rfl, Below.refl _ _⟩
  · obtain ⟨g, c', e, gb, gl, cl, HG⟩ := Kd.R_form hR h0
    injection e with e1 e2 e3
    subst e1
    have hr := (Kd.R_reads' hR).2.2
    exact Tryd.strings_Join g 0 c xs sep W (fun j x hj => by
      obtain ⟨hjl, hjx⟩ := List.getElem?_eq_some_iff.1 hj
      obtain ⟨ad, ea, hx⟩ := Kd.at_string hr (j : Int) (by omega) (by omega)
      cases ea
      rw [Int.toNat_natCast] at hx
      have hq : rdOf ByteArray.empty xs (j : Int) = x := by unfold rdOf; rw [Int.toNat_natCast, List.getD_eq_getElem?_getD, hj]; rfl
      rw [hq] at hx
      rw [Nat.zero_add]
      first | exact hx | simpa [add_plain] using hx) gl (by omega) (Kd.R_reads' hR).2.1 hl

end Go.Proofs.YtehjfaddhmdicaaDoor.P
