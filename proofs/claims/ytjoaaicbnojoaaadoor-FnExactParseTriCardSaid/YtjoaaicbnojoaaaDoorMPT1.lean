/- For every input the law FnExactParseTri answers true: the program tells what the reference tells; no condition. (part 1 of the proof; the words of the kit's print tool and the texts of this seat, merged by a program) -/
import Derived.ArgAppend
import Derived.Below
import Derived.BigQuiet
import Derived.Deep.AppendLies
import Derived.Deep.CutBlock
import Derived.Deep.DeepCutAuto
import Derived.Deep.Draws
import Derived.Deep.LoopGhost
import Derived.Deep.OwnRows
import Derived.Deep.QuietTactic
import Derived.Deep.RegionHeld3
import Derived.DeepKeys4
import Derived.IntWalk
import Derived.KernelRfl
import Derived.Laws.Bits64b
import Derived.Laws.BitsLemmas
import Derived.Laws.BytesArg
import Derived.Laws.IdiomCopy
import Derived.Laws.MakeOwn
import Derived.Laws.OwnMore
import Derived.Laws.Rows
import Derived.Laws.Slices
import Derived.Lib.AppendStr
import Derived.Lib.ConvBytes
import Derived.Lib.CountLaws
import Derived.Lib.SlBytesConst
import Derived.Lib.SplitLaws
import Derived.Lib.TrailingZeros
import Derived.Maps.AppendAt
import Derived.Maps.OwnSet
import Derived.OrdersHeld
import Derived.OwnWalk
import Derived.RowKit
import Derived.RowKit3
import Derived.Shelf.Abstract
import Derived.Shelf.Strings.SlTrimAscii
import Derived.Shelf.Strings.Split
import Derived.Tactics
import Derived.Test.YtjoaaicbnojoaaaDoorProg
import Derived.Test.YtjoaaicbnojoaaaDoorPshelf
import Derived.WalkKit
import Derived.WideLaws
import Derived.Test.YtjoaaicbnojoaaaDoorMPT0
namespace Go.Proofs.YtjoaaicbnojoaaaDoor.P
open Go.RowKit Go.Proofs.YtjoaaicbnojoaaaDoorW.PrintWords Go.Proofs.YtjoaaicbnojoaaaDoorW.PrintLast Go.Proofs.YtjoaaicbnojoaaaDoorW.PrintMore
attribute [local go_sem] max2_int min2_int max_two min_two max_three min_three max_four min_four   -- for this text's walks alone
set_option linter.unusedVariables false
set_option linter.unusedSimpArgs false



def errW : Option Int → Value
  | none => .nilIface
  | some c => .iface 0 (.int .i64 c)
theorem errW_none : errW none = .nilIface := rfl
theorem errW_some (c : Int) : errW (some c) = .iface 0 (.int .i64 c) := rfl

theorem info3 : (Tryd.prog.info? 3).map (fun i => (i.zero, i.size, i.bytes)) = some (some (.int .i64 0), 1, 8) := by kernel_rfl
structure S121 where
  f0 : Int
  f1 : Int
  f2 : Int
  f3 : Int
structure S117 where
  f0 : Int
  f1 : Int
  f2 : Int
  f3 : Int
end Go.Proofs.YtjoaaicbnojoaaaDoor.P
namespace Go.Proofs.YtjoaaicbnojoaaaDoor.P
open Go.RowKit Go.Proofs.YtjoaaicbnojoaaaDoorW.PrintWords Go.Proofs.YtjoaaicbnojoaaaDoorW.PrintLast Go.Proofs.YtjoaaicbnojoaaaDoorW.PrintMore
theorem bk_ {A B : Prop} (a_ : A) (h : A → B := by (intro a_; (with_reducible repeat (first | refine blk_drewN ?_ _ | refine blk_drew ?_ | refine blk_alloc ?_ _)); exact a_)) : B := h a_
theorem bf1_ {A B N1 : Prop} (n1_ : N1) (a_ : A) (h : N1 → A → B := by (intro n1_ a_; (with_reducible repeat (first | refine blk_drewN ?_ _ | refine blk_drew ?_ | refine blk_alloc ?_ _)); refine blk_far ?_ n1_ _; (with_reducible repeat (first | refine blk_drewN ?_ _ | refine blk_drew ?_ | refine blk_alloc ?_ _)); exact a_)) : B := h n1_ a_
theorem bf2_ {A B N1 N2 : Prop} (n1_ : N1) (n2_ : N2) (a_ : A) (h : N1 → N2 → A → B := by (intro n1_ n2_ a_; (with_reducible repeat (first | refine blk_drewN ?_ _ | refine blk_drew ?_ | refine blk_alloc ?_ _)); refine blk_far ?_ n1_ _; (with_reducible repeat (first | refine blk_drewN ?_ _ | refine blk_drew ?_ | refine blk_alloc ?_ _)); refine blk_far ?_ n2_ _; (with_reducible repeat (first | refine blk_drewN ?_ _ | refine blk_drew ?_ | refine blk_alloc ?_ _)); exact a_)) : B := h n1_ n2_ a_
theorem bf3_ {A B N1 N2 N3 : Prop} (n1_ : N1) (n2_ : N2) (n3_ : N3) (a_ : A) (h : N1 → N2 → N3 → A → B := by (intro n1_ n2_ n3_ a_; (with_reducible repeat (first | refine blk_drewN ?_ _ | refine blk_drew ?_ | refine blk_alloc ?_ _)); refine blk_far ?_ n1_ _; (with_reducible repeat (first | refine blk_drewN ?_ _ | refine blk_drew ?_ | refine blk_alloc ?_ _)); refine blk_far ?_ n2_ _; (with_reducible repeat (first | refine blk_drewN ?_ _ | refine blk_drew ?_ | refine blk_alloc ?_ _)); refine blk_far ?_ n3_ _; (with_reducible repeat (first | refine blk_drewN ?_ _ | refine blk_drew ?_ | refine blk_alloc ?_ _)); exact a_)) : B := h n1_ n2_ n3_ a_
theorem bf4_ {A B N1 N2 N3 N4 : Prop} (n1_ : N1) (n2_ : N2) (n3_ : N3) (n4_ : N4) (a_ : A) (h : N1 → N2 → N3 → N4 → A → B := by (intro n1_ n2_ n3_ n4_ a_; (with_reducible repeat (first | refine blk_drewN ?_ _ | refine blk_drew ?_ | refine blk_alloc ?_ _)); refine blk_far ?_ n1_ _; (with_reducible repeat (first | refine blk_drewN ?_ _ | refine blk_drew ?_ | refine blk_alloc ?_ _)); refine blk_far ?_ n2_ _; (with_reducible repeat (first | refine blk_drewN ?_ _ | refine blk_drew ?_ | refine blk_alloc ?_ _)); refine blk_far ?_ n3_ _; (with_reducible repeat (first | refine blk_drewN ?_ _ | refine blk_drew ?_ | refine blk_alloc ?_ _)); refine blk_far ?_ n4_ _; (with_reducible repeat (first | refine blk_drewN ?_ _ | refine blk_drew ?_ | refine blk_alloc ?_ _)); exact a_)) : B := h n1_ n2_ n3_ n4_ a_
theorem bf5_ {A B N1 N2 N3 N4 N5 : Prop} (n1_ : N1) (n2_ : N2) (n3_ : N3) (n4_ : N4) (n5_ : N5) (a_ : A) (h : N1 → N2 → N3 → N4 → N5 → A → B := by (intro n1_ n2_ n3_ n4_ n5_ a_; (with_reducible repeat (first | refine blk_drewN ?_ _ | refine blk_drew ?_ | refine blk_alloc ?_ _)); refine blk_far ?_ n1_ _; (with_reducible repeat (first | refine blk_drewN ?_ _ | refine blk_drew ?_ | refine blk_alloc ?_ _)); refine blk_far ?_ n2_ _; (with_reducible repeat (first | refine blk_drewN ?_ _ | refine blk_drew ?_ | refine blk_alloc ?_ _)); refine blk_far ?_ n3_ _; (with_reducible repeat (first | refine blk_drewN ?_ _ | refine blk_drew ?_ | refine blk_alloc ?_ _)); refine blk_far ?_ n4_ _; (with_reducible repeat (first | refine blk_drewN ?_ _ | refine blk_drew ?_ | refine blk_alloc ?_ _)); refine blk_far ?_ n5_ _; (with_reducible repeat (first | refine blk_drewN ?_ _ | refine blk_drew ?_ | refine blk_alloc ?_ _)); exact a_)) : B := h n1_ n2_ n3_ n4_ n5_ a_
theorem bf6_ {A B N1 N2 N3 N4 N5 N6 : Prop} (n1_ : N1) (n2_ : N2) (n3_ : N3) (n4_ : N4) (n5_ : N5) (n6_ : N6) (a_ : A) (h : N1 → N2 → N3 → N4 → N5 → N6 → A → B := by (intro n1_ n2_ n3_ n4_ n5_ n6_ a_; (with_reducible repeat (first | refine blk_drewN ?_ _ | refine blk_drew ?_ | refine blk_alloc ?_ _)); refine blk_far ?_ n1_ _; (with_reducible repeat (first | refine blk_drewN ?_ _ | refine blk_drew ?_ | refine blk_alloc ?_ _)); refine blk_far ?_ n2_ _; (with_reducible repeat (first | refine blk_drewN ?_ _ | refine blk_drew ?_ | refine blk_alloc ?_ _)); refine blk_far ?_ n3_ _; (with_reducible repeat (first | refine blk_drewN ?_ _ | refine blk_drew ?_ | refine blk_alloc ?_ _)); refine blk_far ?_ n4_ _; (with_reducible repeat (first | refine blk_drewN ?_ _ | refine blk_drew ?_ | refine blk_alloc ?_ _)); refine blk_far ?_ n5_ _; (with_reducible repeat (first | refine blk_drewN ?_ _ | refine blk_drew ?_ | refine blk_alloc ?_ _)); refine blk_far ?_ n6_ _; (with_reducible repeat (first | refine blk_drewN ?_ _ | refine blk_drew ?_ | refine blk_alloc ?_ _)); exact a_)) : B := h n1_ n2_ n3_ n4_ n5_ n6_ a_
theorem bf7_ {A B N1 N2 N3 N4 N5 N6 N7 : Prop} (n1_ : N1) (n2_ : N2) (n3_ : N3) (n4_ : N4) (n5_ : N5) (n6_ : N6) (n7_ : N7) (a_ : A) (h : N1 → N2 → N3 → N4 → N5 → N6 → N7 → A → B := by (intro n1_ n2_ n3_ n4_ n5_ n6_ n7_ a_; (with_reducible repeat (first | refine blk_drewN ?_ _ | refine blk_drew ?_ | refine blk_alloc ?_ _)); refine blk_far ?_ n1_ _; (with_reducible repeat (first | refine blk_drewN ?_ _ | refine blk_drew ?_ | refine blk_alloc ?_ _)); refine blk_far ?_ n2_ _; (with_reducible repeat (first | refine blk_drewN ?_ _ | refine blk_drew ?_ | refine blk_alloc ?_ _)); refine blk_far ?_ n3_ _; (with_reducible repeat (first | refine blk_drewN ?_ _ | refine blk_drew ?_ | refine blk_alloc ?_ _)); refine blk_far ?_ n4_ _; (with_reducible repeat (first | refine blk_drewN ?_ _ | refine blk_drew ?_ | refine blk_alloc ?_ _)); refine blk_far ?_ n5_ _; (with_reducible repeat (first | refine blk_drewN ?_ _ | refine blk_drew ?_ | refine blk_alloc ?_ _)); refine blk_far ?_ n6_ _; (with_reducible repeat (first | refine blk_drewN ?_ _ | refine blk_drew ?_ | refine blk_alloc ?_ _)); refine blk_far ?_ n7_ _; (with_reducible repeat (first | refine blk_drewN ?_ _ | refine blk_drew ?_ | refine blk_alloc ?_ _)); exact a_)) : B := h n1_ n2_ n3_ n4_ n5_ n6_ n7_ a_
theorem bf8_ {A B N1 N2 N3 N4 N5 N6 N7 N8 : Prop} (n1_ : N1) (n2_ : N2) (n3_ : N3) (n4_ : N4) (n5_ : N5) (n6_ : N6) (n7_ : N7) (n8_ : N8) (a_ : A) (h : N1 → N2 → N3 → N4 → N5 → N6 → N7 → N8 → A → B := by (intro n1_ n2_ n3_ n4_ n5_ n6_ n7_ n8_ a_; (with_reducible repeat (first | refine blk_drewN ?_ _ | refine blk_drew ?_ | refine blk_alloc ?_ _)); refine blk_far ?_ n1_ _; (with_reducible repeat (first | refine blk_drewN ?_ _ | refine blk_drew ?_ | refine blk_alloc ?_ _)); refine blk_far ?_ n2_ _; (with_reducible repeat (first | refine blk_drewN ?_ _ | refine blk_drew ?_ | refine blk_alloc ?_ _)); refine blk_far ?_ n3_ _; (with_reducible repeat (first | refine blk_drewN ?_ _ | refine blk_drew ?_ | refine blk_alloc ?_ _)); refine blk_far ?_ n4_ _; (with_reducible repeat (first | refine blk_drewN ?_ _ | refine blk_drew ?_ | refine blk_alloc ?_ _)); refine blk_far ?_ n5_ _; (with_reducible repeat (first | refine blk_drewN ?_ _ | refine blk_drew ?_ | refine blk_alloc ?_ _)); refine blk_far ?_ n6_ _; (with_reducible repeat (first | refine blk_drewN ?_ _ | refine blk_drew ?_ | refine blk_alloc ?_ _)); refine blk_far ?_ n7_ _; (with_reducible repeat (first | refine blk_drewN ?_ _ | refine blk_drew ?_ | refine blk_alloc ?_ _)); refine blk_far ?_ n8_ _; (with_reducible repeat (first | refine blk_drewN ?_ _ | refine blk_drew ?_ | refine blk_alloc ?_ _)); exact a_)) : B := h n1_ n2_ n3_ n4_ n5_ n6_ n7_ n8_ a_
theorem bl0_ {A B  : Prop} (a_ : A)  (h : A → B := by (intro a_ ; repeat (first | (with_reducible first | exact a_ | apply below_alloc | apply pw_below_drewN | apply below_drew1) | exact a_))) : B := h a_ 
theorem bl1_ {A B N1 : Prop} (a_ : A) (n1_ : N1) (h : A → N1 → B := by (intro a_ n1_; repeat (first | (with_reducible first | exact a_ | apply below_alloc | apply pw_below_drewN | apply below_drew1 | refine below_set ?_ n1_) | exact a_))) : B := h a_ n1_
theorem bl2_ {A B N1 N2 : Prop} (a_ : A) (n1_ : N1) (n2_ : N2) (h : A → N1 → N2 → B := by (intro a_ n1_ n2_; repeat (first | (with_reducible first | exact a_ | apply below_alloc | apply pw_below_drewN | apply below_drew1 | refine below_set ?_ n1_ | refine below_set ?_ n2_) | exact a_))) : B := h a_ n1_ n2_
theorem bl3_ {A B N1 N2 N3 : Prop} (a_ : A) (n1_ : N1) (n2_ : N2) (n3_ : N3) (h : A → N1 → N2 → N3 → B := by (intro a_ n1_ n2_ n3_; repeat (first | (with_reducible first | exact a_ | apply below_alloc | apply pw_below_drewN | apply below_drew1 | refine below_set ?_ n1_ | refine below_set ?_ n2_ | refine below_set ?_ n3_) | exact a_))) : B := h a_ n1_ n2_ n3_
theorem bl4_ {A B N1 N2 N3 N4 : Prop} (a_ : A) (n1_ : N1) (n2_ : N2) (n3_ : N3) (n4_ : N4) (h : A → N1 → N2 → N3 → N4 → B := by (intro a_ n1_ n2_ n3_ n4_; repeat (first | (with_reducible first | exact a_ | apply below_alloc | apply pw_below_drewN | apply below_drew1 | refine below_set ?_ n1_ | refine below_set ?_ n2_ | refine below_set ?_ n3_ | refine below_set ?_ n4_) | exact a_))) : B := h a_ n1_ n2_ n3_ n4_
theorem bl5_ {A B N1 N2 N3 N4 N5 : Prop} (a_ : A) (n1_ : N1) (n2_ : N2) (n3_ : N3) (n4_ : N4) (n5_ : N5) (h : A → N1 → N2 → N3 → N4 → N5 → B := by (intro a_ n1_ n2_ n3_ n4_ n5_; repeat (first | (with_reducible first | exact a_ | apply below_alloc | apply pw_below_drewN | apply below_drew1 | refine below_set ?_ n1_ | refine below_set ?_ n2_ | refine below_set ?_ n3_ | refine below_set ?_ n4_ | refine below_set ?_ n5_) | exact a_))) : B := h a_ n1_ n2_ n3_ n4_ n5_
theorem bl6_ {A B N1 N2 N3 N4 N5 N6 : Prop} (a_ : A) (n1_ : N1) (n2_ : N2) (n3_ : N3) (n4_ : N4) (n5_ : N5) (n6_ : N6) (h : A → N1 → N2 → N3 → N4 → N5 → N6 → B := by (intro a_ n1_ n2_ n3_ n4_ n5_ n6_; repeat (first | (with_reducible first | exact a_ | apply below_alloc | apply pw_below_drewN | apply below_drew1 | refine below_set ?_ n1_ | refine below_set ?_ n2_ | refine below_set ?_ n3_ | refine below_set ?_ n4_ | refine below_set ?_ n5_ | refine below_set ?_ n6_) | exact a_))) : B := h a_ n1_ n2_ n3_ n4_ n5_ n6_
theorem bl7_ {A B N1 N2 N3 N4 N5 N6 N7 : Prop} (a_ : A) (n1_ : N1) (n2_ : N2) (n3_ : N3) (n4_ : N4) (n5_ : N5) (n6_ : N6) (n7_ : N7) (h : A → N1 → N2 → N3 → N4 → N5 → N6 → N7 → B := by (intro a_ n1_ n2_ n3_ n4_ n5_ n6_ n7_; repeat (first | (with_reducible first | exact a_ | apply below_alloc | apply pw_below_drewN | apply below_drew1 | refine below_set ?_ n1_ | refine below_set ?_ n2_ | refine below_set ?_ n3_ | refine below_set ?_ n4_ | refine below_set ?_ n5_ | refine below_set ?_ n6_ | refine below_set ?_ n7_) | exact a_))) : B := h a_ n1_ n2_ n3_ n4_ n5_ n6_ n7_
theorem bl8_ {A B N1 N2 N3 N4 N5 N6 N7 N8 : Prop} (a_ : A) (n1_ : N1) (n2_ : N2) (n3_ : N3) (n4_ : N4) (n5_ : N5) (n6_ : N6) (n7_ : N7) (n8_ : N8) (h : A → N1 → N2 → N3 → N4 → N5 → N6 → N7 → N8 → B := by (intro a_ n1_ n2_ n3_ n4_ n5_ n6_ n7_ n8_; repeat (first | (with_reducible first | exact a_ | apply below_alloc | apply pw_below_drewN | apply below_drew1 | refine below_set ?_ n1_ | refine below_set ?_ n2_ | refine below_set ?_ n3_ | refine below_set ?_ n4_ | refine below_set ?_ n5_ | refine below_set ?_ n6_ | refine below_set ?_ n7_ | refine below_set ?_ n8_) | exact a_))) : B := h a_ n1_ n2_ n3_ n4_ n5_ n6_ n7_ n8_
theorem nl_ {w0 W : World} {g gb : Nat} {o : Obj} (hg : gb = W.heap.size) (a_ : w0.heap[g]? = some o) (h : w0.heap[g]? = some o → W.heap[g]? = some o := by (intro a_; (with_reducible repeat (first | refine blk_drewN ?_ _ | refine blk_drew ?_ | refine blk_alloc ?_ _)); exact a_)) : g ≠ gb := by rw [hg]; exact Nat.ne_of_lt (blk_lt (h a_))
theorem ng_ {w0 W : World} {g gb : Nat} {o : Obj} (hg : gb = W.heap.size) (a_ : w0.heap[g]? = some o) (h : w0.heap[g]? = some o → W.heap[g]? = some o := by (intro a_; (with_reducible repeat (first | refine blk_drewN ?_ _ | refine blk_drew ?_ | refine blk_alloc ?_ _)); exact a_)) : gb ≠ g := by rw [hg]; exact Nat.ne_of_gt (blk_lt (h a_))
theorem bb_ {w0 W W2 : World} {g : Nat} {o : Obj} (a_ : w0.heap[g]? = some o) (hb : Below W.heap.size W W2) (h : w0.heap[g]? = some o → W.heap[g]? = some o := by (intro a_; (with_reducible repeat (first | refine blk_drewN ?_ _ | refine blk_drew ?_ | refine blk_alloc ?_ _)); exact a_)) : W2.heap[g]? = some o := blk_below (h a_) hb
theorem bs0_ {A  : Prop} {w W : World} {gb : Nat} (hg : gb = W.heap.size) (a_ : A)  (h : A → Below w.heap.size w W := by (intro a_ ; repeat (first | (with_reducible first | exact a_ | apply below_alloc | apply pw_below_drewN | apply below_drew1) | exact a_))) : w.heap.size ≤ gb := by rw [hg]; exact below_size (h a_ )
theorem bs1_ {A N1 : Prop} {w W : World} {gb : Nat} (hg : gb = W.heap.size) (a_ : A) (n1_ : N1) (h : A → N1 → Below w.heap.size w W := by (intro a_ n1_; repeat (first | (with_reducible first | exact a_ | apply below_alloc | apply pw_below_drewN | apply below_drew1 | refine below_set ?_ n1_) | exact a_))) : w.heap.size ≤ gb := by rw [hg]; exact below_size (h a_ n1_)
theorem bs2_ {A N1 N2 : Prop} {w W : World} {gb : Nat} (hg : gb = W.heap.size) (a_ : A) (n1_ : N1) (n2_ : N2) (h : A → N1 → N2 → Below w.heap.size w W := by (intro a_ n1_ n2_; repeat (first | (with_reducible first | exact a_ | apply below_alloc | apply pw_below_drewN | apply below_drew1 | refine below_set ?_ n1_ | refine below_set ?_ n2_) | exact a_))) : w.heap.size ≤ gb := by rw [hg]; exact below_size (h a_ n1_ n2_)
theorem bs3_ {A N1 N2 N3 : Prop} {w W : World} {gb : Nat} (hg : gb = W.heap.size) (a_ : A) (n1_ : N1) (n2_ : N2) (n3_ : N3) (h : A → N1 → N2 → N3 → Below w.heap.size w W := by (intro a_ n1_ n2_ n3_; repeat (first | (with_reducible first | exact a_ | apply below_alloc | apply pw_below_drewN | apply below_drew1 | refine below_set ?_ n1_ | refine below_set ?_ n2_ | refine below_set ?_ n3_) | exact a_))) : w.heap.size ≤ gb := by rw [hg]; exact below_size (h a_ n1_ n2_ n3_)
theorem bs4_ {A N1 N2 N3 N4 : Prop} {w W : World} {gb : Nat} (hg : gb = W.heap.size) (a_ : A) (n1_ : N1) (n2_ : N2) (n3_ : N3) (n4_ : N4) (h : A → N1 → N2 → N3 → N4 → Below w.heap.size w W := by (intro a_ n1_ n2_ n3_ n4_; repeat (first | (with_reducible first | exact a_ | apply below_alloc | apply pw_below_drewN | apply below_drew1 | refine below_set ?_ n1_ | refine below_set ?_ n2_ | refine below_set ?_ n3_ | refine below_set ?_ n4_) | exact a_))) : w.heap.size ≤ gb := by rw [hg]; exact below_size (h a_ n1_ n2_ n3_ n4_)
theorem bs5_ {A N1 N2 N3 N4 N5 : Prop} {w W : World} {gb : Nat} (hg : gb = W.heap.size) (a_ : A) (n1_ : N1) (n2_ : N2) (n3_ : N3) (n4_ : N4) (n5_ : N5) (h : A → N1 → N2 → N3 → N4 → N5 → Below w.heap.size w W := by (intro a_ n1_ n2_ n3_ n4_ n5_; repeat (first | (with_reducible first | exact a_ | apply below_alloc | apply pw_below_drewN | apply below_drew1 | refine below_set ?_ n1_ | refine below_set ?_ n2_ | refine below_set ?_ n3_ | refine below_set ?_ n4_ | refine below_set ?_ n5_) | exact a_))) : w.heap.size ≤ gb := by rw [hg]; exact below_size (h a_ n1_ n2_ n3_ n4_ n5_)
theorem bs6_ {A N1 N2 N3 N4 N5 N6 : Prop} {w W : World} {gb : Nat} (hg : gb = W.heap.size) (a_ : A) (n1_ : N1) (n2_ : N2) (n3_ : N3) (n4_ : N4) (n5_ : N5) (n6_ : N6) (h : A → N1 → N2 → N3 → N4 → N5 → N6 → Below w.heap.size w W := by (intro a_ n1_ n2_ n3_ n4_ n5_ n6_; repeat (first | (with_reducible first | exact a_ | apply below_alloc | apply pw_below_drewN | apply below_drew1 | refine below_set ?_ n1_ | refine below_set ?_ n2_ | refine below_set ?_ n3_ | refine below_set ?_ n4_ | refine below_set ?_ n5_ | refine below_set ?_ n6_) | exact a_))) : w.heap.size ≤ gb := by rw [hg]; exact below_size (h a_ n1_ n2_ n3_ n4_ n5_ n6_)
theorem bs7_ {A N1 N2 N3 N4 N5 N6 N7 : Prop} {w W : World} {gb : Nat} (hg : gb = W.heap.size) (a_ : A) (n1_ : N1) (n2_ : N2) (n3_ : N3) (n4_ : N4) (n5_ : N5) (n6_ : N6) (n7_ : N7) (h : A → N1 → N2 → N3 → N4 → N5 → N6 → N7 → Below w.heap.size w W := by (intro a_ n1_ n2_ n3_ n4_ n5_ n6_ n7_; repeat (first | (with_reducible first | exact a_ | apply below_alloc | apply pw_below_drewN | apply below_drew1 | refine below_set ?_ n1_ | refine below_set ?_ n2_ | refine below_set ?_ n3_ | refine below_set ?_ n4_ | refine below_set ?_ n5_ | refine below_set ?_ n6_ | refine below_set ?_ n7_) | exact a_))) : w.heap.size ≤ gb := by rw [hg]; exact below_size (h a_ n1_ n2_ n3_ n4_ n5_ n6_ n7_)
theorem bs8_ {A N1 N2 N3 N4 N5 N6 N7 N8 : Prop} {w W : World} {gb : Nat} (hg : gb = W.heap.size) (a_ : A) (n1_ : N1) (n2_ : N2) (n3_ : N3) (n4_ : N4) (n5_ : N5) (n6_ : N6) (n7_ : N7) (n8_ : N8) (h : A → N1 → N2 → N3 → N4 → N5 → N6 → N7 → N8 → Below w.heap.size w W := by (intro a_ n1_ n2_ n3_ n4_ n5_ n6_ n7_ n8_; repeat (first | (with_reducible first | exact a_ | apply below_alloc | apply pw_below_drewN | apply below_drew1 | refine below_set ?_ n1_ | refine below_set ?_ n2_ | refine below_set ?_ n3_ | refine below_set ?_ n4_ | refine below_set ?_ n5_ | refine below_set ?_ n6_ | refine below_set ?_ n7_ | refine below_set ?_ n8_) | exact a_))) : w.heap.size ≤ gb := by rw [hg]; exact below_size (h a_ n1_ n2_ n3_ n4_ n5_ n6_ n7_ n8_)
theorem ap_ {A : Prop} (h : A := by (show Act.put _ (some _) _ = _; simp only [Act.put, List.setIfInBounds_toArray, List.set_cons_zero, List.set_cons_succ, i64_w, i32_w]; rfl)) : A := h
theorem er_ {A : Prop} (h : A := by (first | rfl | (simp [errW_none, errW_some] <;> rfl) | (simp [*, errW_none, errW_some] <;> rfl))) : A := h
theorem kr_ {A B : Prop} (a_ : A) (h : A → B := by (intro a_; (with_reducible repeat (first | apply Kd.R_alloc | apply Kd.R_drewN | apply Kd.R_drew)); exact a_)) : B := h a_
theorem kc_ {A B : Prop} (a_ : A) (h : A → B := by (intro a_; repeat (first | exact a_ | (with_reducible refine Kd.C_alloc ?_ _) | (with_reducible refine Kd.C_drewN ?_ _) | (with_reducible refine Kd.C_drew ?_)))) : B := h a_
theorem ob_ {A : Prop} (h : A := by ((try simp only [List.map_toArray, List.map_cons, List.map_nil]); first | done | rfl | (simp only [List.length_drop, List.length_take]; rfl))) : A := h
theorem rs_ {A : Prop} (h : A := by (first | rfl | (simp; done) | (simp [*]; done))) : A := h
theorem as_ {A : Prop} (h : A := by (first | (with_reducible assumption) | assumption)) : A := h
theorem boxE_ {P : Program} {ops : Array Oper} {Q : Exit → Act → World → Prop} {rest : List Oper} {a : Act} {o : Oper} {W : World} {N : Tmp} {cs : Array Value} {t : TypeId}
  (h : ∀ g, g = W.heap.size → ∀ w1, w1.heap[g]? = some (.cells cs t (0, 0)) → Below W.heap.size W w1 → wpList P ops Q rest (a.put o.dst (.pointer (some ⟨g, 0, none⟩))) w1)
  (hd : o.dst = some N := by rfl) (hg : o.guard = none := by rfl) (hr : (execOp a.eval o).run P W = .ok (.value (.pointer (some ⟨W.heap.size, 0, none⟩))) (W.alloc (.cells cs t (0, 0))) := by first | (go_simp; done) | (go_simp; rfl)) : wpList P ops Q (o :: rest) a W :=
 box_event hg hd hr h
end Go.Proofs.YtjoaaicbnojoaaaDoor.P
namespace Go.Proofs.YtjoaaicbnojoaaaDoor.P
open Go.RowKit Go.Proofs.YtjoaaicbnojoaaaDoorW.PrintWords Go.Proofs.YtjoaaicbnojoaaaDoorW.PrintLast Go.Proofs.YtjoaaicbnojoaaaDoorW.PrintMore
attribute [local go_sem] max2_int min2_int max_two min_two max_three min_three max_four min_four   -- for this text's walks alone
set_option linter.unusedVariables false
set_option linter.unusedSimpArgs false

def spec_trCells.f (a0 : Int) : Option (Int) := some (wrap64 (Int.tdiv (wrap64 (a0 * (wrap64 (a0 + 1)))) 2))
set_option maxHeartbeats 8000000 in
set_option maxRecDepth 100000 in
theorem spec_trCells.calls (a0 : Int) (r : Int) (w : World) (h : spec_trCells.f a0 = some r) :
    Calls Tryd.prog 78 #[.int .i64 a0] w fun e w' => e = .returned (.int .i64 r) ∧ Drawn0 w w' := by
  have H : (some (wrap64 (Int.tdiv (wrap64 (a0 * (wrap64 (a0 + 1)))) 2))) = some r := h
  clear h
  obtain rfl := Option.some.inj H
  go_enter Tryd.func78, Tryd.ntmps78
  go_wp2
  go_ret
  exact ⟨by first | rfl | (simp; done) | (simp [*]; done), by repeat (first | exact Drawn0.refl _ | apply Drawn0.step)⟩


def spec_trOf.l0 : Nat → Int → Int → Int → Int → List Int → Option (Int × List Int)
 | 0, _, _, _, _, _ => none
 | k + 1, x0, x1, x6, x103000, x103001 => (spec_trCells.f x0).bind fun t103 => (if x6 < (wrap64 (3 * t103)) then (if 0 ≤ x6 then (if (Int.tmod (shr .i64 x1 x6) 2) = 1 then (if x103001.length < 17592186044416 then (spec_trOf.l0 k x0 x1 (wrap64 (x6 + 1)) x103000 (x103001 ++ [x6])) else (none)) else (spec_trOf.l0 k x0 x1 (wrap64 (x6 + 1)) x103000 x103001)) else (none)) else (some (x103000, x103001)))
def spec_trOf.f (k : Nat) (a0 : Int) (a1 : Int) : Option (Int × List Int) := spec_trOf.l0 k a0 a1 0 a0 ([] : List Int)
theorem spec_trOf.mono_l : ∀ k, (∀ y0 y1 y2 y3 y4, LeO (spec_trOf.l0 k y0 y1 y2 y3 y4) (spec_trOf.l0 (k + 1) y0 y1 y2 y3 y4))
 | 0 => fun _ _ _ _ _ r h => by simp [spec_trOf.l0] at h
 | k + 1 => by
  have ih0 := spec_trOf.mono_l k
  ·intro y0 y1 y2 y3 y4
   unfold spec_trOf.l0
   repeat' first
   | (with_reducible exact ih0 _ _ _ _ _)
   | (with_reducible exact LeO.refl _)
   | (with_reducible exact LeO.none _)
   | (with_reducible refine LeO.ite ?_ ?_)
   | (with_reducible refine LeO.bind ?_ (fun _ => ?_))
   | exact ih0 _ _ _ _ _
   | exact LeO.none _
   | refine LeO.ite ?_ ?_
   | refine LeO.bind ?_ (fun _ => ?_)
theorem spec_trOf.mono : ∀ a0 a1 k, LeO (spec_trOf.f k a0 a1) (spec_trOf.f (k + 1) a0 a1) := by
 intro a0 a1 k
 have ih0 := spec_trOf.mono_l k
 unfold spec_trOf.f
 repeat' first
   | (with_reducible exact ih0 _ _ _ _ _)
   | (with_reducible exact LeO.refl _)
   | (with_reducible exact LeO.none _)
   | (with_reducible refine LeO.ite ?_ ?_)
   | (with_reducible refine LeO.bind ?_ (fun _ => ?_))
   | exact ih0 _ _ _ _ _
   | exact LeO.none _
   | refine LeO.ite ?_ ?_
   | refine LeO.bind ?_ (fun _ => ?_)
set_option maxHeartbeats 8000000 in
set_option maxRecDepth 100000 in
theorem spec_trOf.calls (k : Nat) (a0 : Int) (a1 : Int) (r1 : Int) (r2 : List Int) (w : World) (h : spec_trOf.f k a0 a1 = some (r1, r2)) :
  Calls Tryd.prog 64 #[.int .i64 a0, .int .i64 a1] w fun e w' => ∃ v1_ : Value, e = .returned (.agg #[.int .i64 r1, v1_]) ∧ Kd.R (Kd.int .i64) 3 w' w.heap.size (fun _ => True) v1_ r2 ∧ Below w.heap.size w w' := by
 have hu28 := Tryd.underlying28
 have HB := Aside0.mk (Below.refl w.heap.size w)
 have H : (spec_trOf.l0 k a0 a1 0 a0 ([] : List Int)) = some (r1, r2) := h
 clear h
 have H' := Aside0.mk H
 clear H
 go_enter Tryd.func64, Tryd.ntmps64
 go_wp2_with (first | ((with_reducible refine gate_dst (N := 4) rfl ?_); refine boxE_ (N := 4) (cs := #[.int .i64 0, .slice none 0 0]) (t := 28) ?_; intro gb101 hg w3 hbox hb; have n0_ := Aside0.mk (below_step (bl0_ HB.out) hb); have n1_ := Aside0.mk (hbox); have n2_ := Aside0.mk ((bs0_ hg HB.out : w.heap.size ≤ gb101)); have n3_ := Aside0.mk ((bs0_ hg HB.out : w.heap.size ≤ gb101)); clear HB; have HB := n0_; have BK101 := n1_; have GW101 := n2_; have GE101 := n3_; clear n0_ n1_ n2_ n3_; clear hb hbox hg) | ((with_reducible refine gate_dst (N := 5) rfl ?_); refine boxE_ (N := 5) (cs := #[.int .i64 0, .slice none 0 0]) (t := 28) ?_; intro gb102 hg w4 hbox hb; have n0_ := Aside0.mk (bb_ BK101.out hb); have n1_ := Aside0.mk (below_step (bl1_ HB.out GE101.out) hb); have n2_ := Aside0.mk (hbox); have n3_ := Aside0.mk ((bs1_ hg HB.out GE101.out : w.heap.size ≤ gb102)); have n4_ := Aside0.mk ((bs1_ hg HB.out GE101.out : w.heap.size ≤ gb102)); have n5_ := Aside0.mk ((nl_ hg BK101.out : gb101 ≠ gb102)); have n6_ := Aside0.mk ((ng_ hg BK101.out : gb102 ≠ gb101)); clear BK101; clear HB; have BK101 := n0_; have HB := n1_; have BK102 := n2_; have GW102 := n3_; have GE102 := n4_; have NB101_102 := n5_; have NB102_101 := n6_; clear n0_ n1_ n2_ n3_ n4_ n5_ n6_; clear hb hbox hg; have hnb5 := NB102_101.out; have hnc5 := NB101_102.out; have hcz6_0 : w4.cell? ⟨gb102, 0, none⟩ = some (.int .i64 0) := (blk_cell BK102.out 0).trans rfl; have hcz6_1 : w4.cell? ⟨gb102, 1, none⟩ = some (.slice none 0 0) := (blk_cell BK102.out 1).trans rfl; have hfz6_0 := blk_frozen BK102.out 0; have hfz6_1 := blk_frozen BK102.out 1))
 go_loopg [6] k (fun kq v6 w' => ∃ (x6_1 : Int) (x103001_1 : List Int) (u103001 : Value), v6 = .int .i64 x6_1 ∧ Aside0 (spec_trOf.l0 kq a0 a1 x6_1 a0 x103001_1 = some (r1, r2)) ∧ Aside0 (kq ≤ k) ∧ Aside0 (Kd.R (Kd.int .i64) 3 w' w.heap.size (fun _ => True) u103001 x103001_1) ∧ Aside0 (w'.heap[gb101]? = some (.cells #[.int .i64 0, (.slice none 0 0)] 28 (0, 0))) ∧ Aside0 (w'.heap[gb102]? = some (.cells #[.int .i64 a0, u103001] 28 (0, 0))) ∧ Aside0 (Below w.heap.size w w'))
 case atStart => exact ⟨(0), (([] : List Int)), (.slice none 0 0), rs_, H', ⟨Nat.le_refl _⟩, ⟨by first | exact Kd.R_nil _ _ _ _ _ | exact Kd.N_nil _ _ _ _ _ | exact Kd.V_nil _ _ _ _ _ | exact Kd.Q_nil _ _ _ _ _ | exact Kd.S_nil _ _ _ _ _⟩, ⟨bf2_ NB101_102.out NB101_102.out BK101.out⟩, ⟨by (with_reducible repeat (first | refine blk_drewN ?_ _ | refine blk_drew ?_ | refine blk_alloc ?_ _)); refine blk_put (cs := #[.int .i64 a0, .slice none 0 0]) ?_ 1 _ rfl; (with_reducible repeat (first | refine blk_drewN ?_ _ | refine blk_drew ?_ | refine blk_alloc ?_ _)); refine blk_put (cs := #[.int .i64 0, .slice none 0 0]) ?_ 0 _ rfl; (with_reducible repeat (first | refine blk_drewN ?_ _ | refine blk_drew ?_ | refine blk_alloc ?_ _)); exact BK102.out⟩, ⟨bl2_ HB.out GE101.out GE102.out⟩⟩
 case round =>
  clear H'
  try clear p2
  try clear c5
  try clear c6
  try clear hcz6_0
  try clear hcz6_1
  try clear hfz6_0
  try clear hfz6_1
  obtain ⟨x6_1, x103001_1, u103001, rfl, HA, HK1, HO_103001, BK101, BK102, HB⟩ := hrel
  cases gk with
  | zero => exact absurd HA.out (by simp [spec_trOf.l0])
  | succ k1 =>
   have H := HA.out
   clear HA
   simp only [spec_trOf.l0] at H
   replace H := Option.bind_eq_some_iff.mp H
   obtain ⟨t103, A70, H⟩ := H
   replace H : (if x6_1 < (wrap64 (3 * t103)) then (if 0 ≤ x6_1 then (if (Int.tmod (shr .i64 a1 x6_1) 2) = 1 then (if x103001_1.length < 17592186044416 then (spec_trOf.l0 k1 a0 a1 (wrap64 (x6_1 + 1)) a0 (x103001_1 ++ [x6_1])) else (none)) else (spec_trOf.l0 k1 a0 a1 (wrap64 (x6_1 + 1)) a0 x103001_1)) else (none)) else (some (a0, x103001_1))) = some (r1, r2) := H
   have A7 := Aside0.mk A70
   clear A70
   by_cases c8 : x6_1 < (wrap64 (3 * t103))
   ·rw [if_pos c8] at H
    have c8b0 : decide (x6_1 < (wrap64 (3 * t103))) = true := decide_eq_true c8
    clear c8
    by_cases c9 : 0 ≤ x6_1
    ·rw [if_pos c9] at H
     have c9b0 := eq_true c9
     have c9b1 : decide (0 ≤ x6_1) = true := decide_eq_true c9
     clear c9
     obtain ⟨ji10, hji10⟩ : ∃ j_ : Int, (shr .i64 a1 x6_1) = j_ := ⟨_, rfl⟩
     replace H : (if (Int.tmod (ji10) 2) = 1 then (if x103001_1.length < 17592186044416 then (spec_trOf.l0 k1 a0 a1 (wrap64 (x6_1 + 1)) a0 (x103001_1 ++ [x6_1])) else (none)) else (spec_trOf.l0 k1 a0 a1 (wrap64 (x6_1 + 1)) a0 x103001_1)) = some (r1, r2) := by first | (rw [hji10] at H; exact H) | (simp only [hji10] at H ⊢; exact H)
     (try rw [hji10] at A7)
     have hji10_ : (a1 / 2 ^ min x6_1.toNat 64) = ji10 := hji10
     have hji10z : x6_1 ≤ 64 → (a1 / 2 ^ x6_1.toNat) = ji10 := shr_small hji10
     by_cases c11 : (Int.tmod (ji10) 2) = 1
     ·rw [if_pos c11] at H
      have c11b0 : ((Int.tmod (ji10) 2) == 1) = true := beq_iff_eq.mpr c11
      have c11b1 : ((Int.tmod (ji10) 2) != 1) = false := bne_eq_false_iff_eq.mpr c11
      clear c11
      by_cases c12 : x103001_1.length < 17592186044416
      ·rw [if_pos c12] at H
       have LMc12 := Aside0.mk c12
       clear c12
       obtain ⟨y104, hy104⟩ : ∃ y_ : List Int, y_ = (x103001_1 ++ [x6_1]) := ⟨_, rfl⟩
       replace H : (spec_trOf.l0 k1 a0 a1 (wrap64 (x6_1 + 1)) a0 y104) = some (r1, r2) := by first | (rw [hy104]; with_reducible exact H) | (have H2_ := (Option.bind_some _ _).symm.trans H; rw [hy104]; with_reducible exact H2_) | (have H2_ := (Option.bind_some _ _).symm.trans H; with_reducible exact H2_) | with_reducible exact H | (rw [hy104]; exact H) | exact H
       have Ny104 := Aside0.mk hy104
       clear hy104
       have H' := Aside0.mk H
       clear H
       go_wp2_with (first | ((with_reducible refine gate_callee (f := 78) rfl ?_); refine goesL_ (some 11) rfl rfl Tryd.func78 (by kernel_rfl) rfl #[.int .i64 a0] rfl ob_ ?_; (with_reducible refine (spec_trCells.calls a0 t103 _ A7.out).mono ?_); rintro e w' ⟨rfl, ⟨nd, rfl⟩⟩; refine ⟨_, rfl, ?_⟩; (try (rw [drewN_self wr]; generalize hq_ : World.drewN wr _ = wr; have n0_ : Aside0 (Kd.R (Kd.int .i64) 3 wr w.heap.size (fun _ => True) u103001 x103001_1) := ⟨by rw [← hq_]; exact (kr_ HO_103001.out)⟩; have n1_ : Aside0 (wr.heap[gb101]? = some (.cells #[.int .i64 0, .slice none 0 0] 28 (0, 0))) := ⟨by rw [← hq_]; exact (bk_ BK101.out)⟩; have n2_ : Aside0 (wr.heap[gb102]? = some (.cells #[.int .i64 a0, u103001] 28 (0, 0))) := ⟨by rw [← hq_]; exact (bk_ BK102.out)⟩; have n3_ : Aside0 (Below w.heap.size w wr) := ⟨by rw [← hq_]; exact (bl2_ HB.out GE101.out GE102.out)⟩; clear HO_103001 BK101 BK102 HB hq_; have HO_103001 := n0_; have BK101 := n1_; have BK102 := n2_; have HB := n3_; clear n0_ n1_ n2_ n3_)); have hnb13 := NB102_101.out; have hnc13 := NB101_102.out; have hcz14_0 : wr.cell? ⟨gb102, 0, none⟩ = some (.int .i64 a0) := (blk_cell BK102.out 0).trans rfl; have hcz14_1 : wr.cell? ⟨gb102, 1, none⟩ = some (u103001) := (blk_cell BK102.out 1).trans rfl; have hfz14_0 := blk_frozen BK102.out 0; have hfz14_1 := blk_frozen BK102.out 1) | ((with_reducible refine gate_builtin (b := .append) (xs := #[.tmp 22, .tmp 24]) rfl ?_); at_builtin; refine Kd.R_append (Kd.int .i64) (w0 := w) w.heap.size rfl (.tmp 22) (.tmp 24) 22 3 (.int .i64 0) 8 rfl Tryd.underlying22 info3 rfl (by decide) (by omega) u103001 x103001_1 x6_1 [.int .i64 x6_1] (fun _ => True) (fun _ => False) rfl rfl ?aP (fun _ hk => hk.elim) ?aF ?aO ?aB ?aS ?aL ?_; (case aP => exact rfl); (case aB => exact (bl2_ HB.out GE101.out GE102.out)); (case aF => exact (fun _ _ => trivial)); (case aO => exact (kr_ HO_103001.out)); (case aS => exact (below_size (bl2_ HB.out GE101.out GE102.out))); (case aL => have := LMc12.out; omega); intro v105 w15 ho hb hg hat; rw [← Ny104.out] at ho; have n0_ := Aside0.mk (blk_grown (g := gb101) (o := .cells #[.int .i64 0, .slice none 0 0] 28 (0, 0)) (bk_ BK101.out) hg (Kd.R_ne HO_103001.out BK101.out (by decide))); have n1_ := Aside0.mk (blk_grown (g := gb102) (o := .cells #[.int .i64 a0, u103001] 28 (0, 0)) (bk_ BK102.out) hg (Kd.R_ne HO_103001.out BK102.out (by decide))); have n2_ := Aside0.mk (hb); have n3_ := Aside0.mk (ho); clear BK101; clear BK102; clear HB; clear HO_103001; have BK101 := n0_; have BK102 := n1_; have HB := n2_; have HO106 := n3_; clear n0_ n1_ n2_ n3_; clear ho hb hg hat; obtain ⟨Ao16, co16, eo16⟩ := Kd.R_slice HO106.out; subst eo16; have hcz17_0 : w15.cell? ⟨gb102, 0, none⟩ = some (.int .i64 a0) := (blk_cell BK102.out 0).trans rfl; have hcz17_1 : w15.cell? ⟨gb102, 1, none⟩ = some (u103001) := (blk_cell BK102.out 1).trans rfl; have hfz17_0 := blk_frozen BK102.out 0; have hfz17_1 := blk_frozen BK102.out 1))
       go_roundg k1
       case measure => have := HK1.out; omega
       case rel => exact ⟨(wrap64 (x6_1 + 1)), (y104), (.slice Ao16 y104.length co16), rs_, H', ⟨by have := HK1.out; omega⟩, ⟨by (with_reducible repeat (first | apply Kd.R_alloc | apply Kd.R_drewN | apply Kd.R_drew)); exact Kd.R_mono (Kd.R_far (p := ⟨gb102, 1, none⟩) (Kd.R_types HO106.out BK102.out (by decide)) (fun _ hk => hk.2) (.slice Ao16 y104.length co16)) (fun _ hk => trivial)⟩, ⟨bf1_ NB101_102.out BK101.out⟩, ⟨by (with_reducible repeat (first | refine blk_drewN ?_ _ | refine blk_drew ?_ | refine blk_alloc ?_ _)); refine blk_put (cs := #[.int .i64 a0, u103001]) ?_ 1 _ rfl; (with_reducible repeat (first | refine blk_drewN ?_ _ | refine blk_drew ?_ | refine blk_alloc ?_ _)); exact BK102.out⟩, ⟨bl2_ HB.out GE101.out GE102.out⟩⟩
      ·rw [if_neg c12] at H
       exact absurd H (by simp)
     ·rw [if_neg c11] at H
      have c11b0 : ((Int.tmod (ji10) 2) == 1) = false := beq_eq_false_iff_ne.mpr c11
      have c11b1 : ((Int.tmod (ji10) 2) != 1) = true := bne_iff_ne.mpr c11
      have H' := Aside0.mk H
      clear H
      go_wp2_with (first | ((with_reducible refine gate_callee (f := 78) rfl ?_); refine goesL_ (some 11) rfl rfl Tryd.func78 (by kernel_rfl) rfl #[.int .i64 a0] rfl ob_ ?_; (with_reducible refine (spec_trCells.calls a0 t103 _ A7.out).mono ?_); rintro e w' ⟨rfl, ⟨nd, rfl⟩⟩; refine ⟨_, rfl, ?_⟩))
      go_roundg k1
      case measure => have := HK1.out; omega
      case rel => exact ⟨(wrap64 (x6_1 + 1)), (x103001_1), (u103001), rs_, H', ⟨by have := HK1.out; omega⟩, ⟨kr_ HO_103001.out⟩, ⟨bk_ BK101.out⟩, ⟨bk_ BK102.out⟩, ⟨bl2_ HB.out GE101.out GE102.out⟩⟩
    ·rw [if_neg c9] at H
     exact absurd H (by simp)
   ·rw [if_neg c8] at H
    have c8b0 : decide (x6_1 < (wrap64 (3 * t103))) = false := decide_eq_false c8
    clear c8
    simp only [Option.some.injEq, Prod.mk.injEq] at H
    obtain ⟨rfl, rfl⟩ := H
    go_wp2_with (first | ((with_reducible refine gate_callee (f := 78) rfl ?_); refine goesL_ (some 11) rfl rfl Tryd.func78 (by kernel_rfl) rfl #[.int .i64 a0] rfl ob_ ?_; (with_reducible refine (spec_trCells.calls a0 t103 _ A7.out).mono ?_); rintro e w' ⟨rfl, ⟨nd, rfl⟩⟩; refine ⟨_, rfl, ?_⟩; (try (rw [drewN_self wr]; generalize hq_ : World.drewN wr _ = wr; have n0_ : Aside0 (Kd.R (Kd.int .i64) 3 wr w.heap.size (fun _ => True) u103001 x103001_1) := ⟨by rw [← hq_]; exact (kr_ HO_103001.out)⟩; have n1_ : Aside0 (wr.heap[gb101]? = some (.cells #[.int .i64 0, .slice none 0 0] 28 (0, 0))) := ⟨by rw [← hq_]; exact (bk_ BK101.out)⟩; have n2_ : Aside0 (wr.heap[gb102]? = some (.cells #[.int .i64 a0, u103001] 28 (0, 0))) := ⟨by rw [← hq_]; exact (bk_ BK102.out)⟩; have n3_ : Aside0 (Below w.heap.size w wr) := ⟨by rw [← hq_]; exact (bl2_ HB.out GE101.out GE102.out)⟩; clear HO_103001 BK101 BK102 HB hq_; have HO_103001 := n0_; have BK101 := n1_; have BK102 := n2_; have HB := n3_; clear n0_ n1_ n2_ n3_)); have hnb18 := NB102_101.out; have hnc18 := NB101_102.out; have hcz19_0 : wr.cell? ⟨gb102, 0, none⟩ = some (.int .i64 a0) := (blk_cell BK102.out 0).trans rfl; have hcz19_1 : wr.cell? ⟨gb102, 1, none⟩ = some (u103001) := (blk_cell BK102.out 1).trans rfl; have hfz19_0 := blk_frozen BK102.out 0; have hfz19_1 := blk_frozen BK102.out 1; have hcz20_0 : wr.cell? ⟨gb101, 0, none⟩ = some (.int .i64 0) := (blk_cell BK101.out 0).trans rfl; have hcz20_1 : wr.cell? ⟨gb101, 1, none⟩ = some (.slice none 0 0) := (blk_cell BK101.out 1).trans rfl; have hfz20_0 := blk_frozen BK101.out 0; have hfz20_1 := blk_frozen BK101.out 1; obtain ⟨Ao21, co21, eo21⟩ := Kd.R_slice HO_103001.out; subst eo21))
    refine bodyPost_ret (results_cell_row rfl _ _ gb101 28 #[.int .i64 a0, .slice Ao21 x103001_1.length co21] (0, 0) _ rfl (by (with_reducible repeat (first | refine blk_drewN ?_ _ | refine blk_drew ?_ | refine blk_alloc ?_ _)); refine blk_put (cs := #[.int .i64 a0, .slice none 0 0]) ?_ 1 _ rfl; (with_reducible repeat (first | refine blk_drewN ?_ _ | refine blk_drew ?_ | refine blk_alloc ?_ _)); refine blk_put (cs := #[.int .i64 0, .slice none 0 0]) ?_ 0 _ rfl; (with_reducible repeat (first | refine blk_drewN ?_ _ | refine blk_drew ?_ | refine blk_alloc ?_ _)); exact BK101.out) Tryd.underlying28 rfl (by kernel_rfl)) rfl ?_
    exact ⟨_, er_, by (with_reducible repeat (first | apply Kd.R_alloc | apply Kd.R_drewN | apply Kd.R_drew)); exact Kd.R_mono (Kd.R_far (p := ⟨gb101, 1, none⟩) (Kd.R_far (p := ⟨gb101, 0, none⟩) (Kd.R_types HO_103001.out BK101.out (by decide)) (fun _ hk => hk.2) (.int .i64 a0)) (fun _ hk => hk.2) (.slice Ao21 x103001_1.length co21)) (fun _ hk => trivial), bl2_ HB.out GE101.out GE102.out⟩


mutual
def spec_ParseTri.l0 : Nat → ByteArray → Int → Int → Int → Int → Int → Option (Int × List Int × Bool)
 | 0, _, _, _, _, _, _ => none
 | k + 1, x0, x4, x5, x6, x7, x8 => if x8 < (x0.size : Int) then (if x6 ≥ 5 then (some (0, ([] : List Int), false)) else (if 0 ≤ x8 then (if (bt x0 x8) = 47 then (spec_ParseTri.j1 k x0 x4 x5 x6 x7 x8 (x7 == (wrap64 (x6 + 1)))) else (spec_ParseTri.j1 k x0 x4 x5 x6 x7 x8 false)) else (none))) else (if x6 ≥ 5 then (some (0, ([] : List Int), false)) else (if x7 = (wrap64 (x6 + 1)) then ((spec_trOf.f k (wrap64 (x6 + 1)) x4).bind fun bt108 => (some (bt108.1, bt108.2, true))) else (some (0, ([] : List Int), false))))
def spec_ParseTri.j1 : Nat → ByteArray → Int → Int → Int → Int → Int → Bool → Option (Int × List Int × Bool)
 | 0, _, _, _, _, _, _, _ => none
 | k + 1, x0, x4, x5, x6, x7, x8, x20 => if x20 = true then (spec_ParseTri.l0 k x0 x4 x5 (wrap64 (x6 + 1)) 0 (wrap64 (x8 + 1))) else (if 0 ≤ x8 then (if x8 < (x0.size : Int) then (if (bt x0 x8) ≥ 48 then (if (bt x0 x8) ≤ 55 then (if x7 ≤ x6 then (if 0 ≤ (wrap64 (3 * x5)) then (spec_ParseTri.l0 k x0 (Go.bits .or .i64 x4 (shl .i64 (((bt x0 x8) - 48) % 256) (wrap64 (3 * x5)))) (wrap64 (x5 + 1)) x6 (wrap64 (x7 + 1)) (wrap64 (x8 + 1))) else (none)) else (some (0, ([] : List Int), false))) else (some (0, ([] : List Int), false))) else (some (0, ([] : List Int), false))) else (none)) else (none))
end
def spec_ParseTri.f (k : Nat) (a0 : ByteArray) : Option (Int × List Int × Bool) := spec_ParseTri.l0 k a0 0 0 0 0 0
theorem spec_ParseTri.mono_l : ∀ k, (∀ y0 y1 y2 y3 y4 y5, LeO (spec_ParseTri.l0 k y0 y1 y2 y3 y4 y5) (spec_ParseTri.l0 (k + 1) y0 y1 y2 y3 y4 y5)) ∧ (∀ y0 y1 y2 y3 y4 y5 y6, LeO (spec_ParseTri.j1 k y0 y1 y2 y3 y4 y5 y6) (spec_ParseTri.j1 (k + 1) y0 y1 y2 y3 y4 y5 y6))
 | 0 => ⟨fun _ _ _ _ _ _ r h => by simp [spec_ParseTri.l0] at h, fun _ _ _ _ _ _ _ r h => by simp [spec_ParseTri.j1] at h⟩
 | k + 1 => by
  obtain ⟨ih0, ih1⟩ := spec_ParseTri.mono_l k
  refine ⟨?_, ?_⟩
  ·intro y0 y1 y2 y3 y4 y5
   unfold spec_ParseTri.l0
   repeat' first
   | (with_reducible exact ih0 _ _ _ _ _ _)
   | (with_reducible exact ih1 _ _ _ _ _ _ _)
   | (with_reducible exact spec_trOf.mono _ _ _)
   | (with_reducible exact LeO.refl _)
   | (with_reducible exact LeO.none _)
   | (with_reducible refine LeO.ite ?_ ?_)
   | (with_reducible refine LeO.bind ?_ (fun _ => ?_))
   | exact ih0 _ _ _ _ _ _
   | exact ih1 _ _ _ _ _ _ _
   | exact spec_trOf.mono _ _ _
   | exact LeO.none _
   | refine LeO.ite ?_ ?_
   | refine LeO.bind ?_ (fun _ => ?_)
  ·intro y0 y1 y2 y3 y4 y5 y6
   unfold spec_ParseTri.j1
   repeat' first
   | (with_reducible exact ih0 _ _ _ _ _ _)
   | (with_reducible exact ih1 _ _ _ _ _ _ _)
   | (with_reducible exact spec_trOf.mono _ _ _)
   | (with_reducible exact LeO.refl _)
   | (with_reducible exact LeO.none _)
   | (with_reducible refine LeO.ite ?_ ?_)
   | (with_reducible refine LeO.bind ?_ (fun _ => ?_))
   | exact ih0 _ _ _ _ _ _
   | exact ih1 _ _ _ _ _ _ _
   | exact spec_trOf.mono _ _ _
   | exact LeO.none _
   | refine LeO.ite ?_ ?_
   | refine LeO.bind ?_ (fun _ => ?_)
theorem spec_ParseTri.mono : ∀ a0 k, LeO (spec_ParseTri.f k a0) (spec_ParseTri.f (k + 1) a0) := by
 intro a0 k
 obtain ⟨ih0, ih1⟩ := spec_ParseTri.mono_l k
 unfold spec_ParseTri.f
 repeat' first
   | (with_reducible exact ih0 _ _ _ _ _ _)
   | (with_reducible exact ih1 _ _ _ _ _ _ _)
   | (with_reducible exact spec_trOf.mono _ _ _)
   | (with_reducible exact LeO.refl _)
   | (with_reducible exact LeO.none _)
   | (with_reducible refine LeO.ite ?_ ?_)
   | (with_reducible refine LeO.bind ?_ (fun _ => ?_))
   | exact ih0 _ _ _ _ _ _
   | exact ih1 _ _ _ _ _ _ _
   | exact spec_trOf.mono _ _ _
   | exact LeO.none _
   | refine LeO.ite ?_ ?_
   | refine LeO.bind ?_ (fun _ => ?_)
set_option maxHeartbeats 8000000 in
set_option maxRecDepth 100000 in
theorem spec_ParseTri.calls (k : Nat) (a0 : ByteArray) (r1 : Int) (r2 : List Int) (r3 : Bool) (w : World) (h : spec_ParseTri.f k a0 = some (r1, r2, r3)) :
  Calls Tryd.prog 26 #[.string a0] w fun e w' => ∃ v1_ : Value, e = .returned (.tuple #[.agg #[.int .i64 r1, v1_], .bool r3]) ∧ Kd.R (Kd.int .i64) 3 w' w.heap.size (fun _ => True) v1_ r2 ∧ Below w.heap.size w w' := by
 have hu28 := Tryd.underlying28
 have HB := Aside0.mk (Below.refl w.heap.size w)
 have H : (spec_ParseTri.l0 k a0 0 0 0 0 0) = some (r1, r2, r3) := h
 clear h
 have H' := Aside0.mk H
 clear H
 go_enter Tryd.func26, Tryd.ntmps26
 go_wp2_with (first | ((with_reducible refine gate_dst (N := 2) rfl ?_); refine boxE_ (N := 2) (cs := #[.int .i64 0, .slice none 0 0]) (t := 28) ?_; intro gb107 hg w2 hbox hb; have n0_ := Aside0.mk (below_step (bl0_ HB.out) hb); have n1_ := Aside0.mk (hbox); have n2_ := Aside0.mk ((bs0_ hg HB.out : w.heap.size ≤ gb107)); have n3_ := Aside0.mk ((bs0_ hg HB.out : w.heap.size ≤ gb107)); clear HB; have HB := n0_; have BK107 := n1_; have GW107 := n2_; have GE107 := n3_; clear n0_ n1_ n2_ n3_; clear hb hbox hg))
 go_loopg [4, 5, 6, 7, 8] k (fun kq v4 v5 v6 v7 v8 w' => ∃ (x4_1 : Int) (x5_1 : Int) (x6_1 : Int) (x7_1 : Int) (x8_1 : Int) (x108000_1 : Int), v4 = .int .i64 x4_1 ∧ v5 = .int .i64 x5_1 ∧ v6 = .int .i64 x6_1 ∧ v7 = .int .i64 x7_1 ∧ v8 = .int .i64 x8_1 ∧ Aside0 (spec_ParseTri.l0 kq a0 x4_1 x5_1 x6_1 x7_1 x8_1 = some (r1, r2, r3)) ∧ Aside0 (kq ≤ k) ∧ Aside0 (w'.heap[gb107]? = some (.cells #[.int .i64 x108000_1, (.slice none 0 0)] 28 (0, 0))) ∧ Aside0 (Below w.heap.size w w'))
 case atStart => exact ⟨(0), (0), (0), (0), (0), (0), rs_, rs_, rs_, rs_, rs_, H', ⟨Nat.le_refl _⟩, ⟨bk_ BK107.out⟩, ⟨bl1_ HB.out GE107.out⟩⟩
 case round =>
  clear H'
  try clear c2
  try clear p2
  obtain ⟨x4_1, x5_1, x6_1, x7_1, x8_1, x108000_1, rfl, rfl, rfl, rfl, rfl, HA, HK1, BK107, HB⟩ := hrel
  cases gk with
  | zero => exact absurd HA.out (by simp [spec_ParseTri.l0])
  | succ k1 =>
   have H := HA.out
   clear HA
   simp only [spec_ParseTri.l0] at H
   by_cases c3 : x8_1 < (a0.size : Int)
   ·rw [if_pos c3] at H
    have c3b0 : decide (x8_1 < (a0.size : Int)) = true := decide_eq_true c3
    clear c3
    by_cases c4 : x6_1 ≥ 5
    ·rw [if_pos c4] at H
     have c4b0 : decide (5 ≤ x6_1) = true := decide_eq_true c4
     clear c4
     simp only [Option.some.injEq, Prod.mk.injEq] at H
     obtain ⟨rfl, rfl, rfl⟩ := H
     have hcz5_0 : wr.cell? ⟨gb107, 0, none⟩ = some (.int .i64 x108000_1) := (blk_cell BK107.out 0).trans rfl
     have hcz5_1 : wr.cell? ⟨gb107, 1, none⟩ = some (.slice none 0 0) := (blk_cell BK107.out 1).trans rfl
     have hfz5_0 := blk_frozen BK107.out 0
     have hfz5_1 := blk_frozen BK107.out 1
     go_wp2
     refine bodyPost_ret (results_ct rfl _ _ gb107 28 #[.int .i64 0, .slice none 0 0] (0, 0) _ rfl (by (with_reducible repeat (first | refine blk_drewN ?_ _ | refine blk_drew ?_ | refine blk_alloc ?_ _)); refine blk_put (cs := #[.int .i64 0, .slice none 0 0]) ?_ 1 _ rfl; (with_reducible repeat (first | refine blk_drewN ?_ _ | refine blk_drew ?_ | refine blk_alloc ?_ _)); refine blk_put (cs := #[.int .i64 x108000_1, .slice none 0 0]) ?_ 0 _ rfl; (with_reducible repeat (first | refine blk_drewN ?_ _ | refine blk_drew ?_ | refine blk_alloc ?_ _)); exact BK107.out) Tryd.underlying28 rfl (by kernel_rfl)) rfl ?_
     exact ⟨_, er_, by first | exact Kd.R_nil _ _ _ _ _ | exact Kd.N_nil _ _ _ _ _ | exact Kd.V_nil _ _ _ _ _ | exact Kd.Q_nil _ _ _ _ _ | exact Kd.S_nil _ _ _ _ _, bl1_ HB.out GE107.out⟩
    ·rw [if_neg c4] at H
     have c4b0 : decide (5 ≤ x6_1) = false := decide_eq_false c4
     clear c4
     have HC6 := Aside0.mk H
     clear H
     go_upto_region 8 with (fail)
     go_cut [20] (fun v20 wc => ∃ (kq : Nat) (x20_5 : Bool), v20 = .bool x20_5 ∧ Aside0 (spec_ParseTri.j1 kq a0 x4_1 x5_1 x6_1 x7_1 x8_1 x20_5 = some (r1, r2, r3)) ∧ Aside0 (kq ≤ k1) ∧ Aside0 (wc.heap[gb107]? = some (.cells #[.int .i64 x108000_1, (.slice none 0 0)] 28 (0, 0))) ∧ Aside0 (Below w.heap.size w wc))
     case first =>
      have H := HC6.out
      clear HC6
      by_cases c7 : 0 ≤ x8_1
      ·rw [if_pos c7] at H
       have c7b0 : decide (0 ≤ x8_1) = true := decide_eq_true c7
       clear c7
       (first | rw [c7b0] | (simp only [i64_w, i32_w]; rw [c7b0]) | skip)
       by_cases c9 : (bt a0 x8_1) = 47
       ·rw [if_pos c9] at H
        have c9b0 : ((bt a0 x8_1) == 47) = true := beq_iff_eq.mpr c9
        have c9b1 : ((bt a0 x8_1) != 47) = false := bne_eq_false_iff_eq.mpr c9
        clear c9
        have H' := Aside0.mk H
        clear H
        have p8 : 0 ≤ (x8_1 : Int) := of_decide_eq_true as_
        have q8 : x8_1 < (a0.size : Int) := of_decide_eq_true as_
        have hx8 := bt_at a0 x8_1
        replace p8 := eq_true p8
        replace q8 := eq_true q8
        go_wp2
        go_meet
        case rel => exact ⟨_, ((x7_1 == (wrap64 (x6_1 + 1)))), rs_, H', ⟨by have := HK1.out; first | omega | exact Nat.le_refl _⟩, ⟨bk_ BK107.out⟩, ⟨bl1_ HB.out GE107.out⟩⟩
       ·rw [if_neg c9] at H
        have c9b0 : ((bt a0 x8_1) == 47) = false := beq_eq_false_iff_ne.mpr c9
        have c9b1 : ((bt a0 x8_1) != 47) = true := bne_iff_ne.mpr c9
        have H' := Aside0.mk H
        clear H
        have p8 : 0 ≤ (x8_1 : Int) := of_decide_eq_true as_
        have q8 : x8_1 < (a0.size : Int) := of_decide_eq_true as_
        have hx8 := bt_at a0 x8_1
        replace p8 := eq_true p8
        replace q8 := eq_true q8
        go_wp2
        go_meet
        case rel => exact ⟨_, (false), rs_, H', ⟨by have := HK1.out; first | omega | exact Nat.le_refl _⟩, ⟨bk_ BK107.out⟩, ⟨bl1_ HB.out GE107.out⟩⟩
      ·rw [if_neg c7] at H
       exact absurd H (by simp)
     case rest =>
      clear HC6
      try clear c2
      try clear p2
      try clear c3
      try clear c3b0
      try clear c4
      try clear c4b0
      try clear p6
      try clear c7
      try clear c7b0
      try clear p8
      try clear q8
      try clear hx8
      try clear c9
      try clear c9b0
      try clear c9b1
      try clear hcz5_0
      try clear hcz5_1
      try clear hfz5_0
      try clear hfz5_1
      try clear p2
      try clear p8
      try clear q8
      obtain ⟨kq, x20_5, rfl, HA, HJ5, BK107, HB⟩ := hcut
      cases kq with
      | zero => exact absurd HA.out (by simp [spec_ParseTri.j1])
      | succ kj5 =>
       have H := HA.out
       clear HA
       simp only [spec_ParseTri.j1] at H
       by_cases c10 : x20_5 = true
       ·subst c10
        have H1 : (spec_ParseTri.l0 kj5 a0 x4_1 x5_1 (wrap64 (x6_1 + 1)) 0 (wrap64 (x8_1 + 1))) = some (r1, r2, r3) := by rw [if_pos rfl] at H; exact H
        clear H
        have H := H1
        clear H1
        have H' := Aside0.mk H
        clear H
        go_wp2
        go_roundg kj5
        case measure => have := HK1.out; have := HJ5.out; omega
        case rel => exact ⟨(x4_1), (x5_1), (wrap64 (x6_1 + 1)), (0), (wrap64 (x8_1 + 1)), (x108000_1), rs_, rs_, rs_, rs_, rs_, H', ⟨by have := HK1.out; have := HJ5.out; omega⟩, ⟨bk_ BK107.out⟩, ⟨bl1_ HB.out GE107.out⟩⟩
       ·replace c10 := Bool.eq_false_iff.mpr c10
        subst c10
        have H1 : (if 0 ≤ x8_1 then (if x8_1 < (a0.size : Int) then (if (bt a0 x8_1) ≥ 48 then (if (bt a0 x8_1) ≤ 55 then (if x7_1 ≤ x6_1 then (if 0 ≤ (wrap64 (3 * x5_1)) then (spec_ParseTri.l0 kj5 a0 (Go.bits .or .i64 x4_1 (shl .i64 (((bt a0 x8_1) - 48) % 256) (wrap64 (3 * x5_1)))) (wrap64 (x5_1 + 1)) x6_1 (wrap64 (x7_1 + 1)) (wrap64 (x8_1 + 1))) else (none)) else (some (0, ([] : List Int), false))) else (some (0, ([] : List Int), false))) else (some (0, ([] : List Int), false))) else (none)) else (none)) = some (r1, r2, r3) := by rw [if_neg (show ¬ (false = true) by decide)] at H; exact H
        clear H
        have H := H1
        clear H1
        by_cases c11 : 0 ≤ x8_1
        ·rw [if_pos c11] at H
         have c11b0 : decide (0 ≤ x8_1) = true := decide_eq_true c11
         clear c11
         by_cases c12 : x8_1 < (a0.size : Int)
         ·rw [if_pos c12] at H
          have c12b0 : decide (x8_1 < (a0.size : Int)) = true := decide_eq_true c12
          clear c12
          by_cases c14 : (bt a0 x8_1) ≥ 48
          ·rw [if_pos c14] at H
           have c14b0 : decide (48 ≤ (bt a0 x8_1)) = true := decide_eq_true c14
           clear c14
           by_cases c16 : (bt a0 x8_1) ≤ 55
           ·rw [if_pos c16] at H
            have c16b0 : decide ((bt a0 x8_1) ≤ 55) = true := decide_eq_true c16
            clear c16
            by_cases c17 : x7_1 ≤ x6_1
            ·rw [if_pos c17] at H
             have c17b0 : decide (x7_1 ≤ x6_1) = true := decide_eq_true c17
             clear c17
             obtain ⟨ji19, hji19⟩ : ∃ j_ : Int, (wrap64 (3 * x5_1)) = j_ := ⟨_, rfl⟩
             replace H : (if 0 ≤ (ji19) then (spec_ParseTri.l0 kj5 a0 (Go.bits .or .i64 x4_1 (shl .i64 (((bt a0 x8_1) - 48) % 256) (ji19))) (wrap64 (x5_1 + 1)) x6_1 (wrap64 (x7_1 + 1)) (wrap64 (x8_1 + 1))) else (none)) = some (r1, r2, r3) := by first | (rw [hji19] at H; exact H) | (simp only [hji19] at H ⊢; exact H)
             have hji19w : (IntKind.i64.wrap (3 * x5_1)) = ji19 := (i64_w _).trans hji19
             by_cases c20 : 0 ≤ (ji19)
             ·rw [if_pos c20] at H
              have c20b0 := eq_true c20
              have c20b1 : decide (0 ≤ (ji19)) = true := decide_eq_true c20
              clear c20
              obtain ⟨ji21, hji21⟩ : ∃ j_ : Int, (shl .i64 (((bt a0 x8_1) - 48) % 256) (ji19)) = j_ := ⟨_, rfl⟩
              replace H : (spec_ParseTri.l0 kj5 a0 (Go.bits .or .i64 x4_1 (ji21)) (wrap64 (x5_1 + 1)) x6_1 (wrap64 (x7_1 + 1)) (wrap64 (x8_1 + 1))) = some (r1, r2, r3) := by first | (rw [hji21] at H; exact H) | (simp only [hji21] at H ⊢; exact H)
              have hji21_ : (IntKind.i64.wrap ((((bt a0 x8_1) - 48) % 256) * 2 ^ min (ji19).toNat 64)) = ji21 := hji21
              have hji21z : (ji19) ≤ 64 → (IntKind.i64.wrap ((((bt a0 x8_1) - 48) % 256) * 2 ^ (ji19).toNat)) = ji21 := shl_small hji21
              have hji21y : (wrap64 ((((bt a0 x8_1) - 48) % 256) * 2 ^ min (ji19).toNat 64)) = ji21 := (i64_w _).symm.trans hji21_
              have hji21x : (ji19) ≤ 64 → (wrap64 ((((bt a0 x8_1) - 48) % 256) * 2 ^ (ji19).toNat)) = ji21 := fun h_ => (i64_w _).symm.trans (hji21z h_)
              have H' := Aside0.mk H
              clear H
              have p13 : 0 ≤ (x8_1 : Int) := of_decide_eq_true as_
              have q13 : x8_1 < (a0.size : Int) := of_decide_eq_true as_
              have hx13 := bt_at a0 x8_1
              replace p13 := eq_true p13
              replace q13 := eq_true q13
              have p15 : 0 ≤ (x8_1 : Int) := of_decide_eq_true as_
              have q15 : x8_1 < (a0.size : Int) := of_decide_eq_true as_
              have hx15 := bt_at a0 x8_1
              replace p15 := eq_true p15
              replace q15 := eq_true q15
              have p18 : 0 ≤ (x8_1 : Int) := of_decide_eq_true as_
              have q18 : x8_1 < (a0.size : Int) := of_decide_eq_true as_
              have hx18 := bt_at a0 x8_1
              replace p18 := eq_true p18
              replace q18 := eq_true q18
              go_wp2
              go_roundg kj5
              case measure => have := HK1.out; have := HJ5.out; omega
              case rel => exact ⟨(Go.bits .or .i64 x4_1 (ji21)), (wrap64 (x5_1 + 1)), (x6_1), (wrap64 (x7_1 + 1)), (wrap64 (x8_1 + 1)), (x108000_1), (by first | rfl | (simp; done) | (simp only [← hji21] <;> (first | rfl | simp)) | (simp [*]; done)), rs_, rs_, rs_, rs_, H', ⟨by have := HK1.out; have := HJ5.out; omega⟩, ⟨bk_ BK107.out⟩, ⟨bl1_ HB.out GE107.out⟩⟩
             ·rw [if_neg c20] at H
              exact absurd H (by simp)
            ·rw [if_neg c17] at H
             have c17b0 : decide (x7_1 ≤ x6_1) = false := decide_eq_false c17
             clear c17
             simp only [Option.some.injEq, Prod.mk.injEq] at H
             obtain ⟨rfl, rfl, rfl⟩ := H
             have p13 : 0 ≤ (x8_1 : Int) := of_decide_eq_true as_
             have q13 : x8_1 < (a0.size : Int) := of_decide_eq_true as_
             have hx13 := bt_at a0 x8_1
             replace p13 := eq_true p13
             replace q13 := eq_true q13
             have p15 : 0 ≤ (x8_1 : Int) := of_decide_eq_true as_
             have q15 : x8_1 < (a0.size : Int) := of_decide_eq_true as_
             have hx15 := bt_at a0 x8_1
             replace p15 := eq_true p15
             replace q15 := eq_true q15
             have hcz22_0 : wc.cell? ⟨gb107, 0, none⟩ = some (.int .i64 x108000_1) := (blk_cell BK107.out 0).trans rfl
             have hcz22_1 : wc.cell? ⟨gb107, 1, none⟩ = some (.slice none 0 0) := (blk_cell BK107.out 1).trans rfl
             have hfz22_0 := blk_frozen BK107.out 0
             have hfz22_1 := blk_frozen BK107.out 1
             go_wp2
             refine bodyPost_ret (results_ct rfl _ _ gb107 28 #[.int .i64 0, .slice none 0 0] (0, 0) _ rfl (by (with_reducible repeat (first | refine blk_drewN ?_ _ | refine blk_drew ?_ | refine blk_alloc ?_ _)); refine blk_put (cs := #[.int .i64 0, .slice none 0 0]) ?_ 1 _ rfl; (with_reducible repeat (first | refine blk_drewN ?_ _ | refine blk_drew ?_ | refine blk_alloc ?_ _)); refine blk_put (cs := #[.int .i64 x108000_1, .slice none 0 0]) ?_ 0 _ rfl; (with_reducible repeat (first | refine blk_drewN ?_ _ | refine blk_drew ?_ | refine blk_alloc ?_ _)); exact BK107.out) Tryd.underlying28 rfl (by kernel_rfl)) rfl ?_
             exact ⟨_, er_, by first | exact Kd.R_nil _ _ _ _ _ | exact Kd.N_nil _ _ _ _ _ | exact Kd.V_nil _ _ _ _ _ | exact Kd.Q_nil _ _ _ _ _ | exact Kd.S_nil _ _ _ _ _, bl1_ HB.out GE107.out⟩
           ·rw [if_neg c16] at H
            have c16b0 : decide ((bt a0 x8_1) ≤ 55) = false := decide_eq_false c16
            clear c16
            simp only [Option.some.injEq, Prod.mk.injEq] at H
            obtain ⟨rfl, rfl, rfl⟩ := H
            have p13 : 0 ≤ (x8_1 : Int) := of_decide_eq_true as_
            have q13 : x8_1 < (a0.size : Int) := of_decide_eq_true as_
            have hx13 := bt_at a0 x8_1
            replace p13 := eq_true p13
            replace q13 := eq_true q13
            have p15 : 0 ≤ (x8_1 : Int) := of_decide_eq_true as_
            have q15 : x8_1 < (a0.size : Int) := of_decide_eq_true as_
            have hx15 := bt_at a0 x8_1
            replace p15 := eq_true p15
            replace q15 := eq_true q15
            have hcz23_0 : wc.cell? ⟨gb107, 0, none⟩ = some (.int .i64 x108000_1) := (blk_cell BK107.out 0).trans rfl
            have hcz23_1 : wc.cell? ⟨gb107, 1, none⟩ = some (.slice none 0 0) := (blk_cell BK107.out 1).trans rfl
            have hfz23_0 := blk_frozen BK107.out 0
            have hfz23_1 := blk_frozen BK107.out 1
            go_wp2
            refine bodyPost_ret (results_ct rfl _ _ gb107 28 #[.int .i64 0, .slice none 0 0] (0, 0) _ rfl (by (with_reducible repeat (first | refine blk_drewN ?_ _ | refine blk_drew ?_ | refine blk_alloc ?_ _)); refine blk_put (cs := #[.int .i64 0, .slice none 0 0]) ?_ 1 _ rfl; (with_reducible repeat (first | refine blk_drewN ?_ _ | refine blk_drew ?_ | refine blk_alloc ?_ _)); refine blk_put (cs := #[.int .i64 x108000_1, .slice none 0 0]) ?_ 0 _ rfl; (with_reducible repeat (first | refine blk_drewN ?_ _ | refine blk_drew ?_ | refine blk_alloc ?_ _)); exact BK107.out) Tryd.underlying28 rfl (by kernel_rfl)) rfl ?_
            exact ⟨_, er_, by first | exact Kd.R_nil _ _ _ _ _ | exact Kd.N_nil _ _ _ _ _ | exact Kd.V_nil _ _ _ _ _ | exact Kd.Q_nil _ _ _ _ _ | exact Kd.S_nil _ _ _ _ _, bl1_ HB.out GE107.out⟩
          ·rw [if_neg c14] at H
           have c14b0 : decide (48 ≤ (bt a0 x8_1)) = false := decide_eq_false c14
           clear c14
           simp only [Option.some.injEq, Prod.mk.injEq] at H
           obtain ⟨rfl, rfl, rfl⟩ := H
           have p13 : 0 ≤ (x8_1 : Int) := of_decide_eq_true as_
           have q13 : x8_1 < (a0.size : Int) := of_decide_eq_true as_
           have hx13 := bt_at a0 x8_1
           replace p13 := eq_true p13
           replace q13 := eq_true q13
           have hcz24_0 : wc.cell? ⟨gb107, 0, none⟩ = some (.int .i64 x108000_1) := (blk_cell BK107.out 0).trans rfl
           have hcz24_1 : wc.cell? ⟨gb107, 1, none⟩ = some (.slice none 0 0) := (blk_cell BK107.out 1).trans rfl
           have hfz24_0 := blk_frozen BK107.out 0
           have hfz24_1 := blk_frozen BK107.out 1
           go_wp2
           refine bodyPost_ret (results_ct rfl _ _ gb107 28 #[.int .i64 0, .slice none 0 0] (0, 0) _ rfl (by (with_reducible repeat (first | refine blk_drewN ?_ _ | refine blk_drew ?_ | refine blk_alloc ?_ _)); refine blk_put (cs := #[.int .i64 0, .slice none 0 0]) ?_ 1 _ rfl; (with_reducible repeat (first | refine blk_drewN ?_ _ | refine blk_drew ?_ | refine blk_alloc ?_ _)); refine blk_put (cs := #[.int .i64 x108000_1, .slice none 0 0]) ?_ 0 _ rfl; (with_reducible repeat (first | refine blk_drewN ?_ _ | refine blk_drew ?_ | refine blk_alloc ?_ _)); exact BK107.out) Tryd.underlying28 rfl (by kernel_rfl)) rfl ?_
           exact ⟨_, er_, by first | exact Kd.R_nil _ _ _ _ _ | exact Kd.N_nil _ _ _ _ _ | exact Kd.V_nil _ _ _ _ _ | exact Kd.Q_nil _ _ _ _ _ | exact Kd.S_nil _ _ _ _ _, bl1_ HB.out GE107.out⟩
         ·rw [if_neg c12] at H
          exact absurd H (by simp)
        ·rw [if_neg c11] at H
         exact absurd H (by simp)
   ·rw [if_neg c3] at H
    have c3b0 : decide (x8_1 < (a0.size : Int)) = false := decide_eq_false c3
    clear c3
    by_cases c25 : x6_1 ≥ 5
    ·rw [if_pos c25] at H
     have c25b0 : decide (5 ≤ x6_1) = true := decide_eq_true c25
     clear c25
     simp only [Option.some.injEq, Prod.mk.injEq] at H
     obtain ⟨rfl, rfl, rfl⟩ := H
     have hcz26_0 : wr.cell? ⟨gb107, 0, none⟩ = some (.int .i64 x108000_1) := (blk_cell BK107.out 0).trans rfl
     have hcz26_1 : wr.cell? ⟨gb107, 1, none⟩ = some (.slice none 0 0) := (blk_cell BK107.out 1).trans rfl
     have hfz26_0 := blk_frozen BK107.out 0
     have hfz26_1 := blk_frozen BK107.out 1
     go_wp2
     refine bodyPost_ret (results_ct rfl _ _ gb107 28 #[.int .i64 0, .slice none 0 0] (0, 0) _ rfl (by (with_reducible repeat (first | refine blk_drewN ?_ _ | refine blk_drew ?_ | refine blk_alloc ?_ _)); refine blk_put (cs := #[.int .i64 0, .slice none 0 0]) ?_ 1 _ rfl; (with_reducible repeat (first | refine blk_drewN ?_ _ | refine blk_drew ?_ | refine blk_alloc ?_ _)); refine blk_put (cs := #[.int .i64 x108000_1, .slice none 0 0]) ?_ 0 _ rfl; (with_reducible repeat (first | refine blk_drewN ?_ _ | refine blk_drew ?_ | refine blk_alloc ?_ _)); exact BK107.out) Tryd.underlying28 rfl (by kernel_rfl)) rfl ?_
     exact ⟨_, er_, by first | exact Kd.R_nil _ _ _ _ _ | exact Kd.N_nil _ _ _ _ _ | exact Kd.V_nil _ _ _ _ _ | exact Kd.Q_nil _ _ _ _ _ | exact Kd.S_nil _ _ _ _ _, bl1_ HB.out GE107.out⟩
    ·rw [if_neg c25] at H
     have c25b0 : decide (5 ≤ x6_1) = false := decide_eq_false c25
     clear c25
     by_cases c27 : x7_1 = (wrap64 (x6_1 + 1))
     ·rw [if_pos c27] at H
      have c27b0 : (x7_1 == (wrap64 (x6_1 + 1))) = true := beq_iff_eq.mpr c27
      have c27b1 : (x7_1 != (wrap64 (x6_1 + 1))) = false := bne_eq_false_iff_eq.mpr c27
      clear c27
      replace H := Option.bind_eq_some_iff.mp H
      obtain ⟨⟨t108, t109⟩, A280, H⟩ := H
      replace H : (some (t108, t109, true)) = some (r1, r2, r3) := H
      have A28 := Aside0.mk A280
      clear A280
      simp only [Option.some.injEq, Prod.mk.injEq] at H
      obtain ⟨rfl, rfl, rfl⟩ := H
      go_wp2_with (first | ((with_reducible refine gate_callee (f := 64) rfl ?_); refine goesL_ (some 75) rfl rfl Tryd.func64 (by kernel_rfl) rfl #[.int .i64 (wrap64 (x6_1 + 1)), .int .i64 x4_1] rfl ob_ ?_; (with_reducible refine (spec_trOf.calls k1 (wrap64 (x6_1 + 1)) x4_1 t108 t109 _ A28.out).mono ?_); rintro e w29 ⟨v110, rfl, ho0, hb⟩; refine ⟨_, rfl, ?_⟩; have n0_ := Aside0.mk (Kd.R_lower ho0 (below_size (bl1_ HB.out GE107.out))); have n1_ := Aside0.mk (bb_ BK107.out hb); have n2_ := Aside0.mk (below_step (bl1_ HB.out GE107.out) hb); clear BK107; clear HB; have HO111 := n0_; have BK107 := n1_; have HB := n2_; clear n0_ n1_ n2_; (try clear hb); (try clear hb2); (try clear hk); (try clear hi); (try clear ho0); have hcz30_0 : w29.cell? ⟨gb107, 0, none⟩ = some (.int .i64 x108000_1) := (blk_cell BK107.out 0).trans rfl; have hcz30_1 : w29.cell? ⟨gb107, 1, none⟩ = some (.slice none 0 0) := (blk_cell BK107.out 1).trans rfl; have hfz30_0 := blk_frozen BK107.out 0; have hfz30_1 := blk_frozen BK107.out 1; obtain ⟨Ao31, co31, eo31⟩ := Kd.R_slice HO111.out; subst eo31))
      refine bodyPost_ret (results_ct rfl _ _ gb107 28 #[.int .i64 t108, .slice Ao31 t109.length co31] (0, 0) _ rfl (by (with_reducible repeat (first | refine blk_drewN ?_ _ | refine blk_drew ?_ | refine blk_alloc ?_ _)); refine blk_put (cs := #[.int .i64 t108, .slice none 0 0]) ?_ 1 _ rfl; (with_reducible repeat (first | refine blk_drewN ?_ _ | refine blk_drew ?_ | refine blk_alloc ?_ _)); refine blk_put (cs := #[.int .i64 x108000_1, .slice none 0 0]) ?_ 0 _ rfl; (with_reducible repeat (first | refine blk_drewN ?_ _ | refine blk_drew ?_ | refine blk_alloc ?_ _)); exact BK107.out) Tryd.underlying28 rfl (by kernel_rfl)) rfl ?_
      exact ⟨_, er_, by (with_reducible repeat (first | apply Kd.R_alloc | apply Kd.R_drewN | apply Kd.R_drew)); exact Kd.R_mono (Kd.R_far (p := ⟨gb107, 1, none⟩) (Kd.R_far (p := ⟨gb107, 0, none⟩) (Kd.R_types HO111.out BK107.out (by decide)) (fun _ hk => hk.2) (.int .i64 t108)) (fun _ hk => hk.2) (.slice Ao31 t109.length co31)) (fun _ hk => trivial), bl1_ HB.out GE107.out⟩
     ·rw [if_neg c27] at H
      have c27b0 : (x7_1 == (wrap64 (x6_1 + 1))) = false := beq_eq_false_iff_ne.mpr c27
      have c27b1 : (x7_1 != (wrap64 (x6_1 + 1))) = true := bne_iff_ne.mpr c27
      simp only [Option.some.injEq, Prod.mk.injEq] at H
      obtain ⟨rfl, rfl, rfl⟩ := H
      have hcz32_0 : wr.cell? ⟨gb107, 0, none⟩ = some (.int .i64 x108000_1) := (blk_cell BK107.out 0).trans rfl
      have hcz32_1 : wr.cell? ⟨gb107, 1, none⟩ = some (.slice none 0 0) := (blk_cell BK107.out 1).trans rfl
      have hfz32_0 := blk_frozen BK107.out 0
      have hfz32_1 := blk_frozen BK107.out 1
      go_wp2
      refine bodyPost_ret (results_ct rfl _ _ gb107 28 #[.int .i64 0, .slice none 0 0] (0, 0) _ rfl (by (with_reducible repeat (first | refine blk_drewN ?_ _ | refine blk_drew ?_ | refine blk_alloc ?_ _)); refine blk_put (cs := #[.int .i64 0, .slice none 0 0]) ?_ 1 _ rfl; (with_reducible repeat (first | refine blk_drewN ?_ _ | refine blk_drew ?_ | refine blk_alloc ?_ _)); refine blk_put (cs := #[.int .i64 x108000_1, .slice none 0 0]) ?_ 0 _ rfl; (with_reducible repeat (first | refine blk_drewN ?_ _ | refine blk_drew ?_ | refine blk_alloc ?_ _)); exact BK107.out) Tryd.underlying28 rfl (by kernel_rfl)) rfl ?_
      exact ⟨_, er_, by first | exact Kd.R_nil _ _ _ _ _ | exact Kd.N_nil _ _ _ _ _ | exact Kd.V_nil _ _ _ _ _ | exact Kd.Q_nil _ _ _ _ _ | exact Kd.S_nil _ _ _ _ _, bl1_ HB.out GE107.out⟩


def TBM (w : World) : Prop := ∃ m : Int, w.cell? ⟨1, 0, none⟩ = some (.int .i64 m)
theorem TBM.below {w w' : World} (h : TBM w) (hb : Below w.heap.size w w') : TBM w' := by
  first
    | exact trivial
    | (obtain ⟨m, hm⟩ := h; exact ⟨m, pw_cell_below hb hm⟩)
def TB (w : World) : Prop := (∀ j, j < 64 → w.cell? ⟨0, j, none⟩ = some (.int .u8 (Lib.deBruijn64tab.getD j 0))) ∧ TBM w
theorem TB.below {w w' : World} (h : TB w) (hb : Below w.heap.size w w') : TB w' := ⟨fun j hj => pw_cell_below hb (h.1 j hj), h.2.below hb⟩
theorem tz_key (x a : Nat) (hx : x < 18446744073709551616) (hx0 : x ≠ 0) (hlow : x &&& (18446744073709551616 - x) = a) :
    IntKind.u64.wrap (bits BinOp.and IntKind.u64 (x : Int) (IntKind.u64.wrap (-(x : Int))) * 285870213051353865) / 288230376151711744 = ((a * 285870213051353865 % 18446744073709551616 / 288230376151711744 : Nat) : Int) := by
  have e1 : IntKind.u64.wrap (-(x : Int)) = ((18446744073709551616 - x : Nat) : Int) := by rw [IntKind.wrap_u64]; omega
  rw [e1, bits_and_u64_nat x _ hx (by omega), hlow, IntKind.wrap_u64]
  omega
set_option maxHeartbeats 1000000 in
theorem tz_core (x k idx : Nat) (w : World) (hx0 : ((x : Int) == 0) = false)
    (key : IntKind.u64.wrap (bits BinOp.and IntKind.u64 (x : Int) (IntKind.u64.wrap (-(x : Int))) * 285870213051353865) / 288230376151711744 = (idx : Int))
    (hi : idx < 64) (hk : k < 64) (hcell : w.cell? ⟨0, idx, none⟩ = some (.int .u8 k)) :
    Calls Tryd.prog 114 #[.int .u64 x] w fun e w' => e = .returned (.int .i64 k) ∧ w' = w := by
  go_enter Tryd.func114, Tryd.ntmps114
  go_wp2_with (simp only [key])
  go_ret
  exact ⟨rfl, rfl⟩
theorem tz_any (x : Nat) (hx : x < 2 ^ 60) (hx0 : x ≠ 0) (w : World) (hT : TB w) :
    Calls Tryd.prog 114 #[.int .u64 x] w fun e w' => e = .returned (.int .i64 (Lib.ctz 64 x)) ∧ w = w' := by
  have hx2 : x < 18446744073709551616 := by omega
  obtain ⟨hlow, hk⟩ := Lib.lowest_bit 64 x hx0 hx2
  obtain ⟨hi, htab⟩ := Lib.deBruijn64_at _ hk
  have hcell := hT.1 _ hi
  rw [htab] at hcell
  exact (tz_core x _ _ w (by simp; omega) (tz_key x _ hx2 hx0 hlow) hi hk hcell).mono fun _ _ h => ⟨h.1, h.2.symm⟩


def strings_Split.f (a0 a1 : ByteArray) : Option (List ByteArray) := if a0.size < 4294967281 ∧ 1 ≤ a1.size then some (Lib.splitB a1 0 (Lib.countB a0 a1) a0) else none
theorem strings_Split.calls (a0 a1 : ByteArray) (r : List ByteArray) (w : World) (hT_ : TB w) (h : strings_Split.f a0 a1 = some r) :
    Calls Tryd.prog 55 #[.string a0, .string a1] w fun e w' => ∃ v0_ : Value, e = .returned v0_ ∧ Kd.R Kd.string 9 w' w.heap.size (fun _ => True) v0_ r ∧ Below w.heap.size w w' := by
  unfold strings_Split.f at h
  split at h
  · rename_i h0
    obtain rfl := Option.some.inj h
    obtain ⟨m, hm⟩ := hT_.2
    have hlen := Lib.splitB_all a1 h0.2 0 _ a0 rfl
    have hle := Lib.countB_le a1 h0.2 a0.size a0 (Nat.le_refl _)
    have hs := h0.1
    refine (Tryd.strings_Split a0 a1 m w h0.1 hm h0.2).mono ?_
    rintro e w' ⟨rfl, rfl⟩
    refine ⟨_, rfl, ?_, below_alloc (Below.refl _ _) _⟩
    rw [← hlen]
    have hL : (Lib.splitB a1 0 (Lib.countB a0 a1) a0).length ≤ 9223372036854775807 := by omega
    generalize Lib.splitB a1 0 (Lib.countB a0 a1) a0 = L at hL
    have h := own_lit_of (enc := Value.string) w w.heap.size 9 L (Nat.le_refl _) hL
    exact Kd.R_of_own (enc := Value.string) (h1 := fun _ => rfl) h (fun _ _ => trivial)
  · cases h


def impl_within.f (a0 : Int) (a1 : Int) (a2 : Int) : Option (Bool) := if a1 ≤ a0 then (some (decide (a0 ≤ a2))) else (some false)
set_option maxHeartbeats 8000000 in
set_option maxRecDepth 100000 in
theorem impl_within.calls (a0 : Int) (a1 : Int) (a2 : Int) (r : Bool) (w : World) (h : impl_within.f a0 a1 a2 = some r) :
    Calls Tryd.prog 99 #[.int .i64 a0, .int .i64 a1, .int .i64 a2] w fun e w' => e = .returned (.bool r) ∧ Drawn0 w w' := by
  have H : (if a1 ≤ a0 then (some (decide (a0 ≤ a2))) else (some false)) = some r := h
  clear h
  by_cases c4 : a1 ≤ a0
  · rw [if_pos c4] at H
    have c4b0 : decide (a1 ≤ a0) = true := decide_eq_true c4
    clear c4
    obtain rfl := Option.some.inj H
    go_enter Tryd.func99, Tryd.ntmps99
    go_wp2
    go_ret
    exact ⟨by first | rfl | (simp; done) | (simp [*]; done), by repeat (first | exact Drawn0.refl _ | apply Drawn0.step)⟩
  · rw [if_neg c4] at H
    have c4b0 : decide (a1 ≤ a0) = false := decide_eq_false c4
    clear c4
    obtain rfl := Option.some.inj H
    go_enter Tryd.func99, Tryd.ntmps99
    go_wp2
    go_ret
    exact ⟨by first | rfl | (simp; done) | (simp [*]; done), by repeat (first | exact Drawn0.refl _ | apply Drawn0.step)⟩


def impl_isLevel.f (a0 : Int) : Option (Bool) := (impl_within.f a0 1 5).bind fun t114 => (some t114)
set_option maxHeartbeats 8000000 in
set_option maxRecDepth 100000 in
theorem impl_isLevel.calls (a0 : Int) (r : Bool) (w : World) (h : impl_isLevel.f a0 = some r) :
    Calls Tryd.prog 65 #[.int .i64 a0] w fun e w' => e = .returned (.bool r) ∧ Drawn0 w w' := by
  have H : ((impl_within.f a0 1 5).bind fun t114 => (some t114)) = some r := h
  clear h
  replace H := Option.bind_eq_some_iff.mp H
  obtain ⟨t114, A20, H⟩ := H
  replace H : (some t114) = some r := H
  have A2 := Aside0.mk A20
  clear A20
  obtain rfl := Option.some.inj H
  go_enter Tryd.func65, Tryd.ntmps65
  go_wp2_with (first | ((with_reducible refine gate_callee (f := 99) rfl ?_); refine goesL_ (some 4) rfl rfl Tryd.func99 (by kernel_rfl) rfl #[.int .i64 a0, .int .i64 1, .int .i64 5] rfl ob_ ?_; (with_reducible refine (impl_within.calls a0 1 5 t114 _ A2.out).mono ?_); rintro e w' ⟨rfl, ⟨nd, rfl⟩⟩; refine ⟨_, rfl, ?_⟩))
  go_ret
  exact ⟨by first | rfl | (simp; done) | (simp [*]; done), by repeat (first | exact Drawn0.refl _ | apply Drawn0.step)⟩


def stepsB : ByteArray := ⟨#[110, 101, 115, 119]⟩
def digitsB : ByteArray := ⟨#[48, 49, 50, 51, 52, 53, 54, 55]⟩
def strings_Trim.f (a0 a1 : ByteArray) : Option ByteArray := if a0.size ≤ 9223372036854775807 ∧ (a1 = stepsB ∨ a1 = digitsB) then some ⟨(Lib.trimS a0.data.toList a1.data.toList).toArray⟩ else none
theorem strings_Trim.calls (a0 a1 : ByteArray) (r : ByteArray) (w : World) (h : strings_Trim.f a0 a1 = some r) :
    Calls Tryd.prog 66 #[.string a0, .string a1] w fun e w' => e = .returned (.string r) ∧ Below w.heap.size w w' := by
  unfold strings_Trim.f at h
  split at h
  · rename_i h0
    obtain rfl := Option.some.inj h
    obtain ⟨h1, rfl | rfl⟩ := h0
    · exact Any.strings_Trim_laid Tryd.lays160 (by kernel_rfl) a0 stepsB w h1 (by decide) (ascii_of_all (by decide))
    · exact Any.strings_Trim_laid Tryd.lays160 (by kernel_rfl) a0 digitsB w h1 (by decide) (ascii_of_all (by decide))
  · cases h


def impl_side.f (a0 : Int) (a1 : Int) (a2 : Int) : Option (Int) := if 0 ≤ (wrap64 ((wrap64 (3 * (wrap64 ((wrap64 (Int.tdiv (wrap64 (a0 * (wrap64 (a0 + 1)))) 2)) + a1)))) + a2)) then (some (shl .u64 1 (wrap64 ((wrap64 (3 * (wrap64 ((wrap64 (Int.tdiv (wrap64 (a0 * (wrap64 (a0 + 1)))) 2)) + a1)))) + a2)))) else (none)
set_option maxHeartbeats 8000000 in
set_option maxRecDepth 100000 in
theorem impl_side.calls (a0 : Int) (a1 : Int) (a2 : Int) (r : Int) (w : World) (h : impl_side.f a0 a1 a2 = some r) :
    Calls Tryd.prog 67 #[.int .i64 a0, .int .i64 a1, .int .i64 a2] w fun e w' => e = .returned (.int .u64 r) ∧ Drawn0 w w' := by
  have H : (if 0 ≤ (wrap64 ((wrap64 (3 * (wrap64 ((wrap64 (Int.tdiv (wrap64 (a0 * (wrap64 (a0 + 1)))) 2)) + a1)))) + a2)) then (some (shl .u64 1 (wrap64 ((wrap64 (3 * (wrap64 ((wrap64 (Int.tdiv (wrap64 (a0 * (wrap64 (a0 + 1)))) 2)) + a1)))) + a2)))) else (none)) = some r := h
  clear h
  obtain ⟨ji4, hji4⟩ : ∃ j_ : Int, (wrap64 ((wrap64 (3 * (wrap64 ((wrap64 (Int.tdiv (wrap64 (a0 * (wrap64 (a0 + 1)))) 2)) + a1)))) + a2)) = j_ := ⟨_, rfl⟩
  replace H : (if 0 ≤ (ji4) then (some (shl .u64 1 (ji4))) else (none)) = some r := by first | (rw [hji4] at H; exact H) | (simp only [hji4] at H ⊢; exact H)
  have hji4w : (IntKind.i64.wrap ((wrap64 (3 * (wrap64 ((wrap64 (Int.tdiv (wrap64 (a0 * (wrap64 (a0 + 1)))) 2)) + a1)))) + a2)) = ji4 := (i64_w _).trans hji4
  by_cases c5 : 0 ≤ (ji4)
  · rw [if_pos c5] at H
    have c5b0 := eq_true c5
    have c5b1 : decide (0 ≤ (ji4)) = true := decide_eq_true c5
    clear c5
    obtain ⟨ji6, hji6⟩ : ∃ j_ : Int, (shl .u64 1 (ji4)) = j_ := ⟨_, rfl⟩
    replace H : (some ji6) = some r := by first | (rw [hji6] at H; exact H) | (simp only [hji6] at H ⊢; exact H)
    have hji6_ : (IntKind.u64.wrap (1 * 2 ^ min (ji4).toNat 64)) = ji6 := hji6
    have hji6z : (ji4) ≤ 64 → (IntKind.u64.wrap (1 * 2 ^ (ji4).toNat)) = ji6 := shl_small hji6
    have hji6u : (IntKind.u64.wrap (2 ^ min (ji4).toNat 64)) = ji6 := by have h_ := hji6_; rw [Int.one_mul] at h_; exact h_
    have hji6v : (ji4) ≤ 64 → (IntKind.u64.wrap (2 ^ (ji4).toNat)) = ji6 := fun hle_ => by have h_ := hji6z hle_; rw [Int.one_mul] at h_; exact h_
    obtain rfl := Option.some.inj H
    go_enter Tryd.func67, Tryd.ntmps67
    go_wp2
    go_ret
    exact ⟨by first | rfl | (simp; done) | (simp only [← hji4, ← hji6] <;> (first | rfl | simp)) | (simp [*]; done), by repeat (first | exact Drawn0.refl _ | apply Drawn0.step)⟩
  · rw [if_neg c5] at H
    exact absurd H (by simp)


theorem R_lit0 {α : Type} (d : Kd α) (e : Nat) (W : World) (base : Nat) (hb : base ≤ W.heap.size) : d.R e (W.alloc (.cells #[] e)) base (fun k => k = W.heap.size) (.slice (some ⟨W.heap.size, 0, none⟩) 0 0) ([] : List α) := by
  refine ⟨fun k hk => by simpa [Value.ownBlock] using hk.symm, [], ?_, Reps.none _ _⟩
  have h := World.ownsRow_lit (base := base) (e := e) (size := d.sz) W #[] 0 hb (by simp [maxLen]) (by simp)
  simpa using h
theorem lit1_C {α : Type} (enc : α → Value) (h1 : ∀ x, (enc x).oneCell' = true) (e : Nat) (W : World) (x : α) : (Kd.scalar enc h1).C (W.alloc (.cells #[enc x] e)) (some ⟨W.heap.size, 0, none⟩) 1 [x] := by
  refine Kd.C_of_reads (enc := enc) (d := x) (h1 := h1) ⟨rfl, by omega, fun _ => ⟨_, rfl, fun j hj => ?_⟩⟩
  obtain rfl : j = 0 := by omega
  exact World.cell?_alloc_at _ _ _ _ rfl

def bitsN (s : Nat) : List Nat := (List.range 64).filter fun i => s.testBit i
theorem filter_first {p q : Nat → Bool} {k n : Nat} (hk : k < n) (hp : p k = true) (h0 : ∀ i, i < k → p i = false) (hq : ∀ i, q i = (p i && !(i == k))) : (List.range n).filter p = k :: (List.range n).filter q := by
  have e : List.range n = List.range k ++ k :: List.range' (k + 1) (n - k - 1) := by
    rw [List.range_eq_range', List.range_eq_range', show k :: List.range' (k + 1) (n - k - 1) = List.range' k (n - k - 1 + 1) from (List.range'_succ (s := k) (n := n - k - 1) (step := 1)).symm]
    have := List.range'_append_1 (s := 0) (m := k) (n := n - k - 1 + 1)
    rw [Nat.zero_add] at this
    rw [this]
    congr 1
    omega
  rw [e, List.filter_append, List.filter_append, List.filter_cons_of_pos hp, List.filter_cons_of_neg (by rw [hq]; simp)]
  have a1 : (List.range k).filter p = [] := by
    rw [List.filter_eq_nil_iff]; intro i hi; rw [h0 i (List.mem_range.1 hi)]; simp
  have a2 : (List.range k).filter q = [] := by
    rw [List.filter_eq_nil_iff]; intro i hi; rw [hq, h0 i (List.mem_range.1 hi)]; simp
  rw [a1, a2, List.nil_append, List.nil_append]
  congr 1
  apply List.filter_congr
  intro i hi
  rw [hq]
  have : i ≠ k := by
    rw [List.mem_range'_1] at hi; omega
  simp [this]
theorem low_bits (s : Nat) (h0 : s ≠ 0) (h : s < 2 ^ 60) : Lib.ctz 64 s < 60 ∧ s.testBit (Lib.ctz 64 s) = true ∧ (∀ i, i < Lib.ctz 64 s → s.testBit i = false) ∧ (∀ i, (s &&& (s - 1)).testBit i = (s.testBit i && !(i == Lib.ctz 64 s))) ∧ s &&& (s - 1) < s := by
  obtain ⟨m, hm, hk⟩ := Lib.ctzFrom_spec 64 s (by omega) (Nat.lt_of_lt_of_le h (by decide))
  have e : Lib.ctz 64 s = Lib.ctzFrom 64 s := by unfold Lib.ctz; rw [if_neg h0]
  rw [e]
  generalize Lib.ctzFrom 64 s = k at hm hk
  have hp : 0 < 2 ^ k := Nat.two_pow_pos k
  have hs1 : s - 1 = 2 ^ k * (2 * m) + (2 ^ k - 1) := by
    rw [hm, Nat.mul_add]; omega
  have t1 : ∀ i, s.testBit i = (decide (k ≤ i) && (2 * m + 1).testBit (i - k)) := fun i => by rw [hm, Nat.testBit_two_pow_mul]
  have t2 : ∀ i, (s - 1).testBit i = if i < k then (2 ^ k - 1).testBit i else (2 * m).testBit (i - k) := fun i => by rw [hs1, Nat.testBit_two_pow_mul_add _ (by omega)]
  have odd0 : (2 * m + 1).testBit 0 = true := by simp
  refine ⟨?_, ?_, ?_, ?_, ?_⟩
  · rcases Nat.lt_or_ge k 60 with hlt | hge
    · exact hlt
    · exfalso
      have h1 : 2 ^ 60 ≤ 2 ^ k := Nat.pow_le_pow_right (by omega) hge
      have h2 : 2 ^ k * 1 ≤ 2 ^ k * (2 * m + 1) := Nat.mul_le_mul_left _ (by omega)
      omega
  · rw [t1]; simp
  · intro i hi; rw [t1]; simp; omega
  · intro i
    rw [Nat.testBit_and, t1, t2]
    rcases Nat.lt_trichotomy i k with hi | hi | hi
    · simp [show ¬ k ≤ i by omega]
    · subst hi; simp
    · obtain ⟨j, hj⟩ : ∃ j, i - k = j + 1 := ⟨i - k - 1, by omega⟩
      rw [if_neg (by omega), hj, Nat.testBit_succ, Nat.testBit_succ, show (2 * m + 1) / 2 = m by omega, show 2 * m / 2 = m by omega]
      simp [show k ≤ i by omega, show i ≠ k by omega]
  · have := Nat.and_le_right (n := s) (m := s - 1)
    omega
theorem bitsN_step (s : Nat) (h0 : s ≠ 0) (h : s < 2 ^ 60) : bitsN s = Lib.ctz 64 s :: bitsN (s &&& (s - 1)) := by
  obtain ⟨h1, h2, h3, h4, _⟩ := low_bits s h0 h
  exact filter_first (by omega) h2 h3 h4
theorem bitsN_zero : bitsN 0 = [] := by decide
theorem bitsN_len (s : Nat) : (bitsN s).length ≤ 64 := Nat.le_trans (List.length_filter_le _ _) (by simp)
def bitsI (s : Nat) : List Int := (bitsN s).map fun n : Nat => (n : Int)
theorem bitsI_len (s : Nat) : (bitsI s).length ≤ 64 := by unfold bitsI; rw [List.length_map]; exact bitsN_len s
set_option maxRecDepth 100000 in
set_option maxHeartbeats 4000000 in
theorem listed_any (s : Nat) (hs : s < 2 ^ 60) (w : World) (hT : TB w) :
    Calls Tryd.prog 68 #[.int .u64 s] w fun e w' => ∃ v, e = .returned v ∧ Kd.R (Kd.int .i64) 3 w' w.heap.size (fun _ => True) v (bitsI s) ∧ Below w.heap.size w w' := by
  have HT := Aside0.mk hT
  have hi5 : (Tryd.prog.info? 3).map (fun i => (i.zero, i.size, i.bytes)) = some (some (.int .i64 0), 1, 8) := by kernel_rfl
  have R0 : Aside0 (Kd.R (Kd.int .i64) 3 (w.alloc (.cells #[] 3)) w.heap.size (fun _ => True) (.slice (some ⟨w.heap.size, 0, none⟩) 0 0) []) := ⟨Kd.R_mono (R_lit0 (Kd.int .i64) 3 w w.heap.size (Nat.le_refl _)) (fun _ _ => trivial)⟩
  have B0 := Aside0.mk (below_alloc (Below.refl w.heap.size w) (.cells #[] 3))
  have S0 : Aside0 (([] : List Int) ++ bitsI s = bitsI s ∧ s < 2 ^ 60) := ⟨rfl, hs⟩
  clear hT hs
  go_enter Tryd.func68, Tryd.ntmps68
  go_wp2_with fail
  go_loopg [0, 3] s (fun gg u0 u3 wr => ∃ (t : Nat) (acc : List Int), t ≤ gg ∧ u0 = .int .u64 t ∧ Aside0 (acc ++ bitsI t = bitsI s ∧ t < 2 ^ 60) ∧ Aside0 (Kd.R (Kd.int .i64) 3 wr w.heap.size (fun _ => True) u3 acc) ∧ Aside0 (Below w.heap.size w wr))
  case atStart => exact ⟨s, [], Nat.le_refl _, rfl, S0, R0, B0⟩
  case round =>
    clear S0 R0 B0
    obtain ⟨t, acc, hgg, rfl, HS, HO, HB⟩ := hrel
    by_cases ht : t = 0
    · subst ht
      have HF : Aside0 (acc = bitsI s) := ⟨by have h := HS.out.1; rw [show bitsI 0 = [] from by unfold bitsI; rw [bitsN_zero]; rfl, List.append_nil] at h; exact h⟩
      go_wp2_with fail
      go_ret
      exact ⟨_, rfl, by rw [← HF.out]; exact HO.out, HB.out⟩
    · have ht60 := HS.out.2
      have hlen : acc.length ≤ 64 := by
        have h := congrArg List.length HS.out.1
        have := bitsI_len s
        simp at h
        omega
      obtain ⟨-, -, -, -, hlt⟩ := low_bits t ht ht60
      have hstep := bitsN_step t ht ht60
      have hgt : decide (0 < (t : Int)) = true := by simp; omega
      have hsub : IntKind.u64.wrap ((t : Int) - 1) = ((t - 1 : Nat) : Int) := by rw [IntKind.wrap_u64]; omega
      have hand : bits BinOp.and IntKind.u64 (t : Int) ((t - 1 : Nat) : Int) = ((t &&& (t - 1) : Nat) : Int) := bits_and_u64_nat t (t - 1) (by omega) (by omega)
      have HS2 : Aside0 ((acc ++ [(Lib.ctz 64 t : Int)]) ++ bitsI (t &&& (t - 1)) = bitsI s ∧ t &&& (t - 1) < 2 ^ 60) := ⟨by rw [← HS.out.1]; unfold bitsI; rw [hstep]; simp, by omega⟩
      have HTZ := Aside0.mk (fun W (h : TB W) => tz_any t ht60 ht W h)
      have HL := Aside0.mk hlen
      have HT1 := Aside0.mk (HT.out.below HB.out)
      clear ht60 hlen hstep HS
      generalize Lib.ctz 64 t = z at HS2 HTZ
      go_wp2_with (first
        | (go_at_call 114; refine (HTZ.out _ HT1.out).mono ?_; rintro e w' ⟨rfl, rfl⟩)
        | (at_builtin; refine Kd.R_append_row (w0 := w) (h1 := fun _ => rfl) (Value.int .i64) (0 : Int) w.heap.size rfl _ _ _ _ _ 8 rfl Tryd.underlying22 hi5 rfl (by decide) u3 acc [(z : Int)] _ 1 _ (fun _ => True) rfl rfl (fun _ _ => trivial) ?xA ?xB ?xC ?xD ?xE ?_; (case xA => exact Kd.R_alloc HO.out _); (case xB => exact lit1_C (Value.int .i64) _ _ wr _); (case xC => exact below_alloc HB.out _); (case xD => have h_ := HB.out.size; simp; omega); (case xE => have h_ := HL.out; omega); intro v1 w1 ho hb hg hat; have HO1 := Aside0.mk ho; have HB1 := Aside0.mk hb; clear ho hb hg hat))
      go_roundg (t &&& (t - 1))
      case measure => omega
      case rel => exact ⟨t &&& (t - 1), acc ++ [(z : Int)], Nat.le_refl _, rfl, HS2, HO1, HB1⟩
def impl_set_listed.f (a0 : Int) : Option (List Int) := if 0 ≤ a0 ∧ a0 < 1152921504606846976 then some (bitsI a0.toNat) else none
theorem impl_set_listed.calls (a0 : Int) (r : List Int) (w : World) (hT_ : TB w) (h : impl_set_listed.f a0 = some r) :
    Calls Tryd.prog 68 #[.int .u64 a0] w fun e w' => ∃ v0_ : Value, e = .returned v0_ ∧ Kd.R (Kd.int .i64) 3 w' w.heap.size (fun _ => True) v0_ r ∧ Below w.heap.size w w' := by
  unfold impl_set_listed.f at h
  split at h
  · rename_i h0
    obtain rfl := Option.some.inj h
    obtain ⟨n, rfl⟩ := Int.eq_ofNat_of_zero_le h0.1
    rw [Int.toNat_natCast]
    exact listed_any n (by have h2 : (2 : Nat) ^ 60 = 1152921504606846976 := by decide
                           have := h0.2; omega) w hT_
  · cases h


mutual
def impl_ParseTri.l0 : Nat → List ByteArray → Int → List ByteArray → Int → Int → Option (Int × List Int × Bool)
 | 0, _, _, _, _, _ => none
 | k + 1, x4, x5, x17, x18, x19 => if x19 < x18 then (if 0 ≤ x19 then (if x19 < (x17.length : Int) then (if ((rdOf ByteArray.empty x17 x19).size : Int) = (wrap64 (x19 + 1)) then ((strings_Trim.f (rdOf ByteArray.empty x17 x19) (⟨#[48, 49, 50, 51, 52, 53, 54, 55]⟩ : ByteArray)).bind fun t126 => (impl_ParseTri.j1 k x4 x5 x19 (rdOf ByteArray.empty x17 x19) x17 x18 x19 (t126.toList != ([] : List UInt8)))) else (impl_ParseTri.j1 k x4 x5 x19 (rdOf ByteArray.empty x17 x19) x17 x18 x19 true)) else (none)) else (none)) else ((impl_set_listed.f x5).bind fun t122 => (some ((x4.length : Int), t122, true)))
def impl_ParseTri.j1 : Nat → List ByteArray → Int → Int → ByteArray → List ByteArray → Int → Int → Bool → Option (Int × List Int × Bool)
 | 0, _, _, _, _, _, _, _, _ => none
 | k + 1, x4, x5, x6, x7, x17, x18, x19, x33 => if x33 = true then (some (0, ([] : List Int), false)) else (impl_ParseTri.l1 k x4 x5 x6 x7 x17 x18 x19 (wrap64 (x6 + 1)) 0)
def impl_ParseTri.l1 : Nat → List ByteArray → Int → Int → ByteArray → List ByteArray → Int → Int → Int → Int → Option (Int × List Int × Bool)
 | 0, _, _, _, _, _, _, _, _, _ => none
 | k + 1, x4, x5, x6, x7, x17, x18, x19, x36, x37 => if x37 < x36 then (impl_ParseTri.l2 k x4 x5 x6 x7 x37 x17 x18 x19 x36 x37 0) else (impl_ParseTri.l0 k x4 x5 x17 x18 (wrap64 (x19 + 1)))
def impl_ParseTri.l2 : Nat → List ByteArray → Int → Int → ByteArray → Int → List ByteArray → Int → Int → Int → Int → Int → Option (Int × List Int × Bool)
 | 0, _, _, _, _, _, _, _, _, _, _, _ => none
 | k + 1, x4, x5, x6, x7, x8, x17, x18, x19, x36, x37, x40 => if x40 < 3 then (if 0 ≤ x8 then (if x8 < (x7.size : Int) then (if 0 ≤ x40 then (if (Go.bits .and .u8 (shr .u8 (((bt x7 x8) - 48) % 256) x40) 1) = 1 then ((impl_side.f x6 x8 x40).bind fun t127 => (impl_ParseTri.l2 k x4 (Go.bits .or .u64 x5 t127) x6 x7 x8 x17 x18 x19 x36 x37 (wrap64 (x40 + 1)))) else (impl_ParseTri.l2 k x4 x5 x6 x7 x8 x17 x18 x19 x36 x37 (wrap64 (x40 + 1)))) else (none)) else (none)) else (none)) else (impl_ParseTri.l1 k x4 x5 x6 x7 x17 x18 x19 x36 (wrap64 (x37 + 1)))
end
def impl_ParseTri.f (k : Nat) (a0 : ByteArray) : Option (Int × List Int × Bool) := (strings_Split.f a0 (⟨#[47]⟩ : ByteArray)).bind fun t118 => ((impl_isLevel.f (t118.length : Int)).bind fun t121 => (if t121 = true then (impl_ParseTri.l0 k t118 0 t118 (t118.length : Int) 0) else (some (0, ([] : List Int), false))))
theorem impl_ParseTri.mono_l : ∀ k, (∀ y0 y1 y2 y3 y4, LeO (impl_ParseTri.l0 k y0 y1 y2 y3 y4) (impl_ParseTri.l0 (k + 1) y0 y1 y2 y3 y4)) ∧ (∀ y0 y1 y2 y3 y4 y5 y6 y7, LeO (impl_ParseTri.j1 k y0 y1 y2 y3 y4 y5 y6 y7) (impl_ParseTri.j1 (k + 1) y0 y1 y2 y3 y4 y5 y6 y7)) ∧ (∀ y0 y1 y2 y3 y4 y5 y6 y7 y8, LeO (impl_ParseTri.l1 k y0 y1 y2 y3 y4 y5 y6 y7 y8) (impl_ParseTri.l1 (k + 1) y0 y1 y2 y3 y4 y5 y6 y7 y8)) ∧ (∀ y0 y1 y2 y3 y4 y5 y6 y7 y8 y9 y10, LeO (impl_ParseTri.l2 k y0 y1 y2 y3 y4 y5 y6 y7 y8 y9 y10) (impl_ParseTri.l2 (k + 1) y0 y1 y2 y3 y4 y5 y6 y7 y8 y9 y10))
 | 0 => ⟨fun _ _ _ _ _ r h => by simp [impl_ParseTri.l0] at h, fun _ _ _ _ _ _ _ _ r h => by simp [impl_ParseTri.j1] at h, fun _ _ _ _ _ _ _ _ _ r h => by simp [impl_ParseTri.l1] at h, fun _ _ _ _ _ _ _ _ _ _ _ r h => by simp [impl_ParseTri.l2] at h⟩
 | k + 1 => by
  obtain ⟨ih0, ih1, ih2, ih3⟩ := impl_ParseTri.mono_l k
  refine ⟨?_, ?_, ?_, ?_⟩
  ·intro y0 y1 y2 y3 y4
   unfold impl_ParseTri.l0
   repeat' first
   | (with_reducible exact ih0 _ _ _ _ _)
   | (with_reducible exact ih1 _ _ _ _ _ _ _ _)
   | (with_reducible exact ih2 _ _ _ _ _ _ _ _ _)
   | (with_reducible exact ih3 _ _ _ _ _ _ _ _ _ _ _)
   | (with_reducible exact LeO.refl _)
   | (with_reducible exact LeO.none _)
   | (with_reducible refine LeO.ite ?_ ?_)
   | (with_reducible refine LeO.bind ?_ (fun _ => ?_))
   | exact ih0 _ _ _ _ _
   | exact ih1 _ _ _ _ _ _ _ _
   | exact ih2 _ _ _ _ _ _ _ _ _
   | exact ih3 _ _ _ _ _ _ _ _ _ _ _
   | exact LeO.none _
   | refine LeO.ite ?_ ?_
   | refine LeO.bind ?_ (fun _ => ?_)
  ·intro y0 y1 y2 y3 y4 y5 y6 y7
   unfold impl_ParseTri.j1
   repeat' first
   | (with_reducible exact ih0 _ _ _ _ _)
   | (with_reducible exact ih1 _ _ _ _ _ _ _ _)
   | (with_reducible exact ih2 _ _ _ _ _ _ _ _ _)
   | (with_reducible exact ih3 _ _ _ _ _ _ _ _ _ _ _)
   | (with_reducible exact LeO.refl _)
   | (with_reducible exact LeO.none _)
   | (with_reducible refine LeO.ite ?_ ?_)
   | (with_reducible refine LeO.bind ?_ (fun _ => ?_))
   | exact ih0 _ _ _ _ _
   | exact ih1 _ _ _ _ _ _ _ _
   | exact ih2 _ _ _ _ _ _ _ _ _
   | exact ih3 _ _ _ _ _ _ _ _ _ _ _
   | exact LeO.none _
   | refine LeO.ite ?_ ?_
   | refine LeO.bind ?_ (fun _ => ?_)
  ·intro y0 y1 y2 y3 y4 y5 y6 y7 y8
   unfold impl_ParseTri.l1
   repeat' first
   | (with_reducible exact ih0 _ _ _ _ _)
   | (with_reducible exact ih1 _ _ _ _ _ _ _ _)
   | (with_reducible exact ih2 _ _ _ _ _ _ _ _ _)
   | (with_reducible exact ih3 _ _ _ _ _ _ _ _ _ _ _)
   | (with_reducible exact LeO.refl _)
   | (with_reducible exact LeO.none _)
   | (with_reducible refine LeO.ite ?_ ?_)
   | (with_reducible refine LeO.bind ?_ (fun _ => ?_))
   | exact ih0 _ _ _ _ _
   | exact ih1 _ _ _ _ _ _ _ _
   | exact ih2 _ _ _ _ _ _ _ _ _
   | exact ih3 _ _ _ _ _ _ _ _ _ _ _
   | exact LeO.none _
   | refine LeO.ite ?_ ?_
   | refine LeO.bind ?_ (fun _ => ?_)
  ·intro y0 y1 y2 y3 y4 y5 y6 y7 y8 y9 y10
   unfold impl_ParseTri.l2
   repeat' first
   | (with_reducible exact ih0 _ _ _ _ _)
   | (with_reducible exact ih1 _ _ _ _ _ _ _ _)
   | (with_reducible exact ih2 _ _ _ _ _ _ _ _ _)
   | (with_reducible exact ih3 _ _ _ _ _ _ _ _ _ _ _)
   | (with_reducible exact LeO.refl _)
   | (with_reducible exact LeO.none _)
   | (with_reducible refine LeO.ite ?_ ?_)
   | (with_reducible refine LeO.bind ?_ (fun _ => ?_))
   | exact ih0 _ _ _ _ _
   | exact ih1 _ _ _ _ _ _ _ _
   | exact ih2 _ _ _ _ _ _ _ _ _
   | exact ih3 _ _ _ _ _ _ _ _ _ _ _
   | exact LeO.none _
   | refine LeO.ite ?_ ?_
   | refine LeO.bind ?_ (fun _ => ?_)
theorem impl_ParseTri.mono : ∀ a0 k, LeO (impl_ParseTri.f k a0) (impl_ParseTri.f (k + 1) a0) := by
 intro a0 k
 obtain ⟨ih0, ih1, ih2, ih3⟩ := impl_ParseTri.mono_l k
 unfold impl_ParseTri.f
 repeat' first
   | (with_reducible exact ih0 _ _ _ _ _)
   | (with_reducible exact ih1 _ _ _ _ _ _ _ _)
   | (with_reducible exact ih2 _ _ _ _ _ _ _ _ _)
   | (with_reducible exact ih3 _ _ _ _ _ _ _ _ _ _ _)
   | (with_reducible exact LeO.refl _)
   | (with_reducible exact LeO.none _)
   | (with_reducible refine LeO.ite ?_ ?_)
   | (with_reducible refine LeO.bind ?_ (fun _ => ?_))
   | exact ih0 _ _ _ _ _
   | exact ih1 _ _ _ _ _ _ _ _
   | exact ih2 _ _ _ _ _ _ _ _ _
   | exact ih3 _ _ _ _ _ _ _ _ _ _ _
   | exact LeO.none _
   | refine LeO.ite ?_ ?_
   | refine LeO.bind ?_ (fun _ => ?_)
set_option maxHeartbeats 8000000 in
set_option maxRecDepth 100000 in
theorem impl_ParseTri.calls (k : Nat) (a0 : ByteArray) (r1 : Int) (r2 : List Int) (r3 : Bool) (w : World) (hT_ : TB w) (h : impl_ParseTri.f k a0 = some (r1, r2, r3)) :
  Calls Tryd.prog 27 #[.string a0] w fun e w' => ∃ v1_ : Value, e = .returned (.tuple #[.agg #[.int .i64 r1, v1_], .bool r3]) ∧ Kd.R (Kd.int .i64) 3 w' w.heap.size (fun _ => True) v1_ r2 ∧ Below w.heap.size w w' := by
 have hu28 := Tryd.underlying28
 have HB := Aside0.mk (Below.refl w.heap.size w)
 have HTB := Aside0.mk hT_
 clear hT_
 have H : ((strings_Split.f a0 (⟨#[47]⟩ : ByteArray)).bind fun t118 => ((impl_isLevel.f (t118.length : Int)).bind fun t121 => (if t121 = true then (impl_ParseTri.l0 k t118 0 t118 (t118.length : Int) 0) else (some (0, ([] : List Int), false))))) = some (r1, r2, r3) := h
 clear h
 replace H := Option.bind_eq_some_iff.mp H
 obtain ⟨t118, A20, H⟩ := H
 replace H : ((impl_isLevel.f (t118.length : Int)).bind fun t121 => (if t121 = true then (impl_ParseTri.l0 k t118 0 t118 (t118.length : Int) 0) else (some (0, ([] : List Int), false)))) = some (r1, r2, r3) := H
 have A2 := Aside0.mk A20
 clear A20
 replace H := Option.bind_eq_some_iff.mp H
 obtain ⟨t121, A30, H⟩ := H
 replace H : (if t121 = true then (impl_ParseTri.l0 k t118 0 t118 (t118.length : Int) 0) else (some (0, ([] : List Int), false))) = some (r1, r2, r3) := H
 have A3 := Aside0.mk A30
 clear A30
 by_cases c4 : t121 = true
 ·subst c4
  have H1 : (impl_ParseTri.l0 k t118 0 t118 (t118.length : Int) 0) = some (r1, r2, r3) := by rw [if_pos rfl] at H; exact H
  clear H
  have H := H1
  clear H1
  have H' := Aside0.mk H
  clear H
  go_enter Tryd.func27, Tryd.ntmps27
  go_wp2_with (first | ((with_reducible refine gate_dst (N := 2) rfl ?_); refine boxE_ (N := 2) (cs := #[.int .i64 0, .slice none 0 0]) (t := 28) ?_; intro gb117 hg w5 hbox hb; have n0_ := Aside0.mk (below_step (bl0_ HB.out) hb); have n1_ := Aside0.mk (hbox); have n2_ := Aside0.mk ((bs0_ hg HB.out : w.heap.size ≤ gb117)); have n3_ := Aside0.mk ((bs0_ hg HB.out : w.heap.size ≤ gb117)); clear HB; have HB := n0_; have BK117 := n1_; have GW117 := n2_; have GE117 := n3_; clear n0_ n1_ n2_ n3_; clear hb hbox hg) | ((with_reducible refine gate_callee (f := 55) rfl ?_); refine goesL_ (some 11) rfl rfl Tryd.func55 (by kernel_rfl) rfl #[.string a0, .string (⟨#[47]⟩ : ByteArray)] rfl ob_ ?_; (with_reducible refine (strings_Split.calls a0 (⟨#[47]⟩ : ByteArray) t118 _ (TB.below HTB.out (bl1_ HB.out GE117.out)) A2.out).mono ?_); rintro e w6 ⟨v119, rfl, ho0, hb⟩; refine ⟨_, rfl, ?_⟩; have n0_ := Aside0.mk (Kd.R_lower ho0 (below_size (bl1_ HB.out GE117.out))); have n1_ := Aside0.mk (bb_ BK117.out hb); have n2_ := Aside0.mk (below_step (bl1_ HB.out GE117.out) hb); clear BK117; clear HB; have HO120 := n0_; have BK117 := n1_; have HB := n2_; clear n0_ n1_ n2_; (try clear hb); (try clear hb2); (try clear hk); (try clear hi); (try clear ho0); obtain ⟨Ao7, co7, eo7⟩ := Kd.R_slice HO120.out; subst eo7) | ((with_reducible refine gate_callee (f := 65) rfl ?_); refine goesL_ (some 14) rfl rfl Tryd.func65 (by kernel_rfl) rfl #[.int .i64 (t118.length : Int)] rfl ob_ ?_; (with_reducible refine (impl_isLevel.calls (t118.length : Int) true _ A3.out).mono ?_); rintro e w' ⟨rfl, ⟨nd, rfl⟩⟩; refine ⟨_, rfl, ?_⟩))
  go_loopg [5, 19] k (fun kq v5 v19 w' => ∃ (x5_1 : Int) (x19_1 : Int) (x118000_1 : Int), v5 = .int .u64 x5_1 ∧ v19 = .int .i64 x19_1 ∧ Aside0 (impl_ParseTri.l0 kq t118 x5_1 t118 (t118.length : Int) x19_1 = some (r1, r2, r3)) ∧ Aside0 (kq ≤ k) ∧ Aside0 (Kd.R Kd.string 9 w' w.heap.size (fun _ => True) (.slice Ao7 t118.length co7) t118) ∧ Aside0 (Kd.R Kd.string 9 w' w.heap.size (fun _ => True) (.slice Ao7 t118.length co7) t118) ∧ Aside0 (w'.heap[gb117]? = some (.cells #[.int .i64 x118000_1, (.slice none 0 0)] 28 (0, 0))) ∧ Aside0 (Below w.heap.size w w'))
  case atStart => exact ⟨(0), (0), (0), rs_, rs_, H', ⟨Nat.le_refl _⟩, ⟨kr_ HO120.out⟩, ⟨kr_ HO120.out⟩, ⟨bk_ BK117.out⟩, ⟨bl1_ HB.out GE117.out⟩⟩
  case round =>
   clear H'
   try clear c2
   try clear p2
   try clear c4
   try clear c5
   try clear c6
   obtain ⟨x5_1, x19_1, x118000_1, rfl, rfl, HA, HK1, HO_4, HO_17, BK117, HB⟩ := hrel
   cases gk with
   | zero => exact absurd HA.out (by simp [impl_ParseTri.l0])
   | succ k1 =>
    have H := HA.out
    clear HA
    simp only [impl_ParseTri.l0] at H
    by_cases c8 : x19_1 < (t118.length : Int)
    ·rw [if_pos c8] at H
     have c8b0 : decide (x19_1 < (t118.length : Int)) = true := decide_eq_true c8
     clear c8
     by_cases c9 : 0 ≤ x19_1
     ·rw [if_pos c9] at H
      have c9b0 : decide (0 ≤ x19_1) = true := decide_eq_true c9
      clear c9
      by_cases c10 : x19_1 < (t118.length : Int)
      ·rw [if_pos c10] at H
       have c10b0 : decide (x19_1 < (t118.length : Int)) = true := decide_eq_true c10
       clear c10
       have HC11 := Aside0.mk H
       clear H
       have p125 : 0 ≤ (x19_1 : Int) := of_decide_eq_true as_
       have q125 : x19_1 < (t118.length : Int) := of_decide_eq_true as_
       obtain ⟨ad125, e125, hx125_0⟩ := Kd.at_string (Kd.R_reads' HO_17.out).2.2 x19_1 p125 q125
       cases e125
       replace p125 := eq_true p125
       replace q125 := eq_true q125
       go_upto_region 8 with (fail)
       go_cut [33] (fun v33 wc => ∃ (kq : Nat) (x33_10 : Bool), v33 = .bool x33_10 ∧ Aside0 (impl_ParseTri.j1 kq t118 x5_1 x19_1 (rdOf ByteArray.empty t118 x19_1) t118 (t118.length : Int) x19_1 x33_10 = some (r1, r2, r3)) ∧ Aside0 (kq ≤ k1) ∧ Aside0 (Kd.R Kd.string 9 wc w.heap.size (fun _ => True) (.slice (some ad125) t118.length co7) t118) ∧ Aside0 (Kd.R Kd.string 9 wc w.heap.size (fun _ => True) (.slice (some ad125) t118.length co7) t118) ∧ Aside0 (wc.heap[gb117]? = some (.cells #[.int .i64 x118000_1, (.slice none 0 0)] 28 (0, 0))) ∧ Aside0 (Below w.heap.size w wc))
       case first =>
        have H := HC11.out
        clear HC11
        by_cases c12 : ((rdOf ByteArray.empty t118 x19_1).size : Int) = (wrap64 (x19_1 + 1))
        ·rw [if_pos c12] at H
         have c12b0 : (((rdOf ByteArray.empty t118 x19_1).size : Int) == (wrap64 (x19_1 + 1))) = true := beq_iff_eq.mpr c12
         have c12b1 : (((rdOf ByteArray.empty t118 x19_1).size : Int) != (wrap64 (x19_1 + 1))) = false := bne_eq_false_iff_eq.mpr c12
         clear c12
         (first | rw [c12b0] | (simp only [i64_w, i32_w]; rw [c12b0]) | skip)
         replace H := Option.bind_eq_some_iff.mp H
         obtain ⟨t126, A130, H⟩ := H
         replace H : (impl_ParseTri.j1 k1 t118 x5_1 x19_1 (rdOf ByteArray.empty t118 x19_1) t118 (t118.length : Int) x19_1 (t126.toList != ([] : List UInt8))) = some (r1, r2, r3) := H
         have A13 := Aside0.mk A130
         clear A130
         have H' := Aside0.mk H
         clear H
         go_wp2_with (first | (go_at_call 66; (with_reducible refine (strings_Trim.calls (rdOf ByteArray.empty t118 x19_1) (⟨#[48, 49, 50, 51, 52, 53, 54, 55]⟩ : ByteArray) t126 _ A13.out).mono ?_); rintro e w14 ⟨rfl, hb⟩; have n0_ := Aside0.mk (Kd.R_below (kr_ HO_4.out) hb); have n1_ := Aside0.mk (Kd.R_below (kr_ HO_17.out) hb); have n2_ := Aside0.mk (bb_ BK117.out hb); have n3_ := Aside0.mk (below_step (bl1_ HB.out GE117.out) hb); clear HO_4; clear HO_17; clear BK117; clear HB; have HO_4 := n0_; have HO_17 := n1_; have BK117 := n2_; have HB := n3_; clear n0_ n1_ n2_ n3_; (try clear hb); (try clear hb2); (try clear hk); (try clear hi)))
         go_meet
         case rel => exact ⟨_, ((t126.toList != ([] : List UInt8))), (by first | rfl | (simp; done) | (simp [*]; done) | (simp; generalize ByteArray.toList _ = l_; cases l_ <;> rfl)), H', ⟨by have := HK1.out; first | omega | exact Nat.le_refl _⟩, ⟨kr_ HO_4.out⟩, ⟨kr_ HO_17.out⟩, ⟨bk_ BK117.out⟩, ⟨bl1_ HB.out GE117.out⟩⟩
        ·rw [if_neg c12] at H
         have c12b0 : (((rdOf ByteArray.empty t118 x19_1).size : Int) == (wrap64 (x19_1 + 1))) = false := beq_eq_false_iff_ne.mpr c12
         have c12b1 : (((rdOf ByteArray.empty t118 x19_1).size : Int) != (wrap64 (x19_1 + 1))) = true := bne_iff_ne.mpr c12
         (first | rw [c12b0] | (simp only [i64_w, i32_w]; rw [c12b0]) | skip)
         have H' := Aside0.mk H
         clear H
         go_wp2
         go_meet
         case rel => exact ⟨_, (true), rs_, H', ⟨by have := HK1.out; first | omega | exact Nat.le_refl _⟩, ⟨kr_ HO_4.out⟩, ⟨kr_ HO_17.out⟩, ⟨bk_ BK117.out⟩, ⟨bl1_ HB.out GE117.out⟩⟩
       case rest =>
        clear HC11
        try clear c1
        try clear p1
        try clear q1
        try clear hx1
        try clear c2
        try clear p2
        try clear c4
        try clear c5
        try clear c6
        try clear p6
        try clear c8
        try clear c8b0
        try clear c9
        try clear c9b0
        try clear c10
        try clear c10b0
        try clear c12
        try clear c12b0
        try clear c12b1
        try clear p12
        try clear q12
        try clear hx12
        try clear hx125_0
        try clear p125
        try clear p2
        try clear q125
        obtain ⟨kq, x33_10, rfl, HA, HJ10, HO_4, HO_17, BK117, HB⟩ := hcut
        cases kq with
        | zero => exact absurd HA.out (by simp [impl_ParseTri.j1])
        | succ kj10 =>
         have H := HA.out
         clear HA
         simp only [impl_ParseTri.j1] at H
         by_cases c15 : x33_10 = true
         ·subst c15
          have H1 : (some (0, ([] : List Int), false)) = some (r1, r2, r3) := by rw [if_pos rfl] at H; exact H
          clear H
          have H := H1
          clear H1
          simp only [Option.some.injEq, Prod.mk.injEq] at H
          obtain ⟨rfl, rfl, rfl⟩ := H
          have hcz16_0 : wc.cell? ⟨gb117, 0, none⟩ = some (.int .i64 x118000_1) := (blk_cell BK117.out 0).trans rfl
          have hcz16_1 : wc.cell? ⟨gb117, 1, none⟩ = some (.slice none 0 0) := (blk_cell BK117.out 1).trans rfl
          have hfz16_0 := blk_frozen BK117.out 0
          have hfz16_1 := blk_frozen BK117.out 1
          go_wp2
          refine bodyPost_ret (results_ct rfl _ _ gb117 28 #[.int .i64 0, .slice none 0 0] (0, 0) _ rfl (by (with_reducible repeat (first | refine blk_drewN ?_ _ | refine blk_drew ?_ | refine blk_alloc ?_ _)); refine blk_put (cs := #[.int .i64 0, .slice none 0 0]) ?_ 1 _ rfl; (with_reducible repeat (first | refine blk_drewN ?_ _ | refine blk_drew ?_ | refine blk_alloc ?_ _)); refine blk_put (cs := #[.int .i64 x118000_1, .slice none 0 0]) ?_ 0 _ rfl; (with_reducible repeat (first | refine blk_drewN ?_ _ | refine blk_drew ?_ | refine blk_alloc ?_ _)); exact BK117.out) Tryd.underlying28 rfl (by kernel_rfl)) rfl ?_
          exact ⟨_, er_, by first | exact Kd.R_nil _ _ _ _ _ | exact Kd.N_nil _ _ _ _ _ | exact Kd.V_nil _ _ _ _ _ | exact Kd.Q_nil _ _ _ _ _ | exact Kd.S_nil _ _ _ _ _, bl1_ HB.out GE117.out⟩
         ·replace c15 := Bool.eq_false_iff.mpr c15
          subst c15
          have H1 : (impl_ParseTri.l1 kj10 t118 x5_1 x19_1 (rdOf ByteArray.empty t118 x19_1) t118 (t118.length : Int) x19_1 (wrap64 (x19_1 + 1)) 0) = some (r1, r2, r3) := by rw [if_neg (show ¬ (false = true) by decide)] at H; exact H
          clear H
          have H := H1
          clear H1
          have H' := Aside0.mk H
          clear H
          go_wp2
          go_loopg [5, 37] kj10 (fun kq v5 v37 w' => ∃ (x5_3 : Int) (x37_3 : Int), v5 = .int .u64 x5_3 ∧ v37 = .int .i64 x37_3 ∧ Aside0 (impl_ParseTri.l1 kq t118 x5_3 x19_1 (rdOf ByteArray.empty t118 x19_1) t118 (t118.length : Int) x19_1 (wrap64 (x19_1 + 1)) x37_3 = some (r1, r2, r3)) ∧ Aside0 (kq ≤ kj10) ∧ Aside0 (Kd.R Kd.string 9 w' w.heap.size (fun _ => True) (.slice (some ad125) t118.length co7) t118) ∧ Aside0 (Kd.R Kd.string 9 w' w.heap.size (fun _ => True) (.slice (some ad125) t118.length co7) t118) ∧ Aside0 (w'.heap[gb117]? = some (.cells #[.int .i64 x118000_1, (.slice none 0 0)] 28 (0, 0))) ∧ Aside0 (Below w.heap.size w w'))
          case atStart => exact ⟨(x5_1), (0), rs_, rs_, H', ⟨Nat.le_refl _⟩, ⟨kr_ HO_4.out⟩, ⟨kr_ HO_17.out⟩, ⟨bk_ BK117.out⟩, ⟨bl1_ HB.out GE117.out⟩⟩
          case round =>
           clear H'
           try clear c1
           try clear p1
           try clear q1
           try clear hx1
           try clear c2
           try clear p2
           try clear c4
           try clear c5
           try clear c6
           try clear p6
           try clear c8
           try clear c8b0
           try clear c9
           try clear c9b0
           try clear c10
           try clear c10b0
           try clear c12
           try clear c12b0
           try clear c12b1
           try clear p12
           try clear q12
           try clear hx12
           try clear c15
           try clear hcz16_0
           try clear hcz16_1
           try clear hfz16_0
           try clear hfz16_1
           try clear hx125_0
           try clear p1
           try clear p12
           try clear p125
           try clear p2
           try clear p6
           try clear q1
           try clear q12
           try clear q125
           obtain ⟨x5_3, x37_3, rfl, rfl, HA, HK3, HO_4, HO_17, BK117, HB⟩ := hrel
           cases gk with
           | zero => exact absurd HA.out (by simp [impl_ParseTri.l1])
           | succ k3 =>
            have H := HA.out
            clear HA
            simp only [impl_ParseTri.l1] at H
            by_cases c17 : x37_3 < (wrap64 (x19_1 + 1))
            ·rw [if_pos c17] at H
             have c17b0 : decide (x37_3 < (wrap64 (x19_1 + 1))) = true := decide_eq_true c17
             clear c17
             have H' := Aside0.mk H
             clear H
             go_wp2
             go_loopg [5, 40] k3 (fun kq v5 v40 w' => ∃ (x5_4 : Int) (x40_4 : Int), v5 = .int .u64 x5_4 ∧ v40 = .int .i64 x40_4 ∧ Aside0 (impl_ParseTri.l2 kq t118 x5_4 x19_1 (rdOf ByteArray.empty t118 x19_1) x37_3 t118 (t118.length : Int) x19_1 (wrap64 (x19_1 + 1)) x37_3 x40_4 = some (r1, r2, r3)) ∧ Aside0 (kq ≤ k3) ∧ Aside0 (Kd.R Kd.string 9 w' w.heap.size (fun _ => True) (.slice (some ad125) t118.length co7) t118) ∧ Aside0 (Kd.R Kd.string 9 w' w.heap.size (fun _ => True) (.slice (some ad125) t118.length co7) t118) ∧ Aside0 (w'.heap[gb117]? = some (.cells #[.int .i64 x118000_1, (.slice none 0 0)] 28 (0, 0))) ∧ Aside0 (Below w.heap.size w w'))
             case atStart => exact ⟨(x5_3), (0), rs_, rs_, H', ⟨Nat.le_refl _⟩, ⟨kr_ HO_4.out⟩, ⟨kr_ HO_17.out⟩, ⟨bk_ BK117.out⟩, ⟨bl1_ HB.out GE117.out⟩⟩
             case round =>
              clear H'
              try clear c1
              try clear p1
              try clear q1
              try clear hx1
              try clear c2
              try clear p2
              try clear c4
              try clear c5
              try clear c6
              try clear p6
              try clear c8
              try clear c8b0
              try clear c9
              try clear c9b0
              try clear c10
              try clear c10b0
              try clear c12
              try clear c12b0
              try clear c12b1
              try clear p12
              try clear q12
              try clear hx12
              try clear c15
              try clear c17
              try clear c17b0
              try clear hcz16_0
              try clear hcz16_1
              try clear hfz16_0
              try clear hfz16_1
              try clear hx125_0
              try clear p1
              try clear p12
              try clear p125
              try clear p2
              try clear p6
              try clear q1
              try clear q12
              try clear q125
              obtain ⟨x5_4, x40_4, rfl, rfl, HA, HK4, HO_4, HO_17, BK117, HB⟩ := hrel
              cases gk with
              | zero => exact absurd HA.out (by simp [impl_ParseTri.l2])
              | succ k4 =>
               have H := HA.out
               clear HA
               simp only [impl_ParseTri.l2] at H
               by_cases c18 : x40_4 < 3
               ·rw [if_pos c18] at H
                have c18b0 : decide (x40_4 < 3) = true := decide_eq_true c18
                clear c18
                by_cases c19 : 0 ≤ x37_3
                ·rw [if_pos c19] at H
                 have c19b0 : decide (0 ≤ x37_3) = true := decide_eq_true c19
                 clear c19
                 by_cases c20 : x37_3 < ((rdOf ByteArray.empty t118 x19_1).size : Int)
                 ·rw [if_pos c20] at H
                  have c20b0 : decide (x37_3 < ((rdOf ByteArray.empty t118 x19_1).size : Int)) = true := decide_eq_true c20
                  clear c20
                  by_cases c22 : 0 ≤ x40_4
                  ·rw [if_pos c22] at H
                   have c22b0 := eq_true c22
                   have c22b1 : decide (0 ≤ x40_4) = true := decide_eq_true c22
                   clear c22
                   obtain ⟨ji23, hji23⟩ : ∃ j_ : Int, (shr .u8 (((bt (rdOf ByteArray.empty t118 x19_1) x37_3) - 48) % 256) x40_4) = j_ := ⟨_, rfl⟩
                   replace H : (if (Go.bits .and .u8 (ji23) 1) = 1 then ((impl_side.f x19_1 x37_3 x40_4).bind fun t127 => (impl_ParseTri.l2 k4 t118 (Go.bits .or .u64 x5_4 t127) x19_1 (rdOf ByteArray.empty t118 x19_1) x37_3 t118 (t118.length : Int) x19_1 (wrap64 (x19_1 + 1)) x37_3 (wrap64 (x40_4 + 1)))) else (impl_ParseTri.l2 k4 t118 x5_4 x19_1 (rdOf ByteArray.empty t118 x19_1) x37_3 t118 (t118.length : Int) x19_1 (wrap64 (x19_1 + 1)) x37_3 (wrap64 (x40_4 + 1)))) = some (r1, r2, r3) := by first | (rw [hji23] at H; exact H) | (simp only [hji23] at H ⊢; exact H)
                   have hji23_ : ((((bt (rdOf ByteArray.empty t118 x19_1) x37_3) - 48) % 256) / 2 ^ min x40_4.toNat 8) = ji23 := hji23
                   have hji23z : x40_4 ≤ 8 → ((((bt (rdOf ByteArray.empty t118 x19_1) x37_3) - 48) % 256) / 2 ^ x40_4.toNat) = ji23 := shr_small hji23
                   by_cases c24 : (Go.bits .and .u8 (ji23) 1) = 1
                   ·rw [if_pos c24] at H
                    have c24b0 : ((Go.bits .and .u8 (ji23) 1) == 1) = true := beq_iff_eq.mpr c24
                    have c24b1 : ((Go.bits .and .u8 (ji23) 1) != 1) = false := bne_eq_false_iff_eq.mpr c24
                    clear c24
                    replace H := Option.bind_eq_some_iff.mp H
                    obtain ⟨t127, A250, H⟩ := H
                    replace H : (impl_ParseTri.l2 k4 t118 (Go.bits .or .u64 x5_4 t127) x19_1 (rdOf ByteArray.empty t118 x19_1) x37_3 t118 (t118.length : Int) x19_1 (wrap64 (x19_1 + 1)) x37_3 (wrap64 (x40_4 + 1))) = some (r1, r2, r3) := H
                    have A25 := Aside0.mk A250
                    clear A250
                    have H' := Aside0.mk H
                    clear H
                    have p21 : 0 ≤ (x37_3 : Int) := of_decide_eq_true as_
                    have q21 : x37_3 < ((rdOf ByteArray.empty t118 x19_1).size : Int) := of_decide_eq_true as_
                    have hx21 := bt_at (rdOf ByteArray.empty t118 x19_1) x37_3
                    replace p21 := eq_true p21
                    replace q21 := eq_true q21
                    go_wp2_with (first | ((with_reducible refine gate_callee (f := 67) rfl ?_); refine goesL_ (some 55) rfl rfl Tryd.func67 (by kernel_rfl) rfl #[.int .i64 x19_1, .int .i64 x37_3, .int .i64 x40_4] rfl ob_ ?_; (with_reducible refine (impl_side.calls x19_1 x37_3 x40_4 t127 _ A25.out).mono ?_); rintro e w' ⟨rfl, ⟨nd, rfl⟩⟩; refine ⟨_, rfl, ?_⟩))
                    go_roundg k4
                    case measure => have := HK1.out; have := HJ10.out; have := HK3.out; have := HK4.out; omega
                    case rel => exact ⟨(Go.bits .or .u64 x5_4 t127), (wrap64 (x40_4 + 1)), rs_, rs_, H', ⟨by have := HK1.out; have := HJ10.out; have := HK3.out; have := HK4.out; omega⟩, ⟨kr_ HO_4.out⟩, ⟨kr_ HO_17.out⟩, ⟨bk_ BK117.out⟩, ⟨bl1_ HB.out GE117.out⟩⟩
                   ·rw [if_neg c24] at H
                    have c24b0 : ((Go.bits .and .u8 (ji23) 1) == 1) = false := beq_eq_false_iff_ne.mpr c24
                    have c24b1 : ((Go.bits .and .u8 (ji23) 1) != 1) = true := bne_iff_ne.mpr c24
                    have H' := Aside0.mk H
                    clear H
                    have p21 : 0 ≤ (x37_3 : Int) := of_decide_eq_true as_
                    have q21 : x37_3 < ((rdOf ByteArray.empty t118 x19_1).size : Int) := of_decide_eq_true as_
                    have hx21 := bt_at (rdOf ByteArray.empty t118 x19_1) x37_3
                    replace p21 := eq_true p21
                    replace q21 := eq_true q21
                    go_wp2
                    go_roundg k4
                    case measure => have := HK1.out; have := HJ10.out; have := HK3.out; have := HK4.out; omega
                    case rel => exact ⟨(x5_4), (wrap64 (x40_4 + 1)), rs_, rs_, H', ⟨by have := HK1.out; have := HJ10.out; have := HK3.out; have := HK4.out; omega⟩, ⟨kr_ HO_4.out⟩, ⟨kr_ HO_17.out⟩, ⟨bk_ BK117.out⟩, ⟨bl1_ HB.out GE117.out⟩⟩
                  ·rw [if_neg c22] at H
                   exact absurd H (by simp)
                 ·rw [if_neg c20] at H
                  exact absurd H (by simp)
                ·rw [if_neg c19] at H
                 exact absurd H (by simp)
               ·rw [if_neg c18] at H
                have c18b0 : decide (x40_4 < 3) = false := decide_eq_false c18
                clear c18
                have H' := Aside0.mk H
                clear H
                go_wp2
                go_roundg k4
                case measure => have := HK1.out; have := HJ10.out; have := HK3.out; have := HK4.out; omega
                case rel => exact ⟨(x5_4), (wrap64 (x37_3 + 1)), rs_, rs_, H', ⟨by have := HK1.out; have := HJ10.out; have := HK3.out; have := HK4.out; omega⟩, ⟨kr_ HO_4.out⟩, ⟨kr_ HO_17.out⟩, ⟨bk_ BK117.out⟩, ⟨bl1_ HB.out GE117.out⟩⟩
            ·rw [if_neg c17] at H
             have c17b0 : decide (x37_3 < (wrap64 (x19_1 + 1))) = false := decide_eq_false c17
             clear c17
             have H' := Aside0.mk H
             clear H
             go_wp2
             go_roundg k3
             case measure => have := HK1.out; have := HJ10.out; have := HK3.out; omega
             case rel => exact ⟨(x5_3), (wrap64 (x19_1 + 1)), (x118000_1), rs_, rs_, H', ⟨by have := HK1.out; have := HJ10.out; have := HK3.out; omega⟩, ⟨kr_ HO_4.out⟩, ⟨kr_ HO_17.out⟩, ⟨bk_ BK117.out⟩, ⟨bl1_ HB.out GE117.out⟩⟩
      ·rw [if_neg c10] at H
       exact absurd H (by simp)
     ·rw [if_neg c9] at H
      exact absurd H (by simp)
    ·rw [if_neg c8] at H
     have c8b0 : decide (x19_1 < (t118.length : Int)) = false := decide_eq_false c8
     clear c8
     replace H := Option.bind_eq_some_iff.mp H
     obtain ⟨t122, A260, H⟩ := H
     replace H : (some ((t118.length : Int), t122, true)) = some (r1, r2, r3) := H
     have A26 := Aside0.mk A260
     clear A260
     simp only [Option.some.injEq, Prod.mk.injEq] at H
     obtain ⟨rfl, rfl, rfl⟩ := H
     go_wp2_with (first | ((with_reducible refine gate_callee (f := 68) rfl ?_); refine goesL_ (some 63) rfl rfl Tryd.func68 (by kernel_rfl) rfl #[.int .u64 x5_1] rfl ob_ ?_; (with_reducible refine (impl_set_listed.calls x5_1 t122 _ (TB.below HTB.out (bl1_ HB.out GE117.out)) A26.out).mono ?_); rintro e w27 ⟨v123, rfl, ho0, hb⟩; refine ⟨_, rfl, ?_⟩; have n0_ := Aside0.mk (Kd.R_below (kr_ HO_4.out) hb); have n1_ := Aside0.mk (Kd.R_below (kr_ HO_17.out) hb); have n2_ := Aside0.mk (Kd.R_lower ho0 (below_size (bl1_ HB.out GE117.out))); have n3_ := Aside0.mk (bb_ BK117.out hb); have n4_ := Aside0.mk (below_step (bl1_ HB.out GE117.out) hb); clear HO_4; clear HO_17; clear BK117; clear HB; have HO_4 := n0_; have HO_17 := n1_; have HO124 := n2_; have BK117 := n3_; have HB := n4_; clear n0_ n1_ n2_ n3_ n4_; (try clear hb); (try clear hb2); (try clear hk); (try clear hi); (try clear ho0); obtain ⟨Ao28, co28, eo28⟩ := Kd.R_slice HO124.out; subst eo28; have hcz29_0 : w27.cell? ⟨gb117, 0, none⟩ = some (.int .i64 x118000_1) := (blk_cell BK117.out 0).trans rfl; have hcz29_1 : w27.cell? ⟨gb117, 1, none⟩ = some (.slice none 0 0) := (blk_cell BK117.out 1).trans rfl; have hfz29_0 := blk_frozen BK117.out 0; have hfz29_1 := blk_frozen BK117.out 1))
     refine bodyPost_ret (results_ct rfl _ _ gb117 28 #[.int .i64 (t118.length : Int), .slice Ao28 t122.length co28] (0, 0) _ rfl (by (with_reducible repeat (first | refine blk_drewN ?_ _ | refine blk_drew ?_ | refine blk_alloc ?_ _)); refine blk_put (cs := #[.int .i64 (t118.length : Int), .slice none 0 0]) ?_ 1 _ rfl; (with_reducible repeat (first | refine blk_drewN ?_ _ | refine blk_drew ?_ | refine blk_alloc ?_ _)); refine blk_put (cs := #[.int .i64 x118000_1, .slice none 0 0]) ?_ 0 _ rfl; (with_reducible repeat (first | refine blk_drewN ?_ _ | refine blk_drew ?_ | refine blk_alloc ?_ _)); exact BK117.out) Tryd.underlying28 rfl (by kernel_rfl)) rfl ?_
     exact ⟨_, er_, by (with_reducible repeat (first | apply Kd.R_alloc | apply Kd.R_drewN | apply Kd.R_drew)); exact Kd.R_mono (Kd.R_far (p := ⟨gb117, 1, none⟩) (Kd.R_far (p := ⟨gb117, 0, none⟩) (Kd.R_types HO124.out BK117.out (by decide)) (fun _ hk => hk.2) (.int .i64 (t118.length : Int))) (fun _ hk => hk.2) (.slice Ao28 t122.length co28)) (fun _ hk => trivial), bl1_ HB.out GE117.out⟩
 ·replace c4 := Bool.eq_false_iff.mpr c4
  subst c4
  have H1 : (some (0, ([] : List Int), false)) = some (r1, r2, r3) := by rw [if_neg (show ¬ (false = true) by decide)] at H; exact H
  clear H
  have H := H1
  clear H1
  simp only [Option.some.injEq, Prod.mk.injEq] at H
  obtain ⟨rfl, rfl, rfl⟩ := H
  go_enter Tryd.func27, Tryd.ntmps27
  go_wp2_with (first | ((with_reducible refine gate_dst (N := 2) rfl ?_); refine boxE_ (N := 2) (cs := #[.int .i64 0, .slice none 0 0]) (t := 28) ?_; intro gb117 hg w30 hbox hb; have n0_ := Aside0.mk (below_step (bl0_ HB.out) hb); have n1_ := Aside0.mk (hbox); have n2_ := Aside0.mk ((bs0_ hg HB.out : w.heap.size ≤ gb117)); have n3_ := Aside0.mk ((bs0_ hg HB.out : w.heap.size ≤ gb117)); clear HB; have HB := n0_; have BK117 := n1_; have GW117 := n2_; have GE117 := n3_; clear n0_ n1_ n2_ n3_; clear hb hbox hg) | ((with_reducible refine gate_callee (f := 55) rfl ?_); refine goesL_ (some 11) rfl rfl Tryd.func55 (by kernel_rfl) rfl #[.string a0, .string (⟨#[47]⟩ : ByteArray)] rfl ob_ ?_; (with_reducible refine (strings_Split.calls a0 (⟨#[47]⟩ : ByteArray) t118 _ (TB.below HTB.out (bl1_ HB.out GE117.out)) A2.out).mono ?_); rintro e w31 ⟨v119, rfl, ho0, hb⟩; refine ⟨_, rfl, ?_⟩; have n0_ := Aside0.mk (Kd.R_lower ho0 (below_size (bl1_ HB.out GE117.out))); have n1_ := Aside0.mk (bb_ BK117.out hb); have n2_ := Aside0.mk (below_step (bl1_ HB.out GE117.out) hb); clear BK117; clear HB; have HO120 := n0_; have BK117 := n1_; have HB := n2_; clear n0_ n1_ n2_; (try clear hb); (try clear hb2); (try clear hk); (try clear hi); (try clear ho0); obtain ⟨Ao32, co32, eo32⟩ := Kd.R_slice HO120.out; subst eo32) | ((with_reducible refine gate_callee (f := 65) rfl ?_); refine goesL_ (some 14) rfl rfl Tryd.func65 (by kernel_rfl) rfl #[.int .i64 (t118.length : Int)] rfl ob_ ?_; (with_reducible refine (impl_isLevel.calls (t118.length : Int) false _ A3.out).mono ?_); rintro e w' ⟨rfl, ⟨nd, rfl⟩⟩; refine ⟨_, rfl, ?_⟩; (try (rw [drewN_self w31]; generalize hq_ : World.drewN w31 _ = w31; have n0_ : Aside0 (Kd.R Kd.string 9 w31 w.heap.size (fun _ => True) (.slice Ao32 t118.length co32) t118) := ⟨by rw [← hq_]; exact (kr_ HO120.out)⟩; have n1_ : Aside0 (w31.heap[gb117]? = some (.cells #[.int .i64 0, .slice none 0 0] 28 (0, 0))) := ⟨by rw [← hq_]; exact (bk_ BK117.out)⟩; have n2_ : Aside0 (Below w.heap.size w w31) := ⟨by rw [← hq_]; exact (bl1_ HB.out GE117.out)⟩; clear HO120 BK117 HB hq_; have HO120 := n0_; have BK117 := n1_; have HB := n2_; clear n0_ n1_ n2_)); have hcz33_0 : w31.cell? ⟨gb117, 0, none⟩ = some (.int .i64 0) := (blk_cell BK117.out 0).trans rfl; have hcz33_1 : w31.cell? ⟨gb117, 1, none⟩ = some (.slice none 0 0) := (blk_cell BK117.out 1).trans rfl; have hfz33_0 := blk_frozen BK117.out 0; have hfz33_1 := blk_frozen BK117.out 1))
  refine bodyPost_ret (results_ct rfl _ _ gb117 28 #[.int .i64 0, .slice none 0 0] (0, 0) _ rfl (by (with_reducible repeat (first | refine blk_drewN ?_ _ | refine blk_drew ?_ | refine blk_alloc ?_ _)); refine blk_put (cs := #[.int .i64 0, .slice none 0 0]) ?_ 1 _ rfl; (with_reducible repeat (first | refine blk_drewN ?_ _ | refine blk_drew ?_ | refine blk_alloc ?_ _)); refine blk_put (cs := #[.int .i64 0, .slice none 0 0]) ?_ 0 _ rfl; (with_reducible repeat (first | refine blk_drewN ?_ _ | refine blk_drew ?_ | refine blk_alloc ?_ _)); exact BK117.out) Tryd.underlying28 rfl (by kernel_rfl)) rfl ?_
  exact ⟨_, er_, by first | exact Kd.R_nil _ _ _ _ _ | exact Kd.N_nil _ _ _ _ _ | exact Kd.V_nil _ _ _ _ _ | exact Kd.Q_nil _ _ _ _ _ | exact Kd.S_nil _ _ _ _ _, bl1_ HB.out GE117.out⟩


def laws_eqIntS.l0 : Nat → List Int → List Int → Int → Option (Bool)
 | 0, _, _, _ => none
 | k + 1, x0, x1, x5 => if x5 < (x0.length : Int) then (if 0 ≤ x5 then (if x5 < (x1.length : Int) then (if (rd x0 x5) = (rd x1 x5) then (laws_eqIntS.l0 k x0 x1 (wrap64 (x5 + 1))) else (some false)) else (none)) else (none)) else (some true)
def laws_eqIntS.f (k : Nat) (l0 : List Int) (l1 : List Int) : Option (Bool) := if (l0.length : Int) = (l1.length : Int) then (laws_eqIntS.l0 k l0 l1 0) else (some false)
theorem laws_eqIntS.mono_l : ∀ k, (∀ y0 y1 y2, LeO (laws_eqIntS.l0 k y0 y1 y2) (laws_eqIntS.l0 (k + 1) y0 y1 y2))
 | 0 => fun _ _ _ r h => by simp [laws_eqIntS.l0] at h
 | k + 1 => by
  have ih0 := laws_eqIntS.mono_l k
  ·intro y0 y1 y2
   unfold laws_eqIntS.l0
   repeat' first
   | (with_reducible exact ih0 _ _ _)
   | (with_reducible exact LeO.refl _)
   | (with_reducible exact LeO.none _)
   | (with_reducible refine LeO.ite ?_ ?_)
   | (with_reducible refine LeO.bind ?_ (fun _ => ?_))
   | exact ih0 _ _ _
   | exact LeO.none _
   | refine LeO.ite ?_ ?_
   | refine LeO.bind ?_ (fun _ => ?_)
theorem laws_eqIntS.mono : ∀ a0 a1 k, LeO (laws_eqIntS.f k a0 a1) (laws_eqIntS.f (k + 1) a0 a1) := by
 intro a0 a1 k
 have ih0 := laws_eqIntS.mono_l k
 unfold laws_eqIntS.f
 repeat' first
   | (with_reducible exact ih0 _ _ _)
   | (with_reducible exact LeO.refl _)
   | (with_reducible exact LeO.none _)
   | (with_reducible refine LeO.ite ?_ ?_)
   | (with_reducible refine LeO.bind ?_ (fun _ => ?_))
   | exact ih0 _ _ _
   | exact LeO.none _
   | refine LeO.ite ?_ ?_
   | refine LeO.bind ?_ (fun _ => ?_)
set_option maxHeartbeats 8000000 in
set_option maxRecDepth 100000 in
theorem laws_eqIntS.calls (k : Nat) (A0 : Option Addr) (c0 : Nat) (l0 : List Int) (A1 : Option Addr) (c1 : Nat) (l1 : List Int) (r : Bool) (w : World) (hr0 : Kd.C (Kd.int .i64) w A0 l0.length l0) (hc0 : l0.length ≤ c0) (hr1 : Kd.C (Kd.int .i64) w A1 l1.length l1) (hc1 : l1.length ≤ c1) (h : laws_eqIntS.f k l0 l1 = some r) :
  Calls Tryd.prog 61 #[.slice A0 l0.length c0, .slice A1 l1.length c1] w fun e w' => e = .returned (.bool r) ∧ Drawn0 w w' := by
 have HR0 := Aside0.mk hr0
 have HC0 := Aside0.mk hc0
 clear hr0 hc0
 have HR1 := Aside0.mk hr1
 have HC1 := Aside0.mk hc1
 clear hr1 hc1
 have H : (if (l0.length : Int) = (l1.length : Int) then (laws_eqIntS.l0 k l0 l1 0) else (some false)) = some r := h
 clear h
 by_cases c3 : (l0.length : Int) = (l1.length : Int)
 ·rw [if_pos c3] at H
  have c3b0 : ((l0.length : Int) == (l1.length : Int)) = true := beq_iff_eq.mpr c3
  have c3b1 : ((l0.length : Int) != (l1.length : Int)) = false := bne_eq_false_iff_eq.mpr c3
  have c3b2 : (l0.length == l1.length) = true := by first | simpa using c3 | (simp at c3 ⊢; omega)
  clear c3
  have H' := Aside0.mk H
  clear H
  go_enter Tryd.func61, Tryd.ntmps61
  go_wp2
  repeat (go_quiet (fail); try go_wp2)
  go_loopg [5] k (fun kq v5 w' => ∃ (x5_1 : Int), v5 = .int .i64 x5_1 ∧ Aside0 (laws_eqIntS.l0 kq l0 l1 x5_1 = some r) ∧ Aside0 (kq ≤ k) ∧ Drawn0 w w')
  case atStart => exact ⟨(0), rs_, H', ⟨Nat.le_refl _⟩, by repeat (first | exact Drawn0.refl _ | apply Drawn0.step)⟩
  case round =>
   clear H'
   try clear c1
   try clear p2
   try clear c3
   try clear c3b0
   try clear c3b1
   try clear c3b2
   obtain ⟨x5_1, rfl, HA, HK1, ⟨m1, rfl⟩⟩ := hrel
   cases gk with
   | zero => exact absurd HA.out (by simp [laws_eqIntS.l0])
   | succ k1 =>
    have H := HA.out
    clear HA
    simp only [laws_eqIntS.l0] at H
    by_cases c4 : x5_1 < (l0.length : Int)
    ·rw [if_pos c4] at H
     have c4b0 : decide (x5_1 < (l0.length : Int)) = true := decide_eq_true c4
     clear c4
     by_cases c5 : 0 ≤ x5_1
     ·rw [if_pos c5] at H
      have c5b0 : decide (0 ≤ x5_1) = true := decide_eq_true c5
      clear c5
      by_cases c6 : x5_1 < (l1.length : Int)
      ·rw [if_pos c6] at H
       have c6b0 : decide (x5_1 < (l1.length : Int)) = true := decide_eq_true c6
       clear c6
       by_cases c7 : (rd l0 x5_1) = (rd l1 x5_1)
       ·rw [if_pos c7] at H
        have c7b0 : ((rd l0 x5_1) == (rd l1 x5_1)) = true := beq_iff_eq.mpr c7
        have c7b1 : ((rd l0 x5_1) != (rd l1 x5_1)) = false := bne_eq_false_iff_eq.mpr c7
        clear c7
        have H' := Aside0.mk H
        clear H
        have p128 : 0 ≤ (x5_1 : Int) := of_decide_eq_true as_
        have q128 : x5_1 < (l0.length : Int) := of_decide_eq_true as_
        obtain ⟨ad128, e128, hx128_0⟩ := Kd.at_int HR0.out x5_1 p128 q128
        cases e128
        replace p128 := eq_true p128
        replace q128 := eq_true q128
        have p129 : 0 ≤ (x5_1 : Int) := of_decide_eq_true as_
        have q129 : x5_1 < (l1.length : Int) := of_decide_eq_true as_
        obtain ⟨ad129, e129, hx129_0⟩ := Kd.at_int HR1.out x5_1 p129 q129
        cases e129
        replace p129 := eq_true p129
        replace q129 := eq_true q129
        go_wp2
        repeat (go_quiet (fail); try go_wp2)
        go_roundg k1
        case measure => have := HK1.out; omega
        case rel => exact ⟨(wrap64 (x5_1 + 1)), rs_, H', ⟨by have := HK1.out; omega⟩, by repeat (first | exact Drawn0.refl _ | apply Drawn0.step)⟩
       ·rw [if_neg c7] at H
        have c7b0 : ((rd l0 x5_1) == (rd l1 x5_1)) = false := beq_eq_false_iff_ne.mpr c7
        have c7b1 : ((rd l0 x5_1) != (rd l1 x5_1)) = true := bne_iff_ne.mpr c7
        obtain rfl := Option.some.inj H
        have p128 : 0 ≤ (x5_1 : Int) := of_decide_eq_true as_
        have q128 : x5_1 < (l0.length : Int) := of_decide_eq_true as_
        obtain ⟨ad128, e128, hx128_0⟩ := Kd.at_int HR0.out x5_1 p128 q128
        cases e128
        replace p128 := eq_true p128
        replace q128 := eq_true q128
        have p129 : 0 ≤ (x5_1 : Int) := of_decide_eq_true as_
        have q129 : x5_1 < (l1.length : Int) := of_decide_eq_true as_
        obtain ⟨ad129, e129, hx129_0⟩ := Kd.at_int HR1.out x5_1 p129 q129
        cases e129
        replace p129 := eq_true p129
        replace q129 := eq_true q129
        go_wp2
        repeat (go_quiet (fail); try go_wp2)
        go_ret
        exact ⟨by first | rfl | (simp; done) | (simp [*]; done), by repeat (first | exact Drawn0.refl _ | apply Drawn0.step)⟩
      ·rw [if_neg c6] at H
       exact absurd H (by simp)
     ·rw [if_neg c5] at H
      exact absurd H (by simp)
    ·rw [if_neg c4] at H
     have c4b0 : decide (x5_1 < (l0.length : Int)) = false := decide_eq_false c4
     clear c4
     obtain rfl := Option.some.inj H
     go_wp2
     repeat (go_quiet (fail); try go_wp2)
     go_ret
     exact ⟨by first | rfl | (simp; done) | (simp [*]; done), by repeat (first | exact Drawn0.refl _ | apply Drawn0.step)⟩
 ·rw [if_neg c3] at H
  have c3b0 : ((l0.length : Int) == (l1.length : Int)) = false := beq_eq_false_iff_ne.mpr c3
  have c3b1 : ((l0.length : Int) != (l1.length : Int)) = true := bne_iff_ne.mpr c3
  have c3b2 : (l0.length == l1.length) = false := by first | simpa using c3 | (simp at c3 ⊢; omega)
  obtain rfl := Option.some.inj H
  go_enter Tryd.func61, Tryd.ntmps61
  go_wp2
  repeat (go_quiet (fail); try go_wp2)
  go_ret
  exact ⟨by first | rfl | (simp; done) | (simp [*]; done), by repeat (first | exact Drawn0.refl _ | apply Drawn0.step)⟩


def laws_eqTri.f (k : Nat) (a0_0 : Int) (l0_1 : List Int) (a1_0 : Int) (l1_1 : List Int) : Option (Bool) := if a0_0 = a1_0 then ((laws_eqIntS.f k l0_1 l1_1).bind fun t132 => (if t132 = true then (some true) else (some false))) else (some false)
theorem laws_eqTri.mono : ∀ a0 a1 a2 a3 k, LeO (laws_eqTri.f k a0 a1 a2 a3) (laws_eqTri.f (k + 1) a0 a1 a2 a3) := by
 intro a0 a1 a2 a3 k
 unfold laws_eqTri.f
 repeat' first
   | (with_reducible exact laws_eqIntS.mono _ _ _)
   | (with_reducible exact LeO.refl _)
   | (with_reducible exact LeO.none _)
   | (with_reducible refine LeO.ite ?_ ?_)
   | (with_reducible refine LeO.bind ?_ (fun _ => ?_))
   | exact laws_eqIntS.mono _ _ _
   | exact LeO.none _
   | refine LeO.ite ?_ ?_
   | refine LeO.bind ?_ (fun _ => ?_)
set_option maxHeartbeats 8000000 in
set_option maxRecDepth 100000 in
theorem laws_eqTri.calls (k : Nat) (a0_0 : Int) (A0_1 : Option Addr) (c0_1 : Nat) (l0_1 : List Int) (a1_0 : Int) (A1_1 : Option Addr) (c1_1 : Nat) (l1_1 : List Int) (r : Bool) (w : World) (hr0_1 : Kd.C (Kd.int .i64) w A0_1 l0_1.length l0_1) (hc0_1 : l0_1.length ≤ c0_1) (hr1_1 : Kd.C (Kd.int .i64) w A1_1 l1_1.length l1_1) (hc1_1 : l1_1.length ≤ c1_1) (h : laws_eqTri.f k a0_0 l0_1 a1_0 l1_1 = some r) :
  Calls Tryd.prog 28 #[.agg #[.int .i64 a0_0, .slice A0_1 l0_1.length c0_1], .agg #[.int .i64 a1_0, .slice A1_1 l1_1.length c1_1]] w fun e w' => e = .returned (.bool r) ∧ Below w.heap.size w w' := by
 have hu28 := Tryd.underlying28
 have HR0_1 := Aside0.mk hr0_1
 have HC0_1 := Aside0.mk hc0_1
 clear hr0_1 hc0_1
 have HR1_1 := Aside0.mk hr1_1
 have HC1_1 := Aside0.mk hc1_1
 clear hr1_1 hc1_1
 have HB := Aside0.mk (Below.refl w.heap.size w)
 have H : (if a0_0 = a1_0 then ((laws_eqIntS.f k l0_1 l1_1).bind fun t132 => (if t132 = true then (some true) else (some false))) else (some false)) = some r := h
 clear h
 by_cases c3 : a0_0 = a1_0
 ·rw [if_pos c3] at H
  have c3b0 : (a0_0 == a1_0) = true := beq_iff_eq.mpr c3
  have c3b1 : (a0_0 != a1_0) = false := bne_eq_false_iff_eq.mpr c3
  clear c3
  replace H := Option.bind_eq_some_iff.mp H
  obtain ⟨t132, A40, H⟩ := H
  replace H : (if t132 = true then (some true) else (some false)) = some r := H
  have A4 := Aside0.mk A40
  clear A40
  by_cases c5 : t132 = true
  ·subst c5
   have H1 : (some true) = some r := by rw [if_pos rfl] at H; exact H
   clear H
   have H := H1
   clear H1
   obtain rfl := Option.some.inj H
   go_enter Tryd.func28, Tryd.ntmps28
   go_wp2_with (first | ((with_reducible refine gate_dst (N := 2) rfl ?_); refine boxE_ (N := 2) (cs := #[.int .i64 a0_0, .slice A0_1 l0_1.length c0_1]) (t := 28) ?_; intro gb130 hg w6 hbox hb; have n0_ := Aside0.mk (below_step (bl0_ HB.out) hb); have n1_ := Aside0.mk (hbox); have n2_ := Aside0.mk ((bs0_ hg HB.out : w.heap.size ≤ gb130)); have n3_ := Aside0.mk ((bs0_ hg HB.out : w.heap.size ≤ gb130)); clear HB; have HB := n0_; have BK130 := n1_; have GW130 := n2_; have GE130 := n3_; clear n0_ n1_ n2_ n3_; clear hb hbox hg) | ((with_reducible refine gate_dst (N := 3) rfl ?_); refine boxE_ (N := 3) (cs := #[.int .i64 a1_0, .slice A1_1 l1_1.length c1_1]) (t := 28) ?_; intro gb131 hg w7 hbox hb; have n0_ := Aside0.mk (bb_ BK130.out hb); have n1_ := Aside0.mk (below_step (bl1_ HB.out GE130.out) hb); have n2_ := Aside0.mk (hbox); have n3_ := Aside0.mk ((bs1_ hg HB.out GE130.out : w.heap.size ≤ gb131)); have n4_ := Aside0.mk ((bs1_ hg HB.out GE130.out : w.heap.size ≤ gb131)); have n5_ := Aside0.mk ((nl_ hg BK130.out : gb130 ≠ gb131)); have n6_ := Aside0.mk ((ng_ hg BK130.out : gb131 ≠ gb130)); clear BK130; clear HB; have BK130 := n0_; have HB := n1_; have BK131 := n2_; have GW131 := n3_; have GE131 := n4_; have NB130_131 := n5_; have NB131_130 := n6_; clear n0_ n1_ n2_ n3_ n4_ n5_ n6_; clear hb hbox hg; have hnb8 := NB130_131.out; have hnc8 := NB131_130.out; have hcz9_0 : w7.cell? ⟨gb130, 0, none⟩ = some (.int .i64 a0_0) := (blk_cell BK130.out 0).trans rfl; have hcz9_1 : w7.cell? ⟨gb130, 1, none⟩ = some (.slice A0_1 l0_1.length c0_1) := (blk_cell BK130.out 1).trans rfl; have hfz9_0 := blk_frozen BK130.out 0; have hfz9_1 := blk_frozen BK130.out 1; have hcz10_0 : w7.cell? ⟨gb131, 0, none⟩ = some (.int .i64 a1_0) := (blk_cell BK131.out 0).trans rfl; have hcz10_1 : w7.cell? ⟨gb131, 1, none⟩ = some (.slice A1_1 l1_1.length c1_1) := (blk_cell BK131.out 1).trans rfl; have hfz10_0 := blk_frozen BK131.out 0; have hfz10_1 := blk_frozen BK131.out 1) | ((with_reducible refine gate_callee (f := 61) rfl ?_); refine goesL_ (some 14) rfl rfl Tryd.func61 (by kernel_rfl) rfl #[.slice A0_1 l0_1.length c0_1, .slice A1_1 l1_1.length c1_1] rfl ob_ ?_; (with_reducible refine (laws_eqIntS.calls k _ _ l0_1 _ _ l1_1 true _ ?side1 ?side2 ?side3 ?side4 A4.out).mono ?_); (case side1 => exact kc_ (Kd.C_below HR0_1.out HB.out)); (case side2 => exact HC0_1.out); (case side3 => exact kc_ (Kd.C_below HR1_1.out HB.out)); (case side4 => exact HC1_1.out); rintro e w' ⟨rfl, ⟨nd, rfl⟩⟩; refine ⟨_, rfl, ?_⟩))
   go_ret
   exact ⟨er_, bl2_ HB.out GE130.out GE131.out⟩
  ·replace c5 := Bool.eq_false_iff.mpr c5
   subst c5
   have H1 : (some false) = some r := by rw [if_neg (show ¬ (false = true) by decide)] at H; exact H
   clear H
   have H := H1
   clear H1
   obtain rfl := Option.some.inj H
   go_enter Tryd.func28, Tryd.ntmps28
   go_wp2_with (first | ((with_reducible refine gate_dst (N := 2) rfl ?_); refine boxE_ (N := 2) (cs := #[.int .i64 a0_0, .slice A0_1 l0_1.length c0_1]) (t := 28) ?_; intro gb130 hg w11 hbox hb; have n0_ := Aside0.mk (below_step (bl0_ HB.out) hb); have n1_ := Aside0.mk (hbox); have n2_ := Aside0.mk ((bs0_ hg HB.out : w.heap.size ≤ gb130)); have n3_ := Aside0.mk ((bs0_ hg HB.out : w.heap.size ≤ gb130)); clear HB; have HB := n0_; have BK130 := n1_; have GW130 := n2_; have GE130 := n3_; clear n0_ n1_ n2_ n3_; clear hb hbox hg) | ((with_reducible refine gate_dst (N := 3) rfl ?_); refine boxE_ (N := 3) (cs := #[.int .i64 a1_0, .slice A1_1 l1_1.length c1_1]) (t := 28) ?_; intro gb131 hg w12 hbox hb; have n0_ := Aside0.mk (bb_ BK130.out hb); have n1_ := Aside0.mk (below_step (bl1_ HB.out GE130.out) hb); have n2_ := Aside0.mk (hbox); have n3_ := Aside0.mk ((bs1_ hg HB.out GE130.out : w.heap.size ≤ gb131)); have n4_ := Aside0.mk ((bs1_ hg HB.out GE130.out : w.heap.size ≤ gb131)); have n5_ := Aside0.mk ((nl_ hg BK130.out : gb130 ≠ gb131)); have n6_ := Aside0.mk ((ng_ hg BK130.out : gb131 ≠ gb130)); clear BK130; clear HB; have BK130 := n0_; have HB := n1_; have BK131 := n2_; have GW131 := n3_; have GE131 := n4_; have NB130_131 := n5_; have NB131_130 := n6_; clear n0_ n1_ n2_ n3_ n4_ n5_ n6_; clear hb hbox hg; have hnb13 := NB130_131.out; have hnc13 := NB131_130.out; have hcz14_0 : w12.cell? ⟨gb130, 0, none⟩ = some (.int .i64 a0_0) := (blk_cell BK130.out 0).trans rfl; have hcz14_1 : w12.cell? ⟨gb130, 1, none⟩ = some (.slice A0_1 l0_1.length c0_1) := (blk_cell BK130.out 1).trans rfl; have hfz14_0 := blk_frozen BK130.out 0; have hfz14_1 := blk_frozen BK130.out 1; have hcz15_0 : w12.cell? ⟨gb131, 0, none⟩ = some (.int .i64 a1_0) := (blk_cell BK131.out 0).trans rfl; have hcz15_1 : w12.cell? ⟨gb131, 1, none⟩ = some (.slice A1_1 l1_1.length c1_1) := (blk_cell BK131.out 1).trans rfl; have hfz15_0 := blk_frozen BK131.out 0; have hfz15_1 := blk_frozen BK131.out 1) | ((with_reducible refine gate_callee (f := 61) rfl ?_); refine goesL_ (some 14) rfl rfl Tryd.func61 (by kernel_rfl) rfl #[.slice A0_1 l0_1.length c0_1, .slice A1_1 l1_1.length c1_1] rfl ob_ ?_; (with_reducible refine (laws_eqIntS.calls k _ _ l0_1 _ _ l1_1 false _ ?side1 ?side2 ?side3 ?side4 A4.out).mono ?_); (case side1 => exact kc_ (Kd.C_below HR0_1.out HB.out)); (case side2 => exact HC0_1.out); (case side3 => exact kc_ (Kd.C_below HR1_1.out HB.out)); (case side4 => exact HC1_1.out); rintro e w' ⟨rfl, ⟨nd, rfl⟩⟩; refine ⟨_, rfl, ?_⟩))
   go_ret
   exact ⟨er_, bl2_ HB.out GE130.out GE131.out⟩
 ·rw [if_neg c3] at H
  have c3b0 : (a0_0 == a1_0) = false := beq_eq_false_iff_ne.mpr c3
  have c3b1 : (a0_0 != a1_0) = true := bne_iff_ne.mpr c3
  obtain rfl := Option.some.inj H
  go_enter Tryd.func28, Tryd.ntmps28
  go_wp2_with (first | ((with_reducible refine gate_dst (N := 2) rfl ?_); refine boxE_ (N := 2) (cs := #[.int .i64 a0_0, .slice A0_1 l0_1.length c0_1]) (t := 28) ?_; intro gb130 hg w16 hbox hb; have n0_ := Aside0.mk (below_step (bl0_ HB.out) hb); have n1_ := Aside0.mk (hbox); have n2_ := Aside0.mk ((bs0_ hg HB.out : w.heap.size ≤ gb130)); have n3_ := Aside0.mk ((bs0_ hg HB.out : w.heap.size ≤ gb130)); clear HB; have HB := n0_; have BK130 := n1_; have GW130 := n2_; have GE130 := n3_; clear n0_ n1_ n2_ n3_; clear hb hbox hg) | ((with_reducible refine gate_dst (N := 3) rfl ?_); refine boxE_ (N := 3) (cs := #[.int .i64 a1_0, .slice A1_1 l1_1.length c1_1]) (t := 28) ?_; intro gb131 hg w17 hbox hb; have n0_ := Aside0.mk (bb_ BK130.out hb); have n1_ := Aside0.mk (below_step (bl1_ HB.out GE130.out) hb); have n2_ := Aside0.mk (hbox); have n3_ := Aside0.mk ((bs1_ hg HB.out GE130.out : w.heap.size ≤ gb131)); have n4_ := Aside0.mk ((bs1_ hg HB.out GE130.out : w.heap.size ≤ gb131)); have n5_ := Aside0.mk ((nl_ hg BK130.out : gb130 ≠ gb131)); have n6_ := Aside0.mk ((ng_ hg BK130.out : gb131 ≠ gb130)); clear BK130; clear HB; have BK130 := n0_; have HB := n1_; have BK131 := n2_; have GW131 := n3_; have GE131 := n4_; have NB130_131 := n5_; have NB131_130 := n6_; clear n0_ n1_ n2_ n3_ n4_ n5_ n6_; clear hb hbox hg; have hnb18 := NB130_131.out; have hnc18 := NB131_130.out; have hcz19_0 : w17.cell? ⟨gb130, 0, none⟩ = some (.int .i64 a0_0) := (blk_cell BK130.out 0).trans rfl; have hcz19_1 : w17.cell? ⟨gb130, 1, none⟩ = some (.slice A0_1 l0_1.length c0_1) := (blk_cell BK130.out 1).trans rfl; have hfz19_0 := blk_frozen BK130.out 0; have hfz19_1 := blk_frozen BK130.out 1; have hcz20_0 : w17.cell? ⟨gb131, 0, none⟩ = some (.int .i64 a1_0) := (blk_cell BK131.out 0).trans rfl; have hcz20_1 : w17.cell? ⟨gb131, 1, none⟩ = some (.slice A1_1 l1_1.length c1_1) := (blk_cell BK131.out 1).trans rfl; have hfz20_0 := blk_frozen BK131.out 0; have hfz20_1 := blk_frozen BK131.out 1))
  go_ret
  exact ⟨er_, bl2_ HB.out GE130.out GE131.out⟩


def laws_markIntS.l0 : Nat → List Int → Int → Int → Option (Int × List Int)
 | 0, _, _, _ => none
 | k + 1, x0, x1, x5 => if x5 < (x0.length : Int) then (if 0 ≤ x5 then (laws_markIntS.l0 k (x0.set (x5 : Int).toNat x1) (wrap64 (x1 + 1)) (wrap64 (x5 + 1))) else (none)) else (some (x1, x0))
def laws_markIntS.f (k : Nat) (l0 : List Int) (a1 : Int) : Option (Int × List Int) := laws_markIntS.l0 k l0 a1 0
theorem laws_markIntS.mono_l : ∀ k, (∀ y0 y1 y2, LeO (laws_markIntS.l0 k y0 y1 y2) (laws_markIntS.l0 (k + 1) y0 y1 y2))
 | 0 => fun _ _ _ r h => by simp [laws_markIntS.l0] at h
 | k + 1 => by
  have ih0 := laws_markIntS.mono_l k
  ·intro y0 y1 y2
   unfold laws_markIntS.l0
   repeat' first
   | (with_reducible exact ih0 _ _ _)
   | (with_reducible exact LeO.refl _)
   | (with_reducible exact LeO.none _)
   | (with_reducible refine LeO.ite ?_ ?_)
   | (with_reducible refine LeO.bind ?_ (fun _ => ?_))
   | exact ih0 _ _ _
   | exact LeO.none _
   | refine LeO.ite ?_ ?_
   | refine LeO.bind ?_ (fun _ => ?_)
theorem laws_markIntS.mono : ∀ a0 a1 k, LeO (laws_markIntS.f k a0 a1) (laws_markIntS.f (k + 1) a0 a1) := by
 intro a0 a1 k
 have ih0 := laws_markIntS.mono_l k
 unfold laws_markIntS.f
 repeat' first
   | (with_reducible exact ih0 _ _ _)
   | (with_reducible exact LeO.refl _)
   | (with_reducible exact LeO.none _)
   | (with_reducible refine LeO.ite ?_ ?_)
   | (with_reducible refine LeO.bind ?_ (fun _ => ?_))
   | exact ih0 _ _ _
   | exact LeO.none _
   | refine LeO.ite ?_ ?_
   | refine LeO.bind ?_ (fun _ => ?_)
set_option maxHeartbeats 8000000 in
set_option maxRecDepth 100000 in
theorem laws_markIntS.calls (k : Nat) (P0_ : Nat → Prop) (u9000_ : Value) (l0 : List Int) (a1 : Int) (r1 : Int) (r2 : List Int) (w0 w : World) (hB : Below w0.heap.size w0 w) (ho0 : Kd.R (Kd.int .i64) 3 w w0.heap.size P0_ u9000_ l0) (h : laws_markIntS.f k l0 a1 = some (r1, r2)) :
  Calls Tryd.prog 62 #[u9000_, .int .i64 a1] w fun e w' => e = .returned (.int .i64 r1) ∧ Kd.R (Kd.int .i64) 3 w' w0.heap.size (fun k_ => (P0_ k_ ∨ w.heap.size ≤ k_)) u9000_ r2 ∧ Below w0.heap.size w0 w' ∧ Kept w w' (fun k_ => P0_ k_) := by
 have HO0 := Aside0.mk (show Kd.R (Kd.int .i64) 3 w w0.heap.size (fun k_ => (P0_ k_ ∨ w.heap.size ≤ k_)) u9000_ l0 from Kd.R_mono ho0 (fun k_ hk => (.inl hk)))
 have HK := Aside0.mk (Kept.refl w (fun k_ => P0_ k_))
 have HW0 := Aside0.mk hB.size
 have HB := Aside0.mk hB
 clear hB
 have H : (laws_markIntS.l0 k l0 a1 0) = some (r1, r2) := h
 clear h
 have H' := Aside0.mk H
 clear H
 go_enter Tryd.func62, Tryd.ntmps62
 go_wp2
 go_loopg [1, 5] k (fun kq v1 v5 w' => ∃ (x0_1 : List Int) (x1_1 : Int) (x5_1 : Int), v1 = .int .i64 x1_1 ∧ v5 = .int .i64 x5_1 ∧ Aside0 (laws_markIntS.l0 kq x0_1 x1_1 x5_1 = some (r1, r2)) ∧ Aside0 (kq ≤ k) ∧ Aside0 (Kd.R (Kd.int .i64) 3 w' w0.heap.size (fun k_ => (P0_ k_ ∨ w.heap.size ≤ k_)) u9000_ x0_1) ∧ Aside0 (Kept w w' (fun k_ => P0_ k_)) ∧ Aside0 (Below w0.heap.size w0 w'))
 case atStart => exact ⟨(l0), (a1), (0), rs_, rs_, H', ⟨Nat.le_refl _⟩, ⟨kr_ HO0.out⟩, ⟨by repeat (first | (with_reducible first | exact HK.out | apply Kept.alloc | apply Kept.drewN | apply Kept.drew) | exact HK.out)⟩, ⟨bl0_ HB.out⟩⟩
 case round =>
  clear H'
  try clear p2
  obtain ⟨x0_1, x1_1, x5_1, rfl, rfl, HA, HK1, HO_0, HK, HB⟩ := hrel
  cases gk with
  | zero => exact absurd HA.out (by simp [laws_markIntS.l0])
  | succ k1 =>
   have H := HA.out
   clear HA
   simp only [laws_markIntS.l0] at H
   by_cases c3 : x5_1 < (x0_1.length : Int)
   ·rw [if_pos c3] at H
    have c3b0 : decide (x5_1 < (x0_1.length : Int)) = true := decide_eq_true c3
    clear c3
    by_cases c4 : 0 ≤ x5_1
    ·rw [if_pos c4] at H
     have c4b0 : decide (0 ≤ x5_1) = true := decide_eq_true c4
     clear c4
     obtain ⟨y133, hy133⟩ : ∃ y_ : List Int, y_ = (x0_1.set (x5_1 : Int).toNat x1_1) := ⟨_, rfl⟩
     replace H : (laws_markIntS.l0 k1 y133 (wrap64 (x1_1 + 1)) (wrap64 (x5_1 + 1))) = some (r1, r2) := by first | (rw [hy133]; with_reducible exact H) | (have H2_ := (Option.bind_some _ _).symm.trans H; rw [hy133]; with_reducible exact H2_) | (have H2_ := (Option.bind_some _ _).symm.trans H; with_reducible exact H2_) | with_reducible exact H | (rw [hy133]; exact H) | exact H
     have Ny133 := Aside0.mk hy133
     clear hy133
     have H' := Aside0.mk H
     clear H
     obtain ⟨Ao6, co6, eo6⟩ := Kd.R_slice HO_0.out
     subst eo6
     have p5 : 0 ≤ (x5_1 : Int) := of_decide_eq_true as_
     have q5 : (x5_1 : Int) < ((x0_1.length : Int) : Int) := of_decide_eq_true as_
     obtain ⟨go5, co5, eo5, gb5, gl5, cl5, HG5⟩ := Kd.R_form HO_0.out (by omega)
     (first | cases eo5 | (injection eo5 with ea_ en_ ec_; (first | subst ea_ | (injection ea_ with ea_; subst ea_)); subst ec_; clear en_))
     have GB5 := Aside0.mk gb5
     have GG5 := Aside0.mk HG5
     clear gb5 gl5 HG5
     have HMgo5 := Aside0.mk (show (P0_ go5 ∨ w.heap.size ≤ go5) from (HO_0.out.1 _ rfl))
     obtain ⟨hx5_0, hf5_0⟩ := Kd.R_celln 0 HO_0.out (x5_1 : Int) p5 q5
     replace p5 := eq_true p5
     replace q5 := eq_true q5
     have HP7 := Kd.R_putg HO_0.out (x5_1 : Int) x1_1
     go_wp2_with (first | ((with_reducible refine gate_store (t := 3) (p := 15) rfl ?_); refine store_event (t := 3) (p := 15) (v := ?vo_w8) (w1 := (wr.setCell ⟨go5, (x5_1 : Int).toNat, none⟩ (.int .i64 x1_1))) ?hg ?ho ?hn ?hr ?_; (case ho => rfl); (case hg => rfl); (case hn => rfl); (case hr => first | (go_simp; done) | (go_simp; rfl)); intro w8 hw; have hg : wr.grownBy w8 (some go5) := (by rw [hw]; exact HP7.2); have hp_ : Kd.R (Kd.int .i64) 3 w8 w0.heap.size (fun k_ => (P0_ k_ ∨ w.heap.size ≤ k_)) (.slice (some ⟨go5, 0, none⟩) x0_1.length co6) y133 := (by rw [hw, Ny133.out]; exact HP7.1); clear HP7; have n0_ := Aside0.mk (hp_); have n1_ := Aside0.mk ((by rw [hw]; exact below_set (HB.out) GB5.out : Below w0.heap.size w0 w8)); have n2_ := Aside0.mk (Kept.of_grown (S := (fun k_ => P0_ k_)) hg (by repeat (first | (with_reducible first | exact HK.out | apply Kept.alloc | apply Kept.drewN | apply Kept.drew) | exact HK.out)) (fun k_ e_ => (HO_0.out.1 k_ e_))); clear HO_0; clear HB; clear HK; have HO_0 := n0_; have HB := n1_; have HK := n2_; clear n0_ n1_ n2_; clear hg hw hp_))
     go_roundg k1
     case measure => have := HK1.out; omega
     case rel => exact ⟨(y133), (wrap64 (x1_1 + 1)), (wrap64 (x5_1 + 1)), rs_, rs_, H', ⟨by have := HK1.out; omega⟩, ⟨kr_ HO_0.out⟩, ⟨by repeat (first | (with_reducible first | exact HK.out | apply Kept.alloc | apply Kept.drewN | apply Kept.drew) | exact HK.out)⟩, ⟨bl0_ HB.out⟩⟩
    ·rw [if_neg c4] at H
     exact absurd H (by simp)
   ·rw [if_neg c3] at H
    have c3b0 : decide (x5_1 < (x0_1.length : Int)) = false := decide_eq_false c3
    clear c3
    simp only [Option.some.injEq, Prod.mk.injEq] at H
    obtain ⟨rfl, rfl⟩ := H
    obtain ⟨Ao9, co9, eo9⟩ := Kd.R_slice HO_0.out
    subst eo9
    go_wp2
    go_ret
    exact ⟨er_, by (with_reducible repeat (first | apply Kd.R_alloc | apply Kd.R_drewN | apply Kd.R_drew)); exact HO_0.out, bl0_ HB.out, by repeat (first | (with_reducible first | exact HK.out | apply Kept.alloc | apply Kept.drewN | apply Kept.drew) | exact HK.out)⟩


def laws_markTri.f (k : Nat) (a0_0 : Int) (l0_1 : List Int) (a1 : Int) : Option (Int × List Int) := (laws_markIntS.f k l0_1 a1).bind fun bt135 => (some (bt135.1, bt135.2))
theorem laws_markTri.mono : ∀ a0 a1 a2 k, LeO (laws_markTri.f k a0 a1 a2) (laws_markTri.f (k + 1) a0 a1 a2) := by
  intro a0 a1 a2 k
  unfold laws_markTri.f
  repeat' first
      | (with_reducible exact laws_markIntS.mono _ _ _)
      | (with_reducible exact LeO.refl _)
      | (with_reducible exact LeO.none _)
      | (with_reducible refine LeO.ite ?_ ?_)
      | (with_reducible refine LeO.bind ?_ (fun _ => ?_))
      | exact laws_markIntS.mono _ _ _
      | exact LeO.none _
      | refine LeO.ite ?_ ?_
      | refine LeO.bind ?_ (fun _ => ?_)
set_option maxHeartbeats 8000000 in
set_option maxRecDepth 100000 in
theorem laws_markTri.calls (k : Nat) (a0_0 : Int) (P0_1_ : Nat → Prop) (u9000_ : Value) (l0_1 : List Int) (a1 : Int) (r1 : Int) (r2 : List Int) (w0 w : World) (hB : Below w0.heap.size w0 w) (ho0_1 : Kd.R (Kd.int .i64) 3 w w0.heap.size P0_1_ u9000_ l0_1) (h : laws_markTri.f k a0_0 l0_1 a1 = some (r1, r2)) :
    Calls Tryd.prog 29 #[.agg #[.int .i64 a0_0, u9000_], .int .i64 a1] w fun e w' => e = .returned (.int .i64 r1) ∧ Kd.R (Kd.int .i64) 3 w' w0.heap.size (fun k_ => (P0_1_ k_ ∨ w.heap.size ≤ k_)) u9000_ r2 ∧ Below w0.heap.size w0 w' ∧ Kept w w' (fun k_ => P0_1_ k_) := by
  have hu28 := Tryd.underlying28
  have HO0_1 := Aside0.mk (show Kd.R (Kd.int .i64) 3 w w0.heap.size (fun k_ => (P0_1_ k_ ∨ w.heap.size ≤ k_)) u9000_ l0_1 from Kd.R_mono ho0_1 (fun k_ hk => (.inl hk)))
  have HK := Aside0.mk (Kept.refl w (fun k_ => P0_1_ k_))
  have HW0 := Aside0.mk hB.size
  have HB := Aside0.mk hB
  clear hB
  have H : ((laws_markIntS.f k l0_1 a1).bind fun bt135 => (some (bt135.1, bt135.2))) = some (r1, r2) := h
  clear h
  replace H := Option.bind_eq_some_iff.mp H
  obtain ⟨⟨t135, t136⟩, A30, H⟩ := H
  replace H : (some (t135, t136)) = some (r1, r2) := H
  have A3 := Aside0.mk A30
  clear A30
  simp only [Option.some.injEq, Prod.mk.injEq] at H
  obtain ⟨rfl, rfl⟩ := H
  obtain ⟨Ao4, co4, eo4⟩ := Kd.R_slice HO0_1.out
  subst eo4
  go_enter Tryd.func29, Tryd.ntmps29
  go_wp2_with (first | ((with_reducible refine gate_dst (N := 2) rfl ?_); refine boxE_ (N := 2) (cs := #[.int .i64 a0_0, .slice Ao4 l0_1.length co4]) (t := 28) ?_; intro gb134 hg w5 hbox hb; have n0_ := Aside0.mk (Kd.R_below (kr_ HO0_1.out) hb); have n1_ := Aside0.mk (Kept.below (S := (fun k_ => P0_1_ k_)) (by repeat (first | (with_reducible first | exact HK.out | apply Kept.alloc | apply Kept.drewN | apply Kept.drew) | exact HK.out)) hb); have n2_ := Aside0.mk (below_step (bl0_ HB.out) hb); have n3_ := Aside0.mk (hbox); have n4_ := Aside0.mk ((by rw [hg]; exact (by first | exact HK.out.1 | exact (show Kept w _ (fun k_ => P0_1_ k_) from by repeat (first | (with_reducible first | exact HK.out | apply Kept.alloc | apply Kept.drewN | apply Kept.drew) | exact HK.out)).1) : w.heap.size ≤ gb134)); have n5_ := Aside0.mk ((bs0_ hg HB.out : w0.heap.size ≤ gb134)); clear HO0_1; clear HK; clear HB; have HO0_1 := n0_; have HK := n1_; have HB := n2_; have BK134 := n3_; have GW134 := n4_; have GE134 := n5_; clear n0_ n1_ n2_ n3_ n4_ n5_; clear hb hbox hg; have hcz6_0 : w5.cell? ⟨gb134, 0, none⟩ = some (.int .i64 a0_0) := (blk_cell BK134.out 0).trans rfl; have hcz6_1 : w5.cell? ⟨gb134, 1, none⟩ = some (.slice Ao4 l0_1.length co4) := (blk_cell BK134.out 1).trans rfl; have hfz6_0 := blk_frozen BK134.out 0; have hfz6_1 := blk_frozen BK134.out 1) | ((with_reducible refine gate_callee (f := 62) rfl ?_); refine goesL_ (some 8) rfl rfl Tryd.func62 (by kernel_rfl) rfl #[.slice Ao4 l0_1.length co4, .int .i64 a1] rfl ob_ ?_; (with_reducible refine (laws_markIntS.calls k (fun k_ => some k_ = (.slice Ao4 l0_1.length co4 : Value).ownBlock) (.slice Ao4 l0_1.length co4) l0_1 a1 t135 t136 w0 _ ?side1 ?side2 A3.out).mono ?_); (case side1 => repeat (first | (with_reducible first | exact HB.out | apply below_alloc | apply pw_below_drewN | apply below_drew1 | refine below_set ?_ GE134.out) | exact HB.out)); (case side2 => exact Kd.R_tight rfl HO0_1.out); rintro e w7 ⟨rfl, hy0, hb, hkp⟩; refine ⟨_, rfl, ?_⟩; have n0_ := Aside0.mk (Kd.R_reok rfl hy0 (fun k_ e_ => HO0_1.out.1 k_ e_)); have n1_ := Aside0.mk (blk_kept (bk_ BK134.out) hkp (fun hs_ => (fun e_ => (Kd.R_ne HO0_1.out BK134.out (by decide)) e_) hs_)); have n2_ := Aside0.mk (Kept.then_ (S := (fun k_ => P0_1_ k_)) (by repeat (first | (with_reducible first | exact HK.out | apply Kept.alloc | apply Kept.drewN | apply Kept.drew | refine Kept.setCell ?_ (.inr GW134.out) _) | exact HK.out)) hkp (fun k_ hs_ => (fun e_ => (HO0_1.out.1 k_ e_.symm)) hs_)); have n3_ := Aside0.mk (hb); clear HO0_1; clear BK134; clear HK; clear HB; have HO0_1 := n0_; have BK134 := n1_; have HK := n2_; have HB := n3_; clear n0_ n1_ n2_ n3_; (try clear hb); (try clear hkp); (try clear hy0)))
  go_ret
  exact ⟨er_, by (with_reducible repeat (first | apply Kd.R_alloc | apply Kd.R_drewN | apply Kd.R_drew)); exact HO0_1.out, bl1_ HB.out GE134.out, by repeat (first | (with_reducible first | exact HK.out | apply Kept.alloc | apply Kept.drewN | apply Kept.drew | refine Kept.setCell ?_ (.inr GW134.out) _) | exact HK.out)⟩


def laws_heldIntS.l0 : Nat → List Int → Int → Int → Option (Int)
  | 0, _, _, _ => none
  | k + 1, x0, x1, x5 => if x5 < (x0.length : Int) then (if 0 ≤ x5 then (if (rd x0 x5) = x1 then (laws_heldIntS.l0 k x0 (wrap64 (x1 + 1)) (wrap64 (x5 + 1))) else (some (-1))) else (none)) else (some x1)
def laws_heldIntS.f (k : Nat) (l0 : List Int) (a1 : Int) : Option (Int) := laws_heldIntS.l0 k l0 a1 0
theorem laws_heldIntS.mono_l : ∀ k, (∀ y0 y1 y2, LeO (laws_heldIntS.l0 k y0 y1 y2) (laws_heldIntS.l0 (k + 1) y0 y1 y2))
  | 0 => fun _ _ _ r h => by simp [laws_heldIntS.l0] at h
  | k + 1 => by
    have ih0 := laws_heldIntS.mono_l k
    · intro y0 y1 y2
      unfold laws_heldIntS.l0
      repeat' first
      | (with_reducible exact ih0 _ _ _)
      | (with_reducible exact LeO.refl _)
      | (with_reducible exact LeO.none _)
      | (with_reducible refine LeO.ite ?_ ?_)
      | (with_reducible refine LeO.bind ?_ (fun _ => ?_))
      | exact ih0 _ _ _
      | exact LeO.none _
      | refine LeO.ite ?_ ?_
      | refine LeO.bind ?_ (fun _ => ?_)
theorem laws_heldIntS.mono : ∀ a0 a1 k, LeO (laws_heldIntS.f k a0 a1) (laws_heldIntS.f (k + 1) a0 a1) := by
  intro a0 a1 k
  have ih0 := laws_heldIntS.mono_l k
  unfold laws_heldIntS.f
  repeat' first
      | (with_reducible exact ih0 _ _ _)
      | (with_reducible exact LeO.refl _)
      | (with_reducible exact LeO.none _)
      | (with_reducible refine LeO.ite ?_ ?_)
      | (with_reducible refine LeO.bind ?_ (fun _ => ?_))
      | exact ih0 _ _ _
      | exact LeO.none _
      | refine LeO.ite ?_ ?_
      | refine LeO.bind ?_ (fun _ => ?_)
set_option maxHeartbeats 8000000 in
set_option maxRecDepth 100000 in
theorem laws_heldIntS.calls (k : Nat) (A0 : Option Addr) (c0 : Nat) (l0 : List Int) (a1 : Int) (r : Int) (w : World) (hr0 : Kd.C (Kd.int .i64) w A0 l0.length l0) (hc0 : l0.length ≤ c0) (h : laws_heldIntS.f k l0 a1 = some r) :
    Calls Tryd.prog 63 #[.slice A0 l0.length c0, .int .i64 a1] w fun e w' => e = .returned (.int .i64 r) ∧ Drawn0 w w' := by
  have HR0 := Aside0.mk hr0
  have HC0 := Aside0.mk hc0
  clear hr0 hc0
  have H : (laws_heldIntS.l0 k l0 a1 0) = some r := h
  clear h
  have H' := Aside0.mk H
  clear H
  go_enter Tryd.func63, Tryd.ntmps63
  go_wp2
  go_loopg [1, 5] k (fun kq v1 v5 w' => ∃ (x1_1 : Int) (x5_1 : Int), v1 = .int .i64 x1_1 ∧ v5 = .int .i64 x5_1 ∧ Aside0 (laws_heldIntS.l0 kq l0 x1_1 x5_1 = some r) ∧ Aside0 (kq ≤ k) ∧ Drawn0 w w')
  case atStart => exact ⟨(a1), (0), rs_, rs_, H', ⟨Nat.le_refl _⟩, by repeat (first | exact Drawn0.refl _ | apply Drawn0.step)⟩
  case round =>
    clear H'
    try clear p2
    obtain ⟨x1_1, x5_1, rfl, rfl, HA, HK1, ⟨m1, rfl⟩⟩ := hrel
    cases gk with
    | zero => exact absurd HA.out (by simp [laws_heldIntS.l0])
    | succ k1 =>
      have H := HA.out
      clear HA
      simp only [laws_heldIntS.l0] at H
      by_cases c3 : x5_1 < (l0.length : Int)
      · rw [if_pos c3] at H
        have c3b0 : decide (x5_1 < (l0.length : Int)) = true := decide_eq_true c3
        clear c3
        by_cases c4 : 0 ≤ x5_1
        · rw [if_pos c4] at H
          have c4b0 : decide (0 ≤ x5_1) = true := decide_eq_true c4
          clear c4
          by_cases c5 : (rd l0 x5_1) = x1_1
          · rw [if_pos c5] at H
            have c5b0 : ((rd l0 x5_1) == x1_1) = true := beq_iff_eq.mpr c5
            have c5b1 : ((rd l0 x5_1) != x1_1) = false := bne_eq_false_iff_eq.mpr c5
            clear c5
            have H' := Aside0.mk H
            clear H
            have p137 : 0 ≤ (x5_1 : Int) := of_decide_eq_true as_
            have q137 : x5_1 < (l0.length : Int) := of_decide_eq_true as_
            obtain ⟨ad137, e137, hx137_0⟩ := Kd.at_int HR0.out x5_1 p137 q137
            cases e137
            replace p137 := eq_true p137
            replace q137 := eq_true q137
            go_wp2
            go_roundg k1
            case measure => have := HK1.out; omega
            case rel => exact ⟨(wrap64 (x1_1 + 1)), (wrap64 (x5_1 + 1)), rs_, rs_, H', ⟨by have := HK1.out; omega⟩, by repeat (first | exact Drawn0.refl _ | apply Drawn0.step)⟩
          · rw [if_neg c5] at H
            have c5b0 : ((rd l0 x5_1) == x1_1) = false := beq_eq_false_iff_ne.mpr c5
            have c5b1 : ((rd l0 x5_1) != x1_1) = true := bne_iff_ne.mpr c5
            obtain rfl := Option.some.inj H
            have p137 : 0 ≤ (x5_1 : Int) := of_decide_eq_true as_
            have q137 : x5_1 < (l0.length : Int) := of_decide_eq_true as_
            obtain ⟨ad137, e137, hx137_0⟩ := Kd.at_int HR0.out x5_1 p137 q137
            cases e137
            replace p137 := eq_true p137
            replace q137 := eq_true q137
            go_wp2
            go_ret
            exact ⟨by first | rfl | (simp; done) | (simp [*]; done), by repeat (first | exact Drawn0.refl _ | apply Drawn0.step)⟩
        · rw [if_neg c4] at H
          exact absurd H (by simp)
      · rw [if_neg c3] at H
        have c3b0 : decide (x5_1 < (l0.length : Int)) = false := decide_eq_false c3
        clear c3
        obtain rfl := Option.some.inj H
        go_wp2
        go_ret
        exact ⟨by first | rfl | (simp; done) | (simp [*]; done), by repeat (first | exact Drawn0.refl _ | apply Drawn0.step)⟩


def laws_heldTri.f (k : Nat) (a0_0 : Int) (l0_1 : List Int) (a1 : Int) : Option (Int) := (laws_heldIntS.f k l0_1 a1).bind fun t139 => (if t139 < 0 then (some (-1)) else (some t139))
theorem laws_heldTri.mono : ∀ a0 a1 a2 k, LeO (laws_heldTri.f k a0 a1 a2) (laws_heldTri.f (k + 1) a0 a1 a2) := by
  intro a0 a1 a2 k
  unfold laws_heldTri.f
  repeat' first
      | (with_reducible exact laws_heldIntS.mono _ _ _)
      | (with_reducible exact LeO.refl _)
      | (with_reducible exact LeO.none _)
      | (with_reducible refine LeO.ite ?_ ?_)
      | (with_reducible refine LeO.bind ?_ (fun _ => ?_))
      | exact laws_heldIntS.mono _ _ _
      | exact LeO.none _
      | refine LeO.ite ?_ ?_
      | refine LeO.bind ?_ (fun _ => ?_)
set_option maxHeartbeats 8000000 in
set_option maxRecDepth 100000 in
theorem laws_heldTri.calls (k : Nat) (a0_0 : Int) (A0_1 : Option Addr) (c0_1 : Nat) (l0_1 : List Int) (a1 : Int) (r : Int) (w : World) (hr0_1 : Kd.C (Kd.int .i64) w A0_1 l0_1.length l0_1) (hc0_1 : l0_1.length ≤ c0_1) (h : laws_heldTri.f k a0_0 l0_1 a1 = some r) :
    Calls Tryd.prog 30 #[.agg #[.int .i64 a0_0, .slice A0_1 l0_1.length c0_1], .int .i64 a1] w fun e w' => e = .returned (.int .i64 r) ∧ Below w.heap.size w w' := by
  have hu28 := Tryd.underlying28
  have HR0_1 := Aside0.mk hr0_1
  have HC0_1 := Aside0.mk hc0_1
  clear hr0_1 hc0_1
  have HB := Aside0.mk (Below.refl w.heap.size w)
  have H : ((laws_heldIntS.f k l0_1 a1).bind fun t139 => (if t139 < 0 then (some (-1)) else (some t139))) = some r := h
  clear h
  replace H := Option.bind_eq_some_iff.mp H
  obtain ⟨t139, A30, H⟩ := H
  replace H : (if t139 < 0 then (some (-1)) else (some t139)) = some r := H
  have A3 := Aside0.mk A30
  clear A30
  by_cases c4 : t139 < 0
  · rw [if_pos c4] at H
    have c4b0 : decide (t139 < 0) = true := decide_eq_true c4
    clear c4
    obtain rfl := Option.some.inj H
    go_enter Tryd.func30, Tryd.ntmps30
    go_wp2_with (first | ((with_reducible refine gate_dst (N := 2) rfl ?_); refine boxE_ (N := 2) (cs := #[.int .i64 a0_0, .slice A0_1 l0_1.length c0_1]) (t := 28) ?_; intro gb138 hg w5 hbox hb; have n0_ := Aside0.mk (below_step (bl0_ HB.out) hb); have n1_ := Aside0.mk (hbox); have n2_ := Aside0.mk ((bs0_ hg HB.out : w.heap.size ≤ gb138)); have n3_ := Aside0.mk ((bs0_ hg HB.out : w.heap.size ≤ gb138)); clear HB; have HB := n0_; have BK138 := n1_; have GW138 := n2_; have GE138 := n3_; clear n0_ n1_ n2_ n3_; clear hb hbox hg; have hcz6_0 : w5.cell? ⟨gb138, 0, none⟩ = some (.int .i64 a0_0) := (blk_cell BK138.out 0).trans rfl; have hcz6_1 : w5.cell? ⟨gb138, 1, none⟩ = some (.slice A0_1 l0_1.length c0_1) := (blk_cell BK138.out 1).trans rfl; have hfz6_0 := blk_frozen BK138.out 0; have hfz6_1 := blk_frozen BK138.out 1) | ((with_reducible refine gate_callee (f := 63) rfl ?_); refine goesL_ (some 8) rfl rfl Tryd.func63 (by kernel_rfl) rfl #[.slice A0_1 l0_1.length c0_1, .int .i64 a1] rfl ob_ ?_; (with_reducible refine (laws_heldIntS.calls k _ _ l0_1 a1 t139 _ ?side1 ?side2 A3.out).mono ?_); (case side1 => exact kc_ (Kd.C_below HR0_1.out HB.out)); (case side2 => exact HC0_1.out); rintro e w' ⟨rfl, ⟨nd, rfl⟩⟩; refine ⟨_, rfl, ?_⟩))
    go_ret
    exact ⟨er_, bl1_ HB.out GE138.out⟩
  · rw [if_neg c4] at H
    have c4b0 : decide (t139 < 0) = false := decide_eq_false c4
    clear c4
    obtain rfl := Option.some.inj H
    go_enter Tryd.func30, Tryd.ntmps30
    go_wp2_with (first | ((with_reducible refine gate_dst (N := 2) rfl ?_); refine boxE_ (N := 2) (cs := #[.int .i64 a0_0, .slice A0_1 l0_1.length c0_1]) (t := 28) ?_; intro gb138 hg w7 hbox hb; have n0_ := Aside0.mk (below_step (bl0_ HB.out) hb); have n1_ := Aside0.mk (hbox); have n2_ := Aside0.mk ((bs0_ hg HB.out : w.heap.size ≤ gb138)); have n3_ := Aside0.mk ((bs0_ hg HB.out : w.heap.size ≤ gb138)); clear HB; have HB := n0_; have BK138 := n1_; have GW138 := n2_; have GE138 := n3_; clear n0_ n1_ n2_ n3_; clear hb hbox hg; have hcz8_0 : w7.cell? ⟨gb138, 0, none⟩ = some (.int .i64 a0_0) := (blk_cell BK138.out 0).trans rfl; have hcz8_1 : w7.cell? ⟨gb138, 1, none⟩ = some (.slice A0_1 l0_1.length c0_1) := (blk_cell BK138.out 1).trans rfl; have hfz8_0 := blk_frozen BK138.out 0; have hfz8_1 := blk_frozen BK138.out 1) | ((with_reducible refine gate_callee (f := 63) rfl ?_); refine goesL_ (some 8) rfl rfl Tryd.func63 (by kernel_rfl) rfl #[.slice A0_1 l0_1.length c0_1, .int .i64 a1] rfl ob_ ?_; (with_reducible refine (laws_heldIntS.calls k _ _ l0_1 a1 t139 _ ?side1 ?side2 A3.out).mono ?_); (case side1 => exact kc_ (Kd.C_below HR0_1.out HB.out)); (case side2 => exact HC0_1.out); rintro e w' ⟨rfl, ⟨nd, rfl⟩⟩; refine ⟨_, rfl, ?_⟩))
    go_ret
    exact ⟨er_, bl1_ HB.out GE138.out⟩


mutual
def laws_FnExactParseTri.j0 : Nat → ByteArray → Bool → Bool → Int → List Int → Int → List Int → Option (Bool)
 | 0, _, _, _, _, _, _, _ => none
 | k + 1, x0, x4, x32, x146000, x146001, x152000, x152001 => if x32 = true then (some false) else ((laws_markTri.f k x152000 x152001 101).bind fun bt153 => ((laws_heldTri.f k x152000 bt153.2 101).bind fun t155 => (if t155 < 0 then (some false) else (if t155 = bt153.1 then ((impl_ParseTri.f k x0).bind fun bt156 => ((laws_eqTri.f k bt156.1 bt156.2.1 x146000 x146001).bind fun t162 => (if t162 = true then (laws_FnExactParseTri.j1 k bt153.1 (bt156.2.2 != x4) x152000 bt153.2) else (laws_FnExactParseTri.j1 k bt153.1 true x152000 bt153.2)))) else (some false)))))
def laws_FnExactParseTri.j1 : Nat → Int → Bool → Int → List Int → Option (Bool)
 | 0, _, _, _, _ => none
 | k + 1, x7, x57, x152000, x152001 => if x57 = true then (some false) else ((laws_heldTri.f k x152000 x152001 101).bind fun t163 => (if t163 < 0 then (some false) else (if t163 = x7 then (some true) else (some false))))
end
def laws_FnExactParseTri.f (k : Nat) (a0 : ByteArray) : Option (Bool) := if (a0.size : Int) > 1000000 then (some true) else ((spec_ParseTri.f k a0).bind fun bt140 => ((impl_ParseTri.f k a0).bind fun bt146 => ((laws_eqTri.f k bt146.1 bt146.2.1 bt140.1 bt140.2.1).bind fun t152 => (if t152 = true then (laws_FnExactParseTri.j0 k a0 bt140.2.2 (bt146.2.2 != bt140.2.2) bt140.1 bt140.2.1 bt146.1 bt146.2.1) else (laws_FnExactParseTri.j0 k a0 bt140.2.2 true bt140.1 bt140.2.1 bt146.1 bt146.2.1)))))
theorem laws_FnExactParseTri.mono_l : ∀ k, (∀ y0 y1 y2 y3 y4 y5 y6, LeO (laws_FnExactParseTri.j0 k y0 y1 y2 y3 y4 y5 y6) (laws_FnExactParseTri.j0 (k + 1) y0 y1 y2 y3 y4 y5 y6)) ∧ (∀ y0 y1 y2 y3, LeO (laws_FnExactParseTri.j1 k y0 y1 y2 y3) (laws_FnExactParseTri.j1 (k + 1) y0 y1 y2 y3))
 | 0 => ⟨fun _ _ _ _ _ _ _ r h => by simp [laws_FnExactParseTri.j0] at h, fun _ _ _ _ r h => by simp [laws_FnExactParseTri.j1] at h⟩
 | k + 1 => by
  obtain ⟨ih0, ih1⟩ := laws_FnExactParseTri.mono_l k
  refine ⟨?_, ?_⟩
  ·intro y0 y1 y2 y3 y4 y5 y6
   unfold laws_FnExactParseTri.j0
   repeat' first
   | (with_reducible exact ih0 _ _ _ _ _ _ _)
   | (with_reducible exact ih1 _ _ _ _)
   | (with_reducible exact impl_ParseTri.mono _ _)
   | (with_reducible exact laws_eqTri.mono _ _ _ _ _)
   | (with_reducible exact laws_heldTri.mono _ _ _ _)
   | (with_reducible exact laws_markTri.mono _ _ _ _)
   | (with_reducible exact spec_ParseTri.mono _ _)
   | (with_reducible exact LeO.refl _)
   | (with_reducible exact LeO.none _)
   | (with_reducible refine LeO.ite ?_ ?_)
   | (with_reducible refine LeO.bind ?_ (fun _ => ?_))
   | exact ih0 _ _ _ _ _ _ _
   | exact ih1 _ _ _ _
   | exact impl_ParseTri.mono _ _
   | exact laws_eqTri.mono _ _ _ _ _
   | exact laws_heldTri.mono _ _ _ _
   | exact laws_markTri.mono _ _ _ _
   | exact spec_ParseTri.mono _ _
   | exact LeO.none _
   | refine LeO.ite ?_ ?_
   | refine LeO.bind ?_ (fun _ => ?_)
  ·intro y0 y1 y2 y3
   unfold laws_FnExactParseTri.j1
   repeat' first
   | (with_reducible exact ih0 _ _ _ _ _ _ _)
   | (with_reducible exact ih1 _ _ _ _)
   | (with_reducible exact impl_ParseTri.mono _ _)
   | (with_reducible exact laws_eqTri.mono _ _ _ _ _)
   | (with_reducible exact laws_heldTri.mono _ _ _ _)
   | (with_reducible exact laws_markTri.mono _ _ _ _)
   | (with_reducible exact spec_ParseTri.mono _ _)
   | (with_reducible exact LeO.refl _)
   | (with_reducible exact LeO.none _)
   | (with_reducible refine LeO.ite ?_ ?_)
   | (with_reducible refine LeO.bind ?_ (fun _ => ?_))
   | exact ih0 _ _ _ _ _ _ _
   | exact ih1 _ _ _ _
   | exact impl_ParseTri.mono _ _
   | exact laws_eqTri.mono _ _ _ _ _
   | exact laws_heldTri.mono _ _ _ _
   | exact laws_markTri.mono _ _ _ _
   | exact spec_ParseTri.mono _ _
   | exact LeO.none _
   | refine LeO.ite ?_ ?_
   | refine LeO.bind ?_ (fun _ => ?_)
theorem laws_FnExactParseTri.mono : ∀ a0 k, LeO (laws_FnExactParseTri.f k a0) (laws_FnExactParseTri.f (k + 1) a0) := by
 intro a0 k
 obtain ⟨ih0, ih1⟩ := laws_FnExactParseTri.mono_l k
 unfold laws_FnExactParseTri.f
 repeat' first
   | (with_reducible exact ih0 _ _ _ _ _ _ _)
   | (with_reducible exact ih1 _ _ _ _)
   | (with_reducible exact impl_ParseTri.mono _ _)
   | (with_reducible exact laws_eqTri.mono _ _ _ _ _)
   | (with_reducible exact laws_heldTri.mono _ _ _ _)
   | (with_reducible exact laws_markTri.mono _ _ _ _)
   | (with_reducible exact spec_ParseTri.mono _ _)
   | (with_reducible exact LeO.refl _)
   | (with_reducible exact LeO.none _)
   | (with_reducible refine LeO.ite ?_ ?_)
   | (with_reducible refine LeO.bind ?_ (fun _ => ?_))
   | exact ih0 _ _ _ _ _ _ _
   | exact ih1 _ _ _ _
   | exact impl_ParseTri.mono _ _
   | exact laws_eqTri.mono _ _ _ _ _
   | exact laws_heldTri.mono _ _ _ _
   | exact laws_markTri.mono _ _ _ _
   | exact spec_ParseTri.mono _ _
   | exact LeO.none _
   | refine LeO.ite ?_ ?_
   | refine LeO.bind ?_ (fun _ => ?_)
set_option maxHeartbeats 8000000 in
set_option maxRecDepth 100000 in
theorem laws_FnExactParseTri.calls (k : Nat) (a0 : ByteArray) (r : Bool) (w : World) (hT_ : TB w) (h : laws_FnExactParseTri.f k a0 = some r) :
  Calls Tryd.prog 7 #[.string a0] w fun e w' => e = .returned (.bool r) ∧ Below w.heap.size w w' := by
 have hu28 := Tryd.underlying28
 have HB := Aside0.mk (Below.refl w.heap.size w)
 have HTB := Aside0.mk hT_
 clear hT_
 have H : (if (a0.size : Int) > 1000000 then (some true) else ((spec_ParseTri.f k a0).bind fun bt140 => ((impl_ParseTri.f k a0).bind fun bt146 => ((laws_eqTri.f k bt146.1 bt146.2.1 bt140.1 bt140.2.1).bind fun t152 => (if t152 = true then (laws_FnExactParseTri.j0 k a0 bt140.2.2 (bt146.2.2 != bt140.2.2) bt140.1 bt140.2.1 bt146.1 bt146.2.1) else (laws_FnExactParseTri.j0 k a0 bt140.2.2 true bt140.1 bt140.2.1 bt146.1 bt146.2.1)))))) = some r := h
 clear h
 by_cases c2 : (a0.size : Int) > 1000000
 ·rw [if_pos c2] at H
  have c2b0 : decide (1000000 < (a0.size : Int)) = true := decide_eq_true c2
  have c2b1 : decide (1000000 < a0.size) = true := decide_eq_true (by omega)
  clear c2
  obtain rfl := Option.some.inj H
  go_enter Tryd.func7, Tryd.ntmps7
  go_wp2
  go_ret
  exact ⟨er_, bl0_ HB.out⟩
 ·rw [if_neg c2] at H
  have c2b0 : decide (1000000 < (a0.size : Int)) = false := decide_eq_false c2
  have c2b1 : decide (1000000 < a0.size) = false := decide_eq_false (by omega)
  clear c2
  replace H := Option.bind_eq_some_iff.mp H
  obtain ⟨⟨t140, t141, t144⟩, A30, H⟩ := H
  replace H : ((impl_ParseTri.f k a0).bind fun bt146 => ((laws_eqTri.f k bt146.1 bt146.2.1 t140 t141).bind fun t152 => (if t152 = true then (laws_FnExactParseTri.j0 k a0 t144 (bt146.2.2 != t144) t140 t141 bt146.1 bt146.2.1) else (laws_FnExactParseTri.j0 k a0 t144 true t140 t141 bt146.1 bt146.2.1)))) = some r := H
  have A3 := Aside0.mk A30
  clear A30
  replace H := Option.bind_eq_some_iff.mp H
  obtain ⟨⟨t146, t147, t150⟩, A40, H⟩ := H
  replace H : ((laws_eqTri.f k t146 t147 t140 t141).bind fun t152 => (if t152 = true then (laws_FnExactParseTri.j0 k a0 t144 (t150 != t144) t140 t141 t146 t147) else (laws_FnExactParseTri.j0 k a0 t144 true t140 t141 t146 t147))) = some r := H
  have A4 := Aside0.mk A40
  clear A40
  have HC5 := Aside0.mk H
  clear H
  go_enter Tryd.func7, Tryd.ntmps7
  go_upto_region 5 with (first | ((with_reducible refine gate_callee (f := 26) rfl ?_); refine goesL_ (some 16) rfl rfl Tryd.func26 (by kernel_rfl) rfl #[.string a0] rfl ob_ ?_; (with_reducible refine (spec_ParseTri.calls k a0 t140 t141 t144 _ A3.out).mono ?_); rintro e w6 ⟨v142, rfl, ho0, hb⟩; refine ⟨_, rfl, ?_⟩; have n0_ := Aside0.mk (Kd.R_lower ho0 (below_size (bl0_ HB.out))); have n1_ := Aside0.mk (below_step (bl0_ HB.out) hb); clear HB; have HO143 := n0_; have HB := n1_; clear n0_ n1_; (try clear hb); (try clear hb2); (try clear hk); (try clear hi); (try clear ho0)) | ((with_reducible refine gate_dst (N := 3) rfl ?_); refine boxE_ (N := 3) (cs := #[.int .i64 0, .slice none 0 0]) (t := 28) ?_; intro gb145 hg w7 hbox hb; have n0_ := Aside0.mk (Kd.R_below (kr_ HO143.out) hb); have n1_ := Aside0.mk (below_step (bl0_ HB.out) hb); have n2_ := Aside0.mk (hbox); have n3_ := Aside0.mk ((bs0_ hg HB.out : w.heap.size ≤ gb145)); have n4_ := Aside0.mk ((bs0_ hg HB.out : w.heap.size ≤ gb145)); clear HO143; clear HB; have HO143 := n0_; have HB := n1_; have BK145 := n2_; have GW145 := n3_; have GE145 := n4_; clear n0_ n1_ n2_ n3_ n4_; clear hb hbox hg; have hcz8_0 : w7.cell? ⟨gb145, 0, none⟩ = some (.int .i64 0) := (blk_cell BK145.out 0).trans rfl; have hcz8_1 : w7.cell? ⟨gb145, 1, none⟩ = some (.slice none 0 0) := (blk_cell BK145.out 1).trans rfl; have hfz8_0 := blk_frozen BK145.out 0; have hfz8_1 := blk_frozen BK145.out 1; obtain ⟨Ao9, co9, eo9⟩ := Kd.R_slice HO143.out; subst eo9) | ((with_reducible refine gate_callee (f := 27) rfl ?_); refine goesL_ (some 21) rfl rfl Tryd.func27 (by kernel_rfl) rfl #[.string a0] rfl ob_ ?_; (with_reducible refine (impl_ParseTri.calls k a0 t146 t147 t150 _ (TB.below HTB.out (bl1_ HB.out GE145.out)) A4.out).mono ?_); rintro e w10 ⟨v148, rfl, ho0, hb⟩; refine ⟨_, rfl, ?_⟩; have n0_ := Aside0.mk (Kd.R_elder' (by (with_reducible repeat (first | apply Kd.R_alloc | apply Kd.R_drewN | apply Kd.R_drew)); exact (Kd.R_mono (Kd.R_far (p := ⟨gb145, 1, none⟩) (Kd.R_far (p := ⟨gb145, 0, none⟩) (Kd.R_types HO143.out BK145.out (by decide)) (fun _ hk => hk.2) (.int .i64 t140)) (fun _ hk => hk.2) (.slice Ao9 t141.length co9)) (fun _ h_ => h_.1))) (Kd.R_base ho0) hb); have n1_ := Aside0.mk (Kd.R_lower (Kd.R_new' ho0 (Kd.R_lt (by (with_reducible repeat (first | apply Kd.R_alloc | apply Kd.R_drewN | apply Kd.R_drew)); exact (Kd.R_mono (Kd.R_far (p := ⟨gb145, 1, none⟩) (Kd.R_far (p := ⟨gb145, 0, none⟩) (Kd.R_types HO143.out BK145.out (by decide)) (fun _ hk => hk.2) (.int .i64 t140)) (fun _ hk => hk.2) (.slice Ao9 t141.length co9)) (fun _ h_ => h_.1))))) (below_size (bl1_ HB.out GE145.out))); have n2_ := Aside0.mk (blk_below (g := gb145) (o := .cells #[.int .i64 t140, .slice Ao9 t141.length co9] 28 (0, 0)) (by (with_reducible repeat (first | refine blk_drewN ?_ _ | refine blk_drew ?_ | refine blk_alloc ?_ _)); refine blk_put (cs := #[.int .i64 t140, .slice none 0 0]) ?_ 1 _ rfl; (with_reducible repeat (first | refine blk_drewN ?_ _ | refine blk_drew ?_ | refine blk_alloc ?_ _)); refine blk_put (cs := #[.int .i64 0, .slice none 0 0]) ?_ 0 _ rfl; (with_reducible repeat (first | refine blk_drewN ?_ _ | refine blk_drew ?_ | refine blk_alloc ?_ _)); exact BK145.out) hb); have n3_ := Aside0.mk (below_step (bl1_ HB.out GE145.out) hb); clear HO143; clear BK145; clear HB; have HO143 := n0_; have HO149 := n1_; have BK145 := n2_; have HB := n3_; clear n0_ n1_ n2_ n3_; (try clear hb); (try clear hb2); (try clear hk); (try clear hi); (try clear ho0)) | ((with_reducible refine gate_dst (N := 5) rfl ?_); refine boxE_ (N := 5) (cs := #[.int .i64 0, .slice none 0 0]) (t := 28) ?_; intro gb151 hg w11 hbox hb; have n0_ := Aside0.mk (Kd.R_below (kr_ HO143.out) hb); have n1_ := Aside0.mk (Kd.R_below (kr_ HO149.out) hb); have n2_ := Aside0.mk (bb_ BK145.out hb); have n3_ := Aside0.mk (below_step (bl1_ HB.out GE145.out) hb); have n4_ := Aside0.mk (hbox); have n5_ := Aside0.mk ((bs1_ hg HB.out GE145.out : w.heap.size ≤ gb151)); have n6_ := Aside0.mk ((bs1_ hg HB.out GE145.out : w.heap.size ≤ gb151)); have n7_ := Aside0.mk ((nl_ hg BK145.out : gb145 ≠ gb151)); have n8_ := Aside0.mk ((ng_ hg BK145.out : gb151 ≠ gb145)); clear HO143; clear HO149; clear BK145; clear HB; have HO143 := n0_; have HO149 := n1_; have BK145 := n2_; have HB := n3_; have BK151 := n4_; have GW151 := n5_; have GE151 := n6_; have NB145_151 := n7_; have NB151_145 := n8_; clear n0_ n1_ n2_ n3_ n4_ n5_ n6_ n7_ n8_; clear hb hbox hg; have hnb12 := NB151_145.out; have hnc12 := NB145_151.out; have hcz13_0 : w11.cell? ⟨gb151, 0, none⟩ = some (.int .i64 0) := (blk_cell BK151.out 0).trans rfl; have hcz13_1 : w11.cell? ⟨gb151, 1, none⟩ = some (.slice none 0 0) := (blk_cell BK151.out 1).trans rfl; have hfz13_0 := blk_frozen BK151.out 0; have hfz13_1 := blk_frozen BK151.out 1; obtain ⟨Ao14, co14, eo14⟩ := Kd.R_slice HO149.out; subst eo14))
  (try simp only [Act.put, List.setIfInBounds_toArray, List.set_cons_zero, List.set_cons_succ])
  go_cut [32] (fun v32 wc => ∃ (kq : Nat) (x32_4 : Bool), v32 = .bool x32_4 ∧ Aside0 (laws_FnExactParseTri.j0 kq a0 t144 x32_4 t140 t141 t146 t147 = some r) ∧ Aside0 (kq ≤ k) ∧ Aside0 (Kd.R (Kd.int .i64) 3 wc w.heap.size (fun k_ => some k_ ≠ ((.slice Ao14 t147.length co14) : Value).ownBlock) (.slice Ao9 t141.length co9) t141) ∧ Aside0 (Kd.R (Kd.int .i64) 3 wc w.heap.size (fun k_ => some k_ ≠ ((.slice Ao9 t141.length co9) : Value).ownBlock) (.slice Ao14 t147.length co14) t147) ∧ Aside0 (wc.heap[gb145]? = some (.cells #[.int .i64 t140, (.slice Ao9 t141.length co9)] 28 (0, 0))) ∧ Aside0 (wc.heap[gb151]? = some (.cells #[.int .i64 t146, (.slice Ao14 t147.length co14)] 28 (0, 0))) ∧ Aside0 (Below w.heap.size w wc))
  case first =>
   have H := HC5.out
   clear HC5
   replace H := Option.bind_eq_some_iff.mp H
   obtain ⟨t152, A150, H⟩ := H
   replace H : (if t152 = true then (laws_FnExactParseTri.j0 k a0 t144 (t150 != t144) t140 t141 t146 t147) else (laws_FnExactParseTri.j0 k a0 t144 true t140 t141 t146 t147)) = some r := H
   have A15 := Aside0.mk A150
   clear A150
   by_cases c16 : t152 = true
   ·subst c16
    have H1 : (laws_FnExactParseTri.j0 k a0 t144 (t150 != t144) t140 t141 t146 t147) = some r := by rw [if_pos rfl] at H; exact H
    clear H
    have H := H1
    clear H1
    have H' := Aside0.mk H
    clear H
    have hnb17 := NB151_145.out
    have hnc17 := NB145_151.out
    have hcz18_0 : w11.cell? ⟨gb151, 0, none⟩ = some (.int .i64 0) := (blk_cell BK151.out 0).trans rfl
    have hcz18_1 : w11.cell? ⟨gb151, 1, none⟩ = some (.slice none 0 0) := (blk_cell BK151.out 1).trans rfl
    have hfz18_0 := blk_frozen BK151.out 0
    have hfz18_1 := blk_frozen BK151.out 1
    have hcz19_0 : w11.cell? ⟨gb145, 0, none⟩ = some (.int .i64 t140) := (blk_cell BK145.out 0).trans rfl
    have hcz19_1 : w11.cell? ⟨gb145, 1, none⟩ = some (.slice Ao9 t141.length co9) := (blk_cell BK145.out 1).trans rfl
    have hfz19_0 := blk_frozen BK145.out 0
    have hfz19_1 := blk_frozen BK145.out 1
    go_wp2_with (first | ((with_reducible refine gate_callee (f := 28) rfl ?_); refine goesL_ (some 26) rfl rfl Tryd.func28 (by kernel_rfl) rfl #[.agg #[.int .i64 t146, .slice Ao14 t147.length co14], .agg #[.int .i64 t140, .slice Ao9 t141.length co9]] rfl ob_ ?_; (with_reducible refine (laws_eqTri.calls k t146 _ _ t147 t140 _ _ t141 true _ ?side1 ?side2 ?side3 ?side4 A15.out).mono ?_); (case side1 => refine (Kd.R_reads' (e := 3) (base := w.heap.size) (ok := fun k_ => (True ∧ some k_ ≠ (.slice Ao9 t141.length co9 : Value).ownBlock)) (n := t147.length) (c := co14) ?_).2.2; exact (by (with_reducible repeat (first | apply Kd.R_alloc | apply Kd.R_drewN | apply Kd.R_drew)); exact (Kd.R_mono (Kd.R_far (p := ⟨gb151, 1, none⟩) (Kd.R_far (p := ⟨gb151, 0, none⟩) (Kd.R_types HO149.out BK151.out (by decide)) (fun _ hk => hk.2) (.int .i64 t146)) (fun _ hk => hk.2) (.slice Ao14 t147.length co14)) (fun _ h_ => h_.1)))); (case side2 => exact (Kd.R_reads' HO149.out).2.1); (case side3 => refine (Kd.R_reads' (e := 3) (base := w.heap.size) (ok := fun k_ => (True ∧ some k_ ≠ (.slice Ao14 t147.length co14 : Value).ownBlock)) (n := t141.length) (c := co9) ?_).2.2; exact (by (with_reducible repeat (first | apply Kd.R_alloc | apply Kd.R_drewN | apply Kd.R_drew)); exact (Kd.R_mono (Kd.R_far (p := ⟨gb151, 1, none⟩) (Kd.R_far (p := ⟨gb151, 0, none⟩) (Kd.R_types HO143.out BK151.out (by decide)) (fun _ hk => hk.2) (.int .i64 t146)) (fun _ hk => hk.2) (.slice Ao14 t147.length co14)) (fun _ h_ => h_.1)))); (case side4 => exact (Kd.R_reads' HO143.out).2.1); rintro e w20 ⟨rfl, hb⟩; refine ⟨_, rfl, ?_⟩; have n0_ := Aside0.mk (Kd.R_below (by (with_reducible repeat (first | apply Kd.R_alloc | apply Kd.R_drewN | apply Kd.R_drew)); exact (Kd.R_mono (Kd.R_far (p := ⟨gb151, 1, none⟩) (Kd.R_far (p := ⟨gb151, 0, none⟩) (Kd.R_types HO143.out BK151.out (by decide)) (fun _ hk => hk.2) (.int .i64 t146)) (fun _ hk => hk.2) (.slice Ao14 t147.length co14)) (fun _ h_ => h_.1))) hb); have n1_ := Aside0.mk (Kd.R_below (by (with_reducible repeat (first | apply Kd.R_alloc | apply Kd.R_drewN | apply Kd.R_drew)); exact (Kd.R_mono (Kd.R_far (p := ⟨gb151, 1, none⟩) (Kd.R_far (p := ⟨gb151, 0, none⟩) (Kd.R_types HO149.out BK151.out (by decide)) (fun _ hk => hk.2) (.int .i64 t146)) (fun _ hk => hk.2) (.slice Ao14 t147.length co14)) (fun _ h_ => h_.1))) hb); have n2_ := Aside0.mk (blk_below (g := gb145) (o := .cells #[.int .i64 t140, .slice Ao9 t141.length co9] 28 (0, 0)) (bf2_ NB145_151.out NB145_151.out BK145.out) hb); have n3_ := Aside0.mk (blk_below (g := gb151) (o := .cells #[.int .i64 t146, .slice Ao14 t147.length co14] 28 (0, 0)) (by (with_reducible repeat (first | refine blk_drewN ?_ _ | refine blk_drew ?_ | refine blk_alloc ?_ _)); refine blk_put (cs := #[.int .i64 t146, .slice none 0 0]) ?_ 1 _ rfl; (with_reducible repeat (first | refine blk_drewN ?_ _ | refine blk_drew ?_ | refine blk_alloc ?_ _)); refine blk_put (cs := #[.int .i64 0, .slice none 0 0]) ?_ 0 _ rfl; (with_reducible repeat (first | refine blk_drewN ?_ _ | refine blk_drew ?_ | refine blk_alloc ?_ _)); exact BK151.out) hb); have n4_ := Aside0.mk (below_step (bl2_ HB.out GE145.out GE151.out) hb); clear HO143; clear HO149; clear BK145; clear BK151; clear HB; have HO143 := n0_; have HO149 := n1_; have BK145 := n2_; have BK151 := n3_; have HB := n4_; clear n0_ n1_ n2_ n3_ n4_; (try clear hb); (try clear hb2); (try clear hk); (try clear hi)))
    go_meet
    case rel => exact ⟨_, ((t150 != t144)), rs_, H', ⟨by first | omega | exact Nat.le_refl _⟩, ⟨by (with_reducible repeat (first | apply Kd.R_alloc | apply Kd.R_drewN | apply Kd.R_drew)); exact Kd.R_mono HO143.out (fun _ hk => hk.2)⟩, ⟨by (with_reducible repeat (first | apply Kd.R_alloc | apply Kd.R_drewN | apply Kd.R_drew)); exact Kd.R_mono HO149.out (fun _ hk => hk.2)⟩, ⟨bk_ BK145.out⟩, ⟨bk_ BK151.out⟩, ⟨bl2_ HB.out GE145.out GE151.out⟩⟩
   ·replace c16 := Bool.eq_false_iff.mpr c16
    subst c16
    have H1 : (laws_FnExactParseTri.j0 k a0 t144 true t140 t141 t146 t147) = some r := by rw [if_neg (show ¬ (false = true) by decide)] at H; exact H
    clear H
    have H := H1
    clear H1
    have H' := Aside0.mk H
    clear H
    have hnb21 := NB151_145.out
    have hnc21 := NB145_151.out
    have hcz22_0 : w11.cell? ⟨gb151, 0, none⟩ = some (.int .i64 0) := (blk_cell BK151.out 0).trans rfl
    have hcz22_1 : w11.cell? ⟨gb151, 1, none⟩ = some (.slice none 0 0) := (blk_cell BK151.out 1).trans rfl
    have hfz22_0 := blk_frozen BK151.out 0
    have hfz22_1 := blk_frozen BK151.out 1
    have hcz23_0 : w11.cell? ⟨gb145, 0, none⟩ = some (.int .i64 t140) := (blk_cell BK145.out 0).trans rfl
    have hcz23_1 : w11.cell? ⟨gb145, 1, none⟩ = some (.slice Ao9 t141.length co9) := (blk_cell BK145.out 1).trans rfl
    have hfz23_0 := blk_frozen BK145.out 0
    have hfz23_1 := blk_frozen BK145.out 1
    go_wp2_with (first | ((with_reducible refine gate_callee (f := 28) rfl ?_); refine goesL_ (some 26) rfl rfl Tryd.func28 (by kernel_rfl) rfl #[.agg #[.int .i64 t146, .slice Ao14 t147.length co14], .agg #[.int .i64 t140, .slice Ao9 t141.length co9]] rfl ob_ ?_; (with_reducible refine (laws_eqTri.calls k t146 _ _ t147 t140 _ _ t141 false _ ?side1 ?side2 ?side3 ?side4 A15.out).mono ?_); (case side1 => refine (Kd.R_reads' (e := 3) (base := w.heap.size) (ok := fun k_ => (True ∧ some k_ ≠ (.slice Ao9 t141.length co9 : Value).ownBlock)) (n := t147.length) (c := co14) ?_).2.2; exact (by (with_reducible repeat (first | apply Kd.R_alloc | apply Kd.R_drewN | apply Kd.R_drew)); exact (Kd.R_mono (Kd.R_far (p := ⟨gb151, 1, none⟩) (Kd.R_far (p := ⟨gb151, 0, none⟩) (Kd.R_types HO149.out BK151.out (by decide)) (fun _ hk => hk.2) (.int .i64 t146)) (fun _ hk => hk.2) (.slice Ao14 t147.length co14)) (fun _ h_ => h_.1)))); (case side2 => exact (Kd.R_reads' HO149.out).2.1); (case side3 => refine (Kd.R_reads' (e := 3) (base := w.heap.size) (ok := fun k_ => (True ∧ some k_ ≠ (.slice Ao14 t147.length co14 : Value).ownBlock)) (n := t141.length) (c := co9) ?_).2.2; exact (by (with_reducible repeat (first | apply Kd.R_alloc | apply Kd.R_drewN | apply Kd.R_drew)); exact (Kd.R_mono (Kd.R_far (p := ⟨gb151, 1, none⟩) (Kd.R_far (p := ⟨gb151, 0, none⟩) (Kd.R_types HO143.out BK151.out (by decide)) (fun _ hk => hk.2) (.int .i64 t146)) (fun _ hk => hk.2) (.slice Ao14 t147.length co14)) (fun _ h_ => h_.1)))); (case side4 => exact (Kd.R_reads' HO143.out).2.1); rintro e w24 ⟨rfl, hb⟩; refine ⟨_, rfl, ?_⟩; have n0_ := Aside0.mk (Kd.R_below (by (with_reducible repeat (first | apply Kd.R_alloc | apply Kd.R_drewN | apply Kd.R_drew)); exact (Kd.R_mono (Kd.R_far (p := ⟨gb151, 1, none⟩) (Kd.R_far (p := ⟨gb151, 0, none⟩) (Kd.R_types HO143.out BK151.out (by decide)) (fun _ hk => hk.2) (.int .i64 t146)) (fun _ hk => hk.2) (.slice Ao14 t147.length co14)) (fun _ h_ => h_.1))) hb); have n1_ := Aside0.mk (Kd.R_below (by (with_reducible repeat (first | apply Kd.R_alloc | apply Kd.R_drewN | apply Kd.R_drew)); exact (Kd.R_mono (Kd.R_far (p := ⟨gb151, 1, none⟩) (Kd.R_far (p := ⟨gb151, 0, none⟩) (Kd.R_types HO149.out BK151.out (by decide)) (fun _ hk => hk.2) (.int .i64 t146)) (fun _ hk => hk.2) (.slice Ao14 t147.length co14)) (fun _ h_ => h_.1))) hb); have n2_ := Aside0.mk (blk_below (g := gb145) (o := .cells #[.int .i64 t140, .slice Ao9 t141.length co9] 28 (0, 0)) (bf2_ NB145_151.out NB145_151.out BK145.out) hb); have n3_ := Aside0.mk (blk_below (g := gb151) (o := .cells #[.int .i64 t146, .slice Ao14 t147.length co14] 28 (0, 0)) (by (with_reducible repeat (first | refine blk_drewN ?_ _ | refine blk_drew ?_ | refine blk_alloc ?_ _)); refine blk_put (cs := #[.int .i64 t146, .slice none 0 0]) ?_ 1 _ rfl; (with_reducible repeat (first | refine blk_drewN ?_ _ | refine blk_drew ?_ | refine blk_alloc ?_ _)); refine blk_put (cs := #[.int .i64 0, .slice none 0 0]) ?_ 0 _ rfl; (with_reducible repeat (first | refine blk_drewN ?_ _ | refine blk_drew ?_ | refine blk_alloc ?_ _)); exact BK151.out) hb); have n4_ := Aside0.mk (below_step (bl2_ HB.out GE145.out GE151.out) hb); clear HO143; clear HO149; clear BK145; clear BK151; clear HB; have HO143 := n0_; have HO149 := n1_; have BK145 := n2_; have BK151 := n3_; have HB := n4_; clear n0_ n1_ n2_ n3_ n4_; (try clear hb); (try clear hb2); (try clear hk); (try clear hi)))
    go_meet
    case rel => exact ⟨_, (true), rs_, H', ⟨by first | omega | exact Nat.le_refl _⟩, ⟨by (with_reducible repeat (first | apply Kd.R_alloc | apply Kd.R_drewN | apply Kd.R_drew)); exact Kd.R_mono HO143.out (fun _ hk => hk.2)⟩, ⟨by (with_reducible repeat (first | apply Kd.R_alloc | apply Kd.R_drewN | apply Kd.R_drew)); exact Kd.R_mono HO149.out (fun _ hk => hk.2)⟩, ⟨bk_ BK145.out⟩, ⟨bk_ BK151.out⟩, ⟨bl2_ HB.out GE145.out GE151.out⟩⟩
  case rest =>
   clear HC5
   try clear c1
   try clear c2
   try clear c2b0
   try clear c2b1
   try clear p2
   try clear c7
   try clear c12
   try clear c16
   try clear c17
   try clear c21
   try clear hcz13_0
   try clear hcz13_1
   try clear hcz18_0
   try clear hcz18_1
   try clear hcz19_0
   try clear hcz19_1
   try clear hcz22_0
   try clear hcz22_1
   try clear hcz23_0
   try clear hcz23_1
   try clear hcz8_0
   try clear hcz8_1
   try clear hfz13_0
   try clear hfz13_1
   try clear hfz18_0
   try clear hfz18_1
   try clear hfz19_0
   try clear hfz19_1
   try clear hfz22_0
   try clear hfz22_1
   try clear hfz23_0
   try clear hfz23_1
   try clear hfz8_0
   try clear hfz8_1
   obtain ⟨kq, x32_4, rfl, HA, HJ4, HO_146001, HO_152001, BK145, BK151, HB⟩ := hcut
   cases kq with
   | zero => exact absurd HA.out (by simp [laws_FnExactParseTri.j0])
   | succ kj4 =>
    have H := HA.out
    clear HA
    simp only [laws_FnExactParseTri.j0] at H
    by_cases c25 : x32_4 = true
    ·subst c25
     have H1 : (some false) = some r := by rw [if_pos rfl] at H; exact H
     clear H
     have H := H1
     clear H1
     obtain rfl := Option.some.inj H
     go_wp2
     go_ret
     exact ⟨er_, bl2_ HB.out GE145.out GE151.out⟩
    ·replace c25 := Bool.eq_false_iff.mpr c25
     subst c25
     have H1 : ((laws_markTri.f kj4 t146 t147 101).bind fun bt153 => ((laws_heldTri.f kj4 t146 bt153.2 101).bind fun t155 => (if t155 < 0 then (some false) else (if t155 = bt153.1 then ((impl_ParseTri.f kj4 a0).bind fun bt156 => ((laws_eqTri.f kj4 bt156.1 bt156.2.1 t140 t141).bind fun t162 => (if t162 = true then (laws_FnExactParseTri.j1 kj4 bt153.1 (bt156.2.2 != t144) t146 bt153.2) else (laws_FnExactParseTri.j1 kj4 bt153.1 true t146 bt153.2)))) else (some false))))) = some r := by rw [if_neg (show ¬ (false = true) by decide)] at H; exact H
     clear H
     have H := H1
     clear H1
     replace H := Option.bind_eq_some_iff.mp H
     obtain ⟨⟨t153, t154⟩, A260, H⟩ := H
     replace H : ((laws_heldTri.f kj4 t146 t154 101).bind fun t155 => (if t155 < 0 then (some false) else (if t155 = t153 then ((impl_ParseTri.f kj4 a0).bind fun bt156 => ((laws_eqTri.f kj4 bt156.1 bt156.2.1 t140 t141).bind fun t162 => (if t162 = true then (laws_FnExactParseTri.j1 kj4 t153 (bt156.2.2 != t144) t146 t154) else (laws_FnExactParseTri.j1 kj4 t153 true t146 t154)))) else (some false)))) = some r := H
     have A26 := Aside0.mk A260
     clear A260
     replace H := Option.bind_eq_some_iff.mp H
     obtain ⟨t155, A270, H⟩ := H
     replace H : (if t155 < 0 then (some false) else (if t155 = t153 then ((impl_ParseTri.f kj4 a0).bind fun bt156 => ((laws_eqTri.f kj4 bt156.1 bt156.2.1 t140 t141).bind fun t162 => (if t162 = true then (laws_FnExactParseTri.j1 kj4 t153 (bt156.2.2 != t144) t146 t154) else (laws_FnExactParseTri.j1 kj4 t153 true t146 t154)))) else (some false))) = some r := H
     have A27 := Aside0.mk A270
     clear A270
     by_cases c28 : t155 < 0
     ·rw [if_pos c28] at H
      have c28b0 : decide (t155 < 0) = true := decide_eq_true c28
      clear c28
      obtain rfl := Option.some.inj H
      have hnb29 := NB151_145.out
      have hnc29 := NB145_151.out
      have hcz30_0 : wc.cell? ⟨gb151, 0, none⟩ = some (.int .i64 t146) := (blk_cell BK151.out 0).trans rfl
      have hcz30_1 : wc.cell? ⟨gb151, 1, none⟩ = some (.slice Ao14 t147.length co14) := (blk_cell BK151.out 1).trans rfl
      have hfz30_0 := blk_frozen BK151.out 0
      have hfz30_1 := blk_frozen BK151.out 1
      go_wp2_with (first | ((with_reducible refine gate_callee (f := 29) rfl ?_); refine goesL_ (some 35) rfl rfl Tryd.func29 (by kernel_rfl) rfl #[.agg #[.int .i64 t146, .slice Ao14 t147.length co14], .int .i64 101] rfl ob_ ?_; (with_reducible refine (laws_markTri.calls kj4 t146 (fun k_ => some k_ = (.slice Ao14 t147.length co14 : Value).ownBlock) (.slice Ao14 t147.length co14) t147 101 t153 t154 w _ ?side1 ?side2 A26.out).mono ?_); (case side1 => repeat (first | (with_reducible first | exact HB.out | apply below_alloc | apply pw_below_drewN | apply below_drew1 | refine below_set ?_ GE145.out | refine below_set ?_ GE151.out) | exact HB.out)); (case side2 => exact Kd.R_tight rfl HO_152001.out); rintro e w31 ⟨rfl, hy0, hb, hkp⟩; refine ⟨_, rfl, ?_⟩; have n0_ := Aside0.mk (Kd.R_mono (ok' := fun k_ => some k_ ≠ (.slice Ao14 t147.length co14 : Value).ownBlock) (Kd.R_keptB (HO_146001.out) hkp (fun k_ hk_ hs_ => (hk_) hs_)) (fun k_ hk_ => hk_.1)); have n1_ := Aside0.mk (Kd.R_reok rfl hy0 (fun k_ e_ => HO_152001.out.1 k_ e_)); have n2_ := Aside0.mk (blk_kept (bk_ BK145.out) hkp (fun hs_ => (fun e_ => (Kd.R_ne HO_152001.out BK145.out (by decide)) e_) hs_)); have n3_ := Aside0.mk (blk_kept (bk_ BK151.out) hkp (fun hs_ => (fun e_ => (Kd.R_ne HO_152001.out BK151.out (by decide)) e_) hs_)); have n4_ := Aside0.mk (hb); clear HO_146001; clear HO_152001; clear BK145; clear BK151; clear HB; have HO_146001 := n0_; have HO_152001 := n1_; have BK145 := n2_; have BK151 := n3_; have HB := n4_; clear n0_ n1_ n2_ n3_ n4_; (try clear hb); (try clear hkp); (try clear hy0); have hcz32_0 : w31.cell? ⟨gb151, 0, none⟩ = some (.int .i64 t146) := (blk_cell BK151.out 0).trans rfl; have hcz32_1 : w31.cell? ⟨gb151, 1, none⟩ = some (.slice Ao14 t147.length co14) := (blk_cell BK151.out 1).trans rfl; have hfz32_0 := blk_frozen BK151.out 0; have hfz32_1 := blk_frozen BK151.out 1) | ((with_reducible refine gate_callee (f := 30) rfl ?_); refine goesL_ (some 38) rfl rfl Tryd.func30 (by kernel_rfl) rfl #[.agg #[.int .i64 t146, .slice Ao14 t154.length co14], .int .i64 101] rfl (by (try simp only [List.map_toArray, List.map_cons, List.map_nil]); first | done | (rw [show t154.length = t147.length from (Kd.R_reads' HO_152001.out).1.symm] <;> rfl) | rfl | (simp only [List.length_drop, List.length_take]; rfl)) ?_; (with_reducible refine (laws_heldTri.calls kj4 t146 _ _ t154 101 t155 _ ?side1 ?side2 A27.out).mono ?_); (case side1 => repeat (first | exact (Kd.R_reads' HO_152001.out).2.2 | (with_reducible refine Kd.C_alloc ?_ _) | (with_reducible refine Kd.C_drewN ?_ _) | (with_reducible refine Kd.C_drew ?_))); (case side2 => rw [show t154.length = t147.length from (Kd.R_reads' HO_152001.out).1.symm]; exact (Kd.R_reads' HO_152001.out).2.1); rintro e w33 ⟨rfl, hb⟩; refine ⟨_, rfl, ?_⟩; have n0_ := Aside0.mk (Kd.R_below (kr_ HO_146001.out) hb); have n1_ := Aside0.mk (Kd.R_below (kr_ HO_152001.out) hb); have n2_ := Aside0.mk (bb_ BK145.out hb); have n3_ := Aside0.mk (bb_ BK151.out hb); have n4_ := Aside0.mk (below_step (bl2_ HB.out GE145.out GE151.out) hb); clear HO_146001; clear HO_152001; clear BK145; clear BK151; clear HB; have HO_146001 := n0_; have HO_152001 := n1_; have BK145 := n2_; have BK151 := n3_; have HB := n4_; clear n0_ n1_ n2_ n3_ n4_; (try clear hb); (try clear hb2); (try clear hk); (try clear hi)))
      go_ret
      exact ⟨er_, bl2_ HB.out GE145.out GE151.out⟩
     ·rw [if_neg c28] at H
      have c28b0 : decide (t155 < 0) = false := decide_eq_false c28
      clear c28
      by_cases c34 : t155 = t153
      ·rw [if_pos c34] at H
       have c34b0 : (t155 == t153) = true := beq_iff_eq.mpr c34
       have c34b1 : (t155 != t153) = false := bne_eq_false_iff_eq.mpr c34
       clear c34
       replace H := Option.bind_eq_some_iff.mp H
       obtain ⟨⟨t156, t157, t160⟩, A350, H⟩ := H
       replace H : ((laws_eqTri.f kj4 t156 t157 t140 t141).bind fun t162 => (if t162 = true then (laws_FnExactParseTri.j1 kj4 t153 (t160 != t144) t146 t154) else (laws_FnExactParseTri.j1 kj4 t153 true t146 t154))) = some r := H
       have A35 := Aside0.mk A350
       clear A350
       have HC36 := Aside0.mk H
       clear H
       have hnb37 := NB151_145.out
       have hnc37 := NB145_151.out
       have hcz38_0 : wc.cell? ⟨gb151, 0, none⟩ = some (.int .i64 t146) := (blk_cell BK151.out 0).trans rfl
       have hcz38_1 : wc.cell? ⟨gb151, 1, none⟩ = some (.slice Ao14 t147.length co14) := (blk_cell BK151.out 1).trans rfl
       have hfz38_0 := blk_frozen BK151.out 0
       have hfz38_1 := blk_frozen BK151.out 1
       go_upto_region 16 with (first | ((with_reducible refine gate_callee (f := 29) rfl ?_); refine goesL_ (some 35) rfl rfl Tryd.func29 (by kernel_rfl) rfl #[.agg #[.int .i64 t146, .slice Ao14 t147.length co14], .int .i64 101] rfl ob_ ?_; (with_reducible refine (laws_markTri.calls kj4 t146 (fun k_ => some k_ = (.slice Ao14 t147.length co14 : Value).ownBlock) (.slice Ao14 t147.length co14) t147 101 t153 t154 w _ ?side1 ?side2 A26.out).mono ?_); (case side1 => repeat (first | (with_reducible first | exact HB.out | apply below_alloc | apply pw_below_drewN | apply below_drew1 | refine below_set ?_ GE145.out | refine below_set ?_ GE151.out) | exact HB.out)); (case side2 => exact Kd.R_tight rfl HO_152001.out); rintro e w39 ⟨rfl, hy0, hb, hkp⟩; refine ⟨_, rfl, ?_⟩; have n0_ := Aside0.mk (Kd.R_mono (ok' := fun k_ => some k_ ≠ (.slice Ao14 t147.length co14 : Value).ownBlock) (Kd.R_keptB (HO_146001.out) hkp (fun k_ hk_ hs_ => (hk_) hs_)) (fun k_ hk_ => hk_.1)); have n1_ := Aside0.mk (Kd.R_reok rfl hy0 (fun k_ e_ => HO_152001.out.1 k_ e_)); have n2_ := Aside0.mk (blk_kept (bk_ BK145.out) hkp (fun hs_ => (fun e_ => (Kd.R_ne HO_152001.out BK145.out (by decide)) e_) hs_)); have n3_ := Aside0.mk (blk_kept (bk_ BK151.out) hkp (fun hs_ => (fun e_ => (Kd.R_ne HO_152001.out BK151.out (by decide)) e_) hs_)); have n4_ := Aside0.mk (hb); clear HO_146001; clear HO_152001; clear BK145; clear BK151; clear HB; have HO_146001 := n0_; have HO_152001 := n1_; have BK145 := n2_; have BK151 := n3_; have HB := n4_; clear n0_ n1_ n2_ n3_ n4_; (try clear hb); (try clear hkp); (try clear hy0); have hcz40_0 : w39.cell? ⟨gb151, 0, none⟩ = some (.int .i64 t146) := (blk_cell BK151.out 0).trans rfl; have hcz40_1 : w39.cell? ⟨gb151, 1, none⟩ = some (.slice Ao14 t147.length co14) := (blk_cell BK151.out 1).trans rfl; have hfz40_0 := blk_frozen BK151.out 0; have hfz40_1 := blk_frozen BK151.out 1) | ((with_reducible refine gate_callee (f := 30) rfl ?_); refine goesL_ (some 38) rfl rfl Tryd.func30 (by kernel_rfl) rfl #[.agg #[.int .i64 t146, .slice Ao14 t154.length co14], .int .i64 101] rfl (by (try simp only [List.map_toArray, List.map_cons, List.map_nil]); first | done | (rw [show t154.length = t147.length from (Kd.R_reads' HO_152001.out).1.symm] <;> rfl) | rfl | (simp only [List.length_drop, List.length_take]; rfl)) ?_; (with_reducible refine (laws_heldTri.calls kj4 t146 _ _ t154 101 t155 _ ?side1 ?side2 A27.out).mono ?_); (case side1 => repeat (first | exact (Kd.R_reads' HO_152001.out).2.2 | (with_reducible refine Kd.C_alloc ?_ _) | (with_reducible refine Kd.C_drewN ?_ _) | (with_reducible refine Kd.C_drew ?_))); (case side2 => rw [show t154.length = t147.length from (Kd.R_reads' HO_152001.out).1.symm]; exact (Kd.R_reads' HO_152001.out).2.1); rintro e w41 ⟨rfl, hb⟩; refine ⟨_, rfl, ?_⟩; have n0_ := Aside0.mk (Kd.R_below (kr_ HO_146001.out) hb); have n1_ := Aside0.mk (Kd.R_below (kr_ HO_152001.out) hb); have n2_ := Aside0.mk (bb_ BK145.out hb); have n3_ := Aside0.mk (bb_ BK151.out hb); have n4_ := Aside0.mk (below_step (bl2_ HB.out GE145.out GE151.out) hb); clear HO_146001; clear HO_152001; clear BK145; clear BK151; clear HB; have HO_146001 := n0_; have HO_152001 := n1_; have BK145 := n2_; have BK151 := n3_; have HB := n4_; clear n0_ n1_ n2_ n3_ n4_; (try clear hb); (try clear hb2); (try clear hk); (try clear hi)) | ((with_reducible refine gate_callee (f := 27) rfl ?_); refine goesL_ (some 46) rfl rfl Tryd.func27 (by kernel_rfl) rfl #[.string a0] rfl ob_ ?_; (with_reducible refine (impl_ParseTri.calls kj4 a0 t156 t157 t160 _ (TB.below HTB.out (bl2_ HB.out GE145.out GE151.out)) A35.out).mono ?_); rintro e w42 ⟨v158, rfl, ho0, hb⟩; refine ⟨_, rfl, ?_⟩; have n0_ := Aside0.mk (Kd.R_elder' (kr_ HO_146001.out) (Kd.R_base ho0) hb); have n1_ := Aside0.mk (Kd.R_elder' (kr_ HO_152001.out) (Kd.R_base ho0) hb); have n2_ := Aside0.mk (Kd.R_lower (Kd.R_new' (Kd.R_new' ho0 (Kd.R_lt (kr_ HO_146001.out))) (Kd.R_lt (kr_ HO_152001.out))) (below_size (bl2_ HB.out GE145.out GE151.out))); have n3_ := Aside0.mk (bb_ BK145.out hb); have n4_ := Aside0.mk (bb_ BK151.out hb); have n5_ := Aside0.mk (below_step (bl2_ HB.out GE145.out GE151.out) hb); clear HO_146001; clear HO_152001; clear BK145; clear BK151; clear HB; have HO_146001 := n0_; have HO_152001 := n1_; have HO159 := n2_; have BK145 := n3_; have BK151 := n4_; have HB := n5_; clear n0_ n1_ n2_ n3_ n4_ n5_; (try clear hb); (try clear hb2); (try clear hk); (try clear hi); (try clear ho0)) | ((with_reducible refine gate_dst (N := 9) rfl ?_); refine boxE_ (N := 9) (cs := #[.int .i64 0, .slice none 0 0]) (t := 28) ?_; intro gb161 hg w43 hbox hb; have n0_ := Aside0.mk (Kd.R_below (kr_ HO_146001.out) hb); have n1_ := Aside0.mk (Kd.R_below (kr_ HO_152001.out) hb); have n2_ := Aside0.mk (Kd.R_below (kr_ HO159.out) hb); have n3_ := Aside0.mk (bb_ BK145.out hb); have n4_ := Aside0.mk (bb_ BK151.out hb); have n5_ := Aside0.mk (below_step (bl2_ HB.out GE145.out GE151.out) hb); have n6_ := Aside0.mk (hbox); have n7_ := Aside0.mk ((bs2_ hg HB.out GE145.out GE151.out : w.heap.size ≤ gb161)); have n8_ := Aside0.mk ((bs2_ hg HB.out GE145.out GE151.out : w.heap.size ≤ gb161)); have n9_ := Aside0.mk ((nl_ hg BK145.out : gb145 ≠ gb161)); have n10_ := Aside0.mk ((ng_ hg BK145.out : gb161 ≠ gb145)); have n11_ := Aside0.mk ((nl_ hg BK151.out : gb151 ≠ gb161)); have n12_ := Aside0.mk ((ng_ hg BK151.out : gb161 ≠ gb151)); clear HO_146001; clear HO_152001; clear HO159; clear BK145; clear BK151; clear HB; have HO_146001 := n0_; have HO_152001 := n1_; have HO159 := n2_; have BK145 := n3_; have BK151 := n4_; have HB := n5_; have BK161 := n6_; have GW161 := n7_; have GE161 := n8_; have NB145_161 := n9_; have NB161_145 := n10_; have NB151_161 := n11_; have NB161_151 := n12_; clear n0_ n1_ n2_ n3_ n4_ n5_ n6_ n7_ n8_ n9_ n10_ n11_ n12_; clear hb hbox hg; have hnb44 := NB161_145.out; have hnc44 := NB145_161.out; have hnb45 := NB161_151.out; have hnc45 := NB151_161.out; have hcz46_0 : w43.cell? ⟨gb161, 0, none⟩ = some (.int .i64 0) := (blk_cell BK161.out 0).trans rfl; have hcz46_1 : w43.cell? ⟨gb161, 1, none⟩ = some (.slice none 0 0) := (blk_cell BK161.out 1).trans rfl; have hfz46_0 := blk_frozen BK161.out 0; have hfz46_1 := blk_frozen BK161.out 1; obtain ⟨Ao47, co47, eo47⟩ := Kd.R_slice HO159.out; subst eo47))
       (try simp only [Act.put, List.setIfInBounds_toArray, List.set_cons_zero, List.set_cons_succ])
       go_cut [57] (fun v57 wc => ∃ (kq : Nat) (x57_35 : Bool), v57 = .bool x57_35 ∧ Aside0 (laws_FnExactParseTri.j1 kq t153 x57_35 t146 t154 = some r) ∧ Aside0 (kq ≤ kj4) ∧ Aside0 (Kd.R (Kd.int .i64) 3 wc w.heap.size (fun k_ => some k_ ≠ ((.slice Ao14 t147.length co14) : Value).ownBlock ∧ some k_ ≠ ((.slice Ao47 t157.length co47) : Value).ownBlock) (.slice Ao9 t141.length co9) t141) ∧ Aside0 (Kd.R (Kd.int .i64) 3 wc w.heap.size (fun k_ => some k_ ≠ ((.slice Ao9 t141.length co9) : Value).ownBlock ∧ some k_ ≠ ((.slice Ao47 t157.length co47) : Value).ownBlock) (.slice Ao14 t147.length co14) t154) ∧ Aside0 (Kd.R (Kd.int .i64) 3 wc w.heap.size (fun k_ => some k_ ≠ ((.slice Ao9 t141.length co9) : Value).ownBlock ∧ some k_ ≠ ((.slice Ao14 t147.length co14) : Value).ownBlock) (.slice Ao47 t157.length co47) t157) ∧ Aside0 (wc.heap[gb145]? = some (.cells #[.int .i64 t140, (.slice Ao9 t141.length co9)] 28 (0, 0))) ∧ Aside0 (wc.heap[gb151]? = some (.cells #[.int .i64 t146, (.slice Ao14 t147.length co14)] 28 (0, 0))) ∧ Aside0 (wc.heap[gb161]? = some (.cells #[.int .i64 t156, (.slice Ao47 t157.length co47)] 28 (0, 0))) ∧ Aside0 (Below w.heap.size w wc))
       case first =>
        have H := HC36.out
        clear HC36
        replace H := Option.bind_eq_some_iff.mp H
        obtain ⟨t162, A480, H⟩ := H
        replace H : (if t162 = true then (laws_FnExactParseTri.j1 kj4 t153 (t160 != t144) t146 t154) else (laws_FnExactParseTri.j1 kj4 t153 true t146 t154)) = some r := H
        have A48 := Aside0.mk A480
        clear A480
        by_cases c49 : t162 = true
        ·subst c49
         have H1 : (laws_FnExactParseTri.j1 kj4 t153 (t160 != t144) t146 t154) = some r := by rw [if_pos rfl] at H; exact H
         clear H
         have H := H1
         clear H1
         have H' := Aside0.mk H
         clear H
         have hnb50 := NB161_145.out
         have hnc50 := NB145_161.out
         have hnb51 := NB161_151.out
         have hnc51 := NB151_161.out
         have hcz52_0 : w43.cell? ⟨gb161, 0, none⟩ = some (.int .i64 0) := (blk_cell BK161.out 0).trans rfl
         have hcz52_1 : w43.cell? ⟨gb161, 1, none⟩ = some (.slice none 0 0) := (blk_cell BK161.out 1).trans rfl
         have hfz52_0 := blk_frozen BK161.out 0
         have hfz52_1 := blk_frozen BK161.out 1
         have hnb53 := NB145_151.out
         have hnc53 := NB151_145.out
         have hcz54_0 : w43.cell? ⟨gb145, 0, none⟩ = some (.int .i64 t140) := (blk_cell BK145.out 0).trans rfl
         have hcz54_1 : w43.cell? ⟨gb145, 1, none⟩ = some (.slice Ao9 t141.length co9) := (blk_cell BK145.out 1).trans rfl
         have hfz54_0 := blk_frozen BK145.out 0
         have hfz54_1 := blk_frozen BK145.out 1
         go_wp2_with (first | ((with_reducible refine gate_callee (f := 28) rfl ?_); refine goesL_ (some 51) rfl rfl Tryd.func28 (by kernel_rfl) rfl #[.agg #[.int .i64 t156, .slice Ao47 t157.length co47], .agg #[.int .i64 t140, .slice Ao9 t141.length co9]] rfl ob_ ?_; (with_reducible refine (laws_eqTri.calls kj4 t156 _ _ t157 t140 _ _ t141 true _ ?side1 ?side2 ?side3 ?side4 A48.out).mono ?_); (case side1 => refine (Kd.R_reads' (e := 3) (base := w.heap.size) (ok := fun k_ => ((True ∧ some k_ ≠ (.slice Ao9 t141.length co9 : Value).ownBlock) ∧ some k_ ≠ (.slice Ao14 t147.length co14 : Value).ownBlock)) (n := t157.length) (c := co47) ?_).2.2; exact (by (with_reducible repeat (first | apply Kd.R_alloc | apply Kd.R_drewN | apply Kd.R_drew)); exact (Kd.R_mono (Kd.R_far (p := ⟨gb161, 1, none⟩) (Kd.R_far (p := ⟨gb161, 0, none⟩) (Kd.R_types HO159.out BK161.out (by decide)) (fun _ hk => hk.2) (.int .i64 t156)) (fun _ hk => hk.2) (.slice Ao47 t157.length co47)) (fun _ h_ => h_.1)))); (case side2 => exact (Kd.R_reads' HO159.out).2.1); (case side3 => refine (Kd.R_reads' (e := 3) (base := w.heap.size) (ok := fun k_ => (some k_ ≠ (.slice Ao14 t147.length co14 : Value).ownBlock ∧ some k_ ≠ (.slice Ao47 t157.length co47 : Value).ownBlock)) (n := t141.length) (c := co9) ?_).2.2; exact (by (with_reducible repeat (first | apply Kd.R_alloc | apply Kd.R_drewN | apply Kd.R_drew)); exact (Kd.R_mono (Kd.R_far (p := ⟨gb161, 1, none⟩) (Kd.R_far (p := ⟨gb161, 0, none⟩) (Kd.R_types HO_146001.out BK161.out (by decide)) (fun _ hk => hk.2) (.int .i64 t156)) (fun _ hk => hk.2) (.slice Ao47 t157.length co47)) (fun _ h_ => h_.1)))); (case side4 => exact (Kd.R_reads' HO_146001.out).2.1); rintro e w55 ⟨rfl, hb⟩; refine ⟨_, rfl, ?_⟩; have n0_ := Aside0.mk (Kd.R_below (by (with_reducible repeat (first | apply Kd.R_alloc | apply Kd.R_drewN | apply Kd.R_drew)); exact (Kd.R_mono (Kd.R_far (p := ⟨gb161, 1, none⟩) (Kd.R_far (p := ⟨gb161, 0, none⟩) (Kd.R_types HO_146001.out BK161.out (by decide)) (fun _ hk => hk.2) (.int .i64 t156)) (fun _ hk => hk.2) (.slice Ao47 t157.length co47)) (fun _ h_ => h_.1))) hb); have n1_ := Aside0.mk (Kd.R_below (by (with_reducible repeat (first | apply Kd.R_alloc | apply Kd.R_drewN | apply Kd.R_drew)); exact (Kd.R_mono (Kd.R_far (p := ⟨gb161, 1, none⟩) (Kd.R_far (p := ⟨gb161, 0, none⟩) (Kd.R_types HO_152001.out BK161.out (by decide)) (fun _ hk => hk.2) (.int .i64 t156)) (fun _ hk => hk.2) (.slice Ao47 t157.length co47)) (fun _ h_ => h_.1))) hb); have n2_ := Aside0.mk (Kd.R_below (by (with_reducible repeat (first | apply Kd.R_alloc | apply Kd.R_drewN | apply Kd.R_drew)); exact (Kd.R_mono (Kd.R_far (p := ⟨gb161, 1, none⟩) (Kd.R_far (p := ⟨gb161, 0, none⟩) (Kd.R_types HO159.out BK161.out (by decide)) (fun _ hk => hk.2) (.int .i64 t156)) (fun _ hk => hk.2) (.slice Ao47 t157.length co47)) (fun _ h_ => h_.1))) hb); have n3_ := Aside0.mk (blk_below (g := gb145) (o := .cells #[.int .i64 t140, .slice Ao9 t141.length co9] 28 (0, 0)) (bf2_ NB145_161.out NB145_161.out BK145.out) hb); have n4_ := Aside0.mk (blk_below (g := gb151) (o := .cells #[.int .i64 t146, .slice Ao14 t147.length co14] 28 (0, 0)) (bf2_ NB151_161.out NB151_161.out BK151.out) hb); have n5_ := Aside0.mk (blk_below (g := gb161) (o := .cells #[.int .i64 t156, .slice Ao47 t157.length co47] 28 (0, 0)) (by (with_reducible repeat (first | refine blk_drewN ?_ _ | refine blk_drew ?_ | refine blk_alloc ?_ _)); refine blk_put (cs := #[.int .i64 t156, .slice none 0 0]) ?_ 1 _ rfl; (with_reducible repeat (first | refine blk_drewN ?_ _ | refine blk_drew ?_ | refine blk_alloc ?_ _)); refine blk_put (cs := #[.int .i64 0, .slice none 0 0]) ?_ 0 _ rfl; (with_reducible repeat (first | refine blk_drewN ?_ _ | refine blk_drew ?_ | refine blk_alloc ?_ _)); exact BK161.out) hb); have n6_ := Aside0.mk (below_step (bl3_ HB.out GE145.out GE151.out GE161.out) hb); clear HO_146001; clear HO_152001; clear HO159; clear BK145; clear BK151; clear BK161; clear HB; have HO_146001 := n0_; have HO_152001 := n1_; have HO159 := n2_; have BK145 := n3_; have BK151 := n4_; have BK161 := n5_; have HB := n6_; clear n0_ n1_ n2_ n3_ n4_ n5_ n6_; (try clear hb); (try clear hb2); (try clear hk); (try clear hi)))
         go_meet
         case rel => exact ⟨_, ((t160 != t144)), rs_, H', ⟨by have := HJ4.out; first | omega | exact Nat.le_refl _⟩, ⟨kr_ HO_146001.out⟩, ⟨kr_ HO_152001.out⟩, ⟨by (with_reducible repeat (first | apply Kd.R_alloc | apply Kd.R_drewN | apply Kd.R_drew)); exact Kd.R_mono HO159.out (fun _ hk => ⟨hk.1.2, hk.2⟩)⟩, ⟨bk_ BK145.out⟩, ⟨bk_ BK151.out⟩, ⟨bk_ BK161.out⟩, ⟨bl3_ HB.out GE145.out GE151.out GE161.out⟩⟩
        ·replace c49 := Bool.eq_false_iff.mpr c49
         subst c49
         have H1 : (laws_FnExactParseTri.j1 kj4 t153 true t146 t154) = some r := by rw [if_neg (show ¬ (false = true) by decide)] at H; exact H
         clear H
         have H := H1
         clear H1
         have H' := Aside0.mk H
         clear H
         have hnb56 := NB161_145.out
         have hnc56 := NB145_161.out
         have hnb57 := NB161_151.out
         have hnc57 := NB151_161.out
         have hcz58_0 : w43.cell? ⟨gb161, 0, none⟩ = some (.int .i64 0) := (blk_cell BK161.out 0).trans rfl
         have hcz58_1 : w43.cell? ⟨gb161, 1, none⟩ = some (.slice none 0 0) := (blk_cell BK161.out 1).trans rfl
         have hfz58_0 := blk_frozen BK161.out 0
         have hfz58_1 := blk_frozen BK161.out 1
         have hnb59 := NB145_151.out
         have hnc59 := NB151_145.out
         have hcz60_0 : w43.cell? ⟨gb145, 0, none⟩ = some (.int .i64 t140) := (blk_cell BK145.out 0).trans rfl
         have hcz60_1 : w43.cell? ⟨gb145, 1, none⟩ = some (.slice Ao9 t141.length co9) := (blk_cell BK145.out 1).trans rfl
         have hfz60_0 := blk_frozen BK145.out 0
         have hfz60_1 := blk_frozen BK145.out 1
         go_wp2_with (first | ((with_reducible refine gate_callee (f := 28) rfl ?_); refine goesL_ (some 51) rfl rfl Tryd.func28 (by kernel_rfl) rfl #[.agg #[.int .i64 t156, .slice Ao47 t157.length co47], .agg #[.int .i64 t140, .slice Ao9 t141.length co9]] rfl ob_ ?_; (with_reducible refine (laws_eqTri.calls kj4 t156 _ _ t157 t140 _ _ t141 false _ ?side1 ?side2 ?side3 ?side4 A48.out).mono ?_); (case side1 => refine (Kd.R_reads' (e := 3) (base := w.heap.size) (ok := fun k_ => ((True ∧ some k_ ≠ (.slice Ao9 t141.length co9 : Value).ownBlock) ∧ some k_ ≠ (.slice Ao14 t147.length co14 : Value).ownBlock)) (n := t157.length) (c := co47) ?_).2.2; exact (by (with_reducible repeat (first | apply Kd.R_alloc | apply Kd.R_drewN | apply Kd.R_drew)); exact (Kd.R_mono (Kd.R_far (p := ⟨gb161, 1, none⟩) (Kd.R_far (p := ⟨gb161, 0, none⟩) (Kd.R_types HO159.out BK161.out (by decide)) (fun _ hk => hk.2) (.int .i64 t156)) (fun _ hk => hk.2) (.slice Ao47 t157.length co47)) (fun _ h_ => h_.1)))); (case side2 => exact (Kd.R_reads' HO159.out).2.1); (case side3 => refine (Kd.R_reads' (e := 3) (base := w.heap.size) (ok := fun k_ => (some k_ ≠ (.slice Ao14 t147.length co14 : Value).ownBlock ∧ some k_ ≠ (.slice Ao47 t157.length co47 : Value).ownBlock)) (n := t141.length) (c := co9) ?_).2.2; exact (by (with_reducible repeat (first | apply Kd.R_alloc | apply Kd.R_drewN | apply Kd.R_drew)); exact (Kd.R_mono (Kd.R_far (p := ⟨gb161, 1, none⟩) (Kd.R_far (p := ⟨gb161, 0, none⟩) (Kd.R_types HO_146001.out BK161.out (by decide)) (fun _ hk => hk.2) (.int .i64 t156)) (fun _ hk => hk.2) (.slice Ao47 t157.length co47)) (fun _ h_ => h_.1)))); (case side4 => exact (Kd.R_reads' HO_146001.out).2.1); rintro e w61 ⟨rfl, hb⟩; refine ⟨_, rfl, ?_⟩; have n0_ := Aside0.mk (Kd.R_below (by (with_reducible repeat (first | apply Kd.R_alloc | apply Kd.R_drewN | apply Kd.R_drew)); exact (Kd.R_mono (Kd.R_far (p := ⟨gb161, 1, none⟩) (Kd.R_far (p := ⟨gb161, 0, none⟩) (Kd.R_types HO_146001.out BK161.out (by decide)) (fun _ hk => hk.2) (.int .i64 t156)) (fun _ hk => hk.2) (.slice Ao47 t157.length co47)) (fun _ h_ => h_.1))) hb); have n1_ := Aside0.mk (Kd.R_below (by (with_reducible repeat (first | apply Kd.R_alloc | apply Kd.R_drewN | apply Kd.R_drew)); exact (Kd.R_mono (Kd.R_far (p := ⟨gb161, 1, none⟩) (Kd.R_far (p := ⟨gb161, 0, none⟩) (Kd.R_types HO_152001.out BK161.out (by decide)) (fun _ hk => hk.2) (.int .i64 t156)) (fun _ hk => hk.2) (.slice Ao47 t157.length co47)) (fun _ h_ => h_.1))) hb); have n2_ := Aside0.mk (Kd.R_below (by (with_reducible repeat (first | apply Kd.R_alloc | apply Kd.R_drewN | apply Kd.R_drew)); exact (Kd.R_mono (Kd.R_far (p := ⟨gb161, 1, none⟩) (Kd.R_far (p := ⟨gb161, 0, none⟩) (Kd.R_types HO159.out BK161.out (by decide)) (fun _ hk => hk.2) (.int .i64 t156)) (fun _ hk => hk.2) (.slice Ao47 t157.length co47)) (fun _ h_ => h_.1))) hb); have n3_ := Aside0.mk (blk_below (g := gb145) (o := .cells #[.int .i64 t140, .slice Ao9 t141.length co9] 28 (0, 0)) (bf2_ NB145_161.out NB145_161.out BK145.out) hb); have n4_ := Aside0.mk (blk_below (g := gb151) (o := .cells #[.int .i64 t146, .slice Ao14 t147.length co14] 28 (0, 0)) (bf2_ NB151_161.out NB151_161.out BK151.out) hb); have n5_ := Aside0.mk (blk_below (g := gb161) (o := .cells #[.int .i64 t156, .slice Ao47 t157.length co47] 28 (0, 0)) (by (with_reducible repeat (first | refine blk_drewN ?_ _ | refine blk_drew ?_ | refine blk_alloc ?_ _)); refine blk_put (cs := #[.int .i64 t156, .slice none 0 0]) ?_ 1 _ rfl; (with_reducible repeat (first | refine blk_drewN ?_ _ | refine blk_drew ?_ | refine blk_alloc ?_ _)); refine blk_put (cs := #[.int .i64 0, .slice none 0 0]) ?_ 0 _ rfl; (with_reducible repeat (first | refine blk_drewN ?_ _ | refine blk_drew ?_ | refine blk_alloc ?_ _)); exact BK161.out) hb); have n6_ := Aside0.mk (below_step (bl3_ HB.out GE145.out GE151.out GE161.out) hb); clear HO_146001; clear HO_152001; clear HO159; clear BK145; clear BK151; clear BK161; clear HB; have HO_146001 := n0_; have HO_152001 := n1_; have HO159 := n2_; have BK145 := n3_; have BK151 := n4_; have BK161 := n5_; have HB := n6_; clear n0_ n1_ n2_ n3_ n4_ n5_ n6_; (try clear hb); (try clear hb2); (try clear hk); (try clear hi)))
         go_meet
         case rel => exact ⟨_, (true), rs_, H', ⟨by have := HJ4.out; first | omega | exact Nat.le_refl _⟩, ⟨kr_ HO_146001.out⟩, ⟨kr_ HO_152001.out⟩, ⟨by (with_reducible repeat (first | apply Kd.R_alloc | apply Kd.R_drewN | apply Kd.R_drew)); exact Kd.R_mono HO159.out (fun _ hk => ⟨hk.1.2, hk.2⟩)⟩, ⟨bk_ BK145.out⟩, ⟨bk_ BK151.out⟩, ⟨bk_ BK161.out⟩, ⟨bl3_ HB.out GE145.out GE151.out GE161.out⟩⟩
       case rest =>
        clear HC36
        try clear c1
        try clear c2
        try clear c2b0
        try clear c2b1
        try clear p2
        try clear c3
        try clear c4
        try clear c5
        try clear c7
        try clear c12
        try clear c16
        try clear c17
        try clear c21
        try clear c25
        try clear c26
        try clear c27
        try clear c28
        try clear c28b0
        try clear c29
        try clear c30
        try clear c34
        try clear c34b0
        try clear c34b1
        try clear c37
        try clear c44
        try clear c45
        try clear c49
        try clear c50
        try clear c51
        try clear c53
        try clear c56
        try clear c57
        try clear c59
        try clear hcz13_0
        try clear hcz13_1
        try clear hcz18_0
        try clear hcz18_1
        try clear hcz19_0
        try clear hcz19_1
        try clear hcz22_0
        try clear hcz22_1
        try clear hcz23_0
        try clear hcz23_1
        try clear hcz30_0
        try clear hcz30_1
        try clear hcz32_0
        try clear hcz32_1
        try clear hcz38_0
        try clear hcz38_1
        try clear hcz40_0
        try clear hcz40_1
        try clear hcz46_0
        try clear hcz46_1
        try clear hcz52_0
        try clear hcz52_1
        try clear hcz54_0
        try clear hcz54_1
        try clear hcz58_0
        try clear hcz58_1
        try clear hcz60_0
        try clear hcz60_1
        try clear hcz8_0
        try clear hcz8_1
        try clear hfz13_0
        try clear hfz13_1
        try clear hfz18_0
        try clear hfz18_1
        try clear hfz19_0
        try clear hfz19_1
        try clear hfz22_0
        try clear hfz22_1
        try clear hfz23_0
        try clear hfz23_1
        try clear hfz30_0
        try clear hfz30_1
        try clear hfz32_0
        try clear hfz32_1
        try clear hfz38_0
        try clear hfz38_1
        try clear hfz40_0
        try clear hfz40_1
        try clear hfz46_0
        try clear hfz46_1
        try clear hfz52_0
        try clear hfz52_1
        try clear hfz54_0
        try clear hfz54_1
        try clear hfz58_0
        try clear hfz58_1
        try clear hfz60_0
        try clear hfz60_1
        try clear hfz8_0
        try clear hfz8_1
        try clear p2
        obtain ⟨kq, x57_35, rfl, HA, HJ35, HO_146001, HO_152001, HO_162001, BK145, BK151, BK161, HB⟩ := hcut
        have hl152001_35 := (Kd.R_reads' HO_152001.out).1
        rw [hl152001_35] at HO_152001
        (try simp only [hl152001_35])
        (try simp only [hl152001_35] at BK145)
        (try simp only [hl152001_35] at BK151)
        (try simp only [hl152001_35] at BK161)
        (try simp only [hl152001_35] at HO_146001)
        (try simp only [hl152001_35] at HO_162001)
        cases kq with
        | zero => exact absurd HA.out (by simp [laws_FnExactParseTri.j1])
        | succ kj35 =>
         have H := HA.out
         clear HA
         simp only [laws_FnExactParseTri.j1] at H
         by_cases c62 : x57_35 = true
         ·subst c62
          have H1 : (some false) = some r := by rw [if_pos rfl] at H; exact H
          clear H
          have H := H1
          clear H1
          obtain rfl := Option.some.inj H
          go_wp2
          go_ret
          exact ⟨er_, bl3_ HB.out GE145.out GE151.out GE161.out⟩
         ·replace c62 := Bool.eq_false_iff.mpr c62
          subst c62
          have H1 : ((laws_heldTri.f kj35 t146 t154 101).bind fun t163 => (if t163 < 0 then (some false) else (if t163 = t153 then (some true) else (some false)))) = some r := by rw [if_neg (show ¬ (false = true) by decide)] at H; exact H
          clear H
          have H := H1
          clear H1
          replace H := Option.bind_eq_some_iff.mp H
          obtain ⟨t163, A630, H⟩ := H
          replace H : (if t163 < 0 then (some false) else (if t163 = t153 then (some true) else (some false))) = some r := H
          have A63 := Aside0.mk A630
          clear A630
          by_cases c64 : t163 < 0
          ·rw [if_pos c64] at H
           have c64b0 : decide (t163 < 0) = true := decide_eq_true c64
           clear c64
           obtain rfl := Option.some.inj H
           have hnb65 := NB151_145.out
           have hnc65 := NB145_151.out
           have hnb66 := NB151_161.out
           have hnc66 := NB161_151.out
           have hcz67_0 : wc.cell? ⟨gb151, 0, none⟩ = some (.int .i64 t146) := (blk_cell BK151.out 0).trans rfl
           have hcz67_1 : wc.cell? ⟨gb151, 1, none⟩ = some (.slice Ao14 t154.length co14) := (blk_cell BK151.out 1).trans rfl
           have hfz67_0 := blk_frozen BK151.out 0
           have hfz67_1 := blk_frozen BK151.out 1
           go_wp2_with (first | ((with_reducible refine gate_callee (f := 30) rfl ?_); refine goesL_ (some 60) rfl rfl Tryd.func30 (by kernel_rfl) rfl #[.agg #[.int .i64 t146, .slice Ao14 t154.length co14], .int .i64 101] rfl ob_ ?_; (with_reducible refine (laws_heldTri.calls kj35 t146 _ _ t154 101 t163 _ ?side1 ?side2 A63.out).mono ?_); (case side1 => repeat (first | exact (Kd.R_reads' HO_152001.out).2.2 | (with_reducible refine Kd.C_alloc ?_ _) | (with_reducible refine Kd.C_drewN ?_ _) | (with_reducible refine Kd.C_drew ?_))); (case side2 => exact (Kd.R_reads' HO_152001.out).2.1); rintro e w68 ⟨rfl, hb⟩; refine ⟨_, rfl, ?_⟩; have n0_ := Aside0.mk (Kd.R_below (kr_ HO_146001.out) hb); have n1_ := Aside0.mk (Kd.R_below (kr_ HO_152001.out) hb); have n2_ := Aside0.mk (Kd.R_below (kr_ HO_162001.out) hb); have n3_ := Aside0.mk (bb_ BK145.out hb); have n4_ := Aside0.mk (bb_ BK151.out hb); have n5_ := Aside0.mk (bb_ BK161.out hb); have n6_ := Aside0.mk (below_step (bl3_ HB.out GE145.out GE151.out GE161.out) hb); clear HO_146001; clear HO_152001; clear HO_162001; clear BK145; clear BK151; clear BK161; clear HB; have HO_146001 := n0_; have HO_152001 := n1_; have HO_162001 := n2_; have BK145 := n3_; have BK151 := n4_; have BK161 := n5_; have HB := n6_; clear n0_ n1_ n2_ n3_ n4_ n5_ n6_; (try clear hb); (try clear hb2); (try clear hk); (try clear hi)))
           go_ret
           exact ⟨er_, bl3_ HB.out GE145.out GE151.out GE161.out⟩
          ·rw [if_neg c64] at H
           have c64b0 : decide (t163 < 0) = false := decide_eq_false c64
           clear c64
           by_cases c69 : t163 = t153
           ·rw [if_pos c69] at H
            have c69b0 : (t163 == t153) = true := beq_iff_eq.mpr c69
            have c69b1 : (t163 != t153) = false := bne_eq_false_iff_eq.mpr c69
            clear c69
            obtain rfl := Option.some.inj H
            have hnb70 := NB151_145.out
            have hnc70 := NB145_151.out
            have hnb71 := NB151_161.out
            have hnc71 := NB161_151.out
            have hcz72_0 : wc.cell? ⟨gb151, 0, none⟩ = some (.int .i64 t146) := (blk_cell BK151.out 0).trans rfl
            have hcz72_1 : wc.cell? ⟨gb151, 1, none⟩ = some (.slice Ao14 t154.length co14) := (blk_cell BK151.out 1).trans rfl
            have hfz72_0 := blk_frozen BK151.out 0
            have hfz72_1 := blk_frozen BK151.out 1
            go_wp2_with (first | ((with_reducible refine gate_callee (f := 30) rfl ?_); refine goesL_ (some 60) rfl rfl Tryd.func30 (by kernel_rfl) rfl #[.agg #[.int .i64 t146, .slice Ao14 t154.length co14], .int .i64 101] rfl ob_ ?_; (with_reducible refine (laws_heldTri.calls kj35 t146 _ _ t154 101 t163 _ ?side1 ?side2 A63.out).mono ?_); (case side1 => repeat (first | exact (Kd.R_reads' HO_152001.out).2.2 | (with_reducible refine Kd.C_alloc ?_ _) | (with_reducible refine Kd.C_drewN ?_ _) | (with_reducible refine Kd.C_drew ?_))); (case side2 => exact (Kd.R_reads' HO_152001.out).2.1); rintro e w73 ⟨rfl, hb⟩; refine ⟨_, rfl, ?_⟩; have n0_ := Aside0.mk (Kd.R_below (kr_ HO_146001.out) hb); have n1_ := Aside0.mk (Kd.R_below (kr_ HO_152001.out) hb); have n2_ := Aside0.mk (Kd.R_below (kr_ HO_162001.out) hb); have n3_ := Aside0.mk (bb_ BK145.out hb); have n4_ := Aside0.mk (bb_ BK151.out hb); have n5_ := Aside0.mk (bb_ BK161.out hb); have n6_ := Aside0.mk (below_step (bl3_ HB.out GE145.out GE151.out GE161.out) hb); clear HO_146001; clear HO_152001; clear HO_162001; clear BK145; clear BK151; clear BK161; clear HB; have HO_146001 := n0_; have HO_152001 := n1_; have HO_162001 := n2_; have BK145 := n3_; have BK151 := n4_; have BK161 := n5_; have HB := n6_; clear n0_ n1_ n2_ n3_ n4_ n5_ n6_; (try clear hb); (try clear hb2); (try clear hk); (try clear hi)))
            go_ret
            exact ⟨er_, bl3_ HB.out GE145.out GE151.out GE161.out⟩
           ·rw [if_neg c69] at H
            have c69b0 : (t163 == t153) = false := beq_eq_false_iff_ne.mpr c69
            have c69b1 : (t163 != t153) = true := bne_iff_ne.mpr c69
            obtain rfl := Option.some.inj H
            have hnb74 := NB151_145.out
            have hnc74 := NB145_151.out
            have hnb75 := NB151_161.out
            have hnc75 := NB161_151.out
            have hcz76_0 : wc.cell? ⟨gb151, 0, none⟩ = some (.int .i64 t146) := (blk_cell BK151.out 0).trans rfl
            have hcz76_1 : wc.cell? ⟨gb151, 1, none⟩ = some (.slice Ao14 t154.length co14) := (blk_cell BK151.out 1).trans rfl
            have hfz76_0 := blk_frozen BK151.out 0
            have hfz76_1 := blk_frozen BK151.out 1
            go_wp2_with (first | ((with_reducible refine gate_callee (f := 30) rfl ?_); refine goesL_ (some 60) rfl rfl Tryd.func30 (by kernel_rfl) rfl #[.agg #[.int .i64 t146, .slice Ao14 t154.length co14], .int .i64 101] rfl ob_ ?_; (with_reducible refine (laws_heldTri.calls kj35 t146 _ _ t154 101 t163 _ ?side1 ?side2 A63.out).mono ?_); (case side1 => repeat (first | exact (Kd.R_reads' HO_152001.out).2.2 | (with_reducible refine Kd.C_alloc ?_ _) | (with_reducible refine Kd.C_drewN ?_ _) | (with_reducible refine Kd.C_drew ?_))); (case side2 => exact (Kd.R_reads' HO_152001.out).2.1); rintro e w77 ⟨rfl, hb⟩; refine ⟨_, rfl, ?_⟩; have n0_ := Aside0.mk (Kd.R_below (kr_ HO_146001.out) hb); have n1_ := Aside0.mk (Kd.R_below (kr_ HO_152001.out) hb); have n2_ := Aside0.mk (Kd.R_below (kr_ HO_162001.out) hb); have n3_ := Aside0.mk (bb_ BK145.out hb); have n4_ := Aside0.mk (bb_ BK151.out hb); have n5_ := Aside0.mk (bb_ BK161.out hb); have n6_ := Aside0.mk (below_step (bl3_ HB.out GE145.out GE151.out GE161.out) hb); clear HO_146001; clear HO_152001; clear HO_162001; clear BK145; clear BK151; clear BK161; clear HB; have HO_146001 := n0_; have HO_152001 := n1_; have HO_162001 := n2_; have BK145 := n3_; have BK151 := n4_; have BK161 := n5_; have HB := n6_; clear n0_ n1_ n2_ n3_ n4_ n5_ n6_; (try clear hb); (try clear hb2); (try clear hk); (try clear hi)))
            go_ret
            exact ⟨er_, bl3_ HB.out GE145.out GE151.out GE161.out⟩
      ·rw [if_neg c34] at H
       have c34b0 : (t155 == t153) = false := beq_eq_false_iff_ne.mpr c34
       have c34b1 : (t155 != t153) = true := bne_iff_ne.mpr c34
       obtain rfl := Option.some.inj H
       have hnb78 := NB151_145.out
       have hnc78 := NB145_151.out
       have hcz79_0 : wc.cell? ⟨gb151, 0, none⟩ = some (.int .i64 t146) := (blk_cell BK151.out 0).trans rfl
       have hcz79_1 : wc.cell? ⟨gb151, 1, none⟩ = some (.slice Ao14 t147.length co14) := (blk_cell BK151.out 1).trans rfl
       have hfz79_0 := blk_frozen BK151.out 0
       have hfz79_1 := blk_frozen BK151.out 1
       go_wp2_with (first | ((with_reducible refine gate_callee (f := 29) rfl ?_); refine goesL_ (some 35) rfl rfl Tryd.func29 (by kernel_rfl) rfl #[.agg #[.int .i64 t146, .slice Ao14 t147.length co14], .int .i64 101] rfl ob_ ?_; (with_reducible refine (laws_markTri.calls kj4 t146 (fun k_ => some k_ = (.slice Ao14 t147.length co14 : Value).ownBlock) (.slice Ao14 t147.length co14) t147 101 t153 t154 w _ ?side1 ?side2 A26.out).mono ?_); (case side1 => repeat (first | (with_reducible first | exact HB.out | apply below_alloc | apply pw_below_drewN | apply below_drew1 | refine below_set ?_ GE145.out | refine below_set ?_ GE151.out) | exact HB.out)); (case side2 => exact Kd.R_tight rfl HO_152001.out); rintro e w80 ⟨rfl, hy0, hb, hkp⟩; refine ⟨_, rfl, ?_⟩; have n0_ := Aside0.mk (Kd.R_mono (ok' := fun k_ => some k_ ≠ (.slice Ao14 t147.length co14 : Value).ownBlock) (Kd.R_keptB (HO_146001.out) hkp (fun k_ hk_ hs_ => (hk_) hs_)) (fun k_ hk_ => hk_.1)); have n1_ := Aside0.mk (Kd.R_reok rfl hy0 (fun k_ e_ => HO_152001.out.1 k_ e_)); have n2_ := Aside0.mk (blk_kept (bk_ BK145.out) hkp (fun hs_ => (fun e_ => (Kd.R_ne HO_152001.out BK145.out (by decide)) e_) hs_)); have n3_ := Aside0.mk (blk_kept (bk_ BK151.out) hkp (fun hs_ => (fun e_ => (Kd.R_ne HO_152001.out BK151.out (by decide)) e_) hs_)); have n4_ := Aside0.mk (hb); clear HO_146001; clear HO_152001; clear BK145; clear BK151; clear HB; have HO_146001 := n0_; have HO_152001 := n1_; have BK145 := n2_; have BK151 := n3_; have HB := n4_; clear n0_ n1_ n2_ n3_ n4_; (try clear hb); (try clear hkp); (try clear hy0); have hcz81_0 : w80.cell? ⟨gb151, 0, none⟩ = some (.int .i64 t146) := (blk_cell BK151.out 0).trans rfl; have hcz81_1 : w80.cell? ⟨gb151, 1, none⟩ = some (.slice Ao14 t147.length co14) := (blk_cell BK151.out 1).trans rfl; have hfz81_0 := blk_frozen BK151.out 0; have hfz81_1 := blk_frozen BK151.out 1) | ((with_reducible refine gate_callee (f := 30) rfl ?_); refine goesL_ (some 38) rfl rfl Tryd.func30 (by kernel_rfl) rfl #[.agg #[.int .i64 t146, .slice Ao14 t154.length co14], .int .i64 101] rfl (by (try simp only [List.map_toArray, List.map_cons, List.map_nil]); first | done | (rw [show t154.length = t147.length from (Kd.R_reads' HO_152001.out).1.symm] <;> rfl) | rfl | (simp only [List.length_drop, List.length_take]; rfl)) ?_; (with_reducible refine (laws_heldTri.calls kj4 t146 _ _ t154 101 t155 _ ?side1 ?side2 A27.out).mono ?_); (case side1 => repeat (first | exact (Kd.R_reads' HO_152001.out).2.2 | (with_reducible refine Kd.C_alloc ?_ _) | (with_reducible refine Kd.C_drewN ?_ _) | (with_reducible refine Kd.C_drew ?_))); (case side2 => rw [show t154.length = t147.length from (Kd.R_reads' HO_152001.out).1.symm]; exact (Kd.R_reads' HO_152001.out).2.1); rintro e w82 ⟨rfl, hb⟩; refine ⟨_, rfl, ?_⟩; have n0_ := Aside0.mk (Kd.R_below (kr_ HO_146001.out) hb); have n1_ := Aside0.mk (Kd.R_below (kr_ HO_152001.out) hb); have n2_ := Aside0.mk (bb_ BK145.out hb); have n3_ := Aside0.mk (bb_ BK151.out hb); have n4_ := Aside0.mk (below_step (bl2_ HB.out GE145.out GE151.out) hb); clear HO_146001; clear HO_152001; clear BK145; clear BK151; clear HB; have HO_146001 := n0_; have HO_152001 := n1_; have BK145 := n2_; have BK151 := n3_; have HB := n4_; clear n0_ n1_ n2_ n3_ n4_; (try clear hb); (try clear hb2); (try clear hk); (try clear hi)))
       go_ret
       exact ⟨er_, bl2_ HB.out GE145.out GE151.out⟩

def laws_FnExactParseTri.Pure : Prop := ∀ (a0 : ByteArray), a0.size ≤ 140737488351232 → ∃ k, laws_FnExactParseTri.f k a0 = some true
theorem laws_FnExactParseTri.walk (P : laws_FnExactParseTri.Pure) (a0 : ByteArray) (w : World) (hT_ : TB w) (w0 : a0.size ≤ 140737488351232) :
  Calls Tryd.prog 7 #[.string a0] w fun e w' => e = .returned (.bool true) ∧ Below w.heap.size w w' := by
 obtain ⟨k, h⟩ := P a0 w0
 refine (laws_FnExactParseTri.calls k a0 true w hT_ h).mono ?_
 rintro e w' ⟨rfl, hd⟩
 exact ⟨rfl, hd⟩


def spec_l1In.f (a0 : Int) (a1 : Int) (a2 : Int) : Option (Bool) := if a0 ≥ a1 then (some (decide (a0 ≤ a2))) else (some false)

def spec_fiGrid.f (a0 : Int) (a1 : Int) : Option (Bool) := (spec_l1In.f a0 1 4).bind fun t167 => (if t167 = true then ((spec_l1In.f a1 1 4).bind fun t168 => (some t168)) else (some false))

def spec_l1All.l0 : Nat → Int → Int → List Int → Int → Int → Option (Bool)
  | 0, _, _, _, _, _ => none
  | k + 1, x1, x2, x9, x10, x11 => if x11 < x10 then (if 0 ≤ x11 then (if x11 < (x9.length : Int) then ((spec_l1In.f (rd x9 x11) x1 x2).bind fun t170 => (if t170 = true then (spec_l1All.l0 k x1 x2 x9 x10 (wrap64 (x11 + 1))) else (some false))) else (none)) else (none)) else (some true)
def spec_l1All.f (k : Nat) (l0 : List Int) (a1 : Int) (a2 : Int) : Option (Bool) := spec_l1All.l0 k a1 a2 l0 (l0.length : Int) 0
theorem spec_l1All.mono_l : ∀ k, (∀ y0 y1 y2 y3 y4, LeO (spec_l1All.l0 k y0 y1 y2 y3 y4) (spec_l1All.l0 (k + 1) y0 y1 y2 y3 y4))
  | 0 => fun _ _ _ _ _ r h => by simp [spec_l1All.l0] at h
  | k + 1 => by
    have ih0 := spec_l1All.mono_l k
    · intro y0 y1 y2 y3 y4
      unfold spec_l1All.l0
      repeat' first
      | (with_reducible exact ih0 _ _ _ _ _)
      | (with_reducible exact LeO.refl _)
      | (with_reducible exact LeO.none _)
      | (with_reducible refine LeO.ite ?_ ?_)
      | (with_reducible refine LeO.bind ?_ (fun _ => ?_))
      | exact ih0 _ _ _ _ _
      | exact LeO.none _
      | refine LeO.ite ?_ ?_
      | refine LeO.bind ?_ (fun _ => ?_)
theorem spec_l1All.mono : ∀ a0 a1 a2 k, LeO (spec_l1All.f k a0 a1 a2) (spec_l1All.f (k + 1) a0 a1 a2) := by
  intro a0 a1 a2 k
  have ih0 := spec_l1All.mono_l k
  unfold spec_l1All.f
  repeat' first
      | (with_reducible exact ih0 _ _ _ _ _)
      | (with_reducible exact LeO.refl _)
      | (with_reducible exact LeO.none _)
      | (with_reducible refine LeO.ite ?_ ?_)
      | (with_reducible refine LeO.bind ?_ (fun _ => ?_))
      | exact ih0 _ _ _ _ _
      | exact LeO.none _
      | refine LeO.ite ?_ ?_
      | refine LeO.bind ?_ (fun _ => ?_)

mutual
def spec_fiRises.j0 : Nat → List Int → Bool → Option (Bool)
  | 0, _, _ => none
  | k + 1, x0, x16 => if x16 = true then (some false) else (spec_fiRises.l0 k x0 1)
def spec_fiRises.l0 : Nat → List Int → Int → Option (Bool)
  | 0, _, _ => none
  | k + 1, x0, x5 => if x5 < (x0.length : Int) then (if 0 ≤ (wrap64 (x5 - 1)) then (if (wrap64 (x5 - 1)) < (x0.length : Int) then (if 0 ≤ x5 then (if (rd x0 (wrap64 (x5 - 1))) ≥ (rd x0 x5) then (some false) else (spec_fiRises.l0 k x0 (wrap64 (x5 + 1)))) else (none)) else (none)) else (none)) else (some true)
end
def spec_fiRises.f (k : Nat) (l0 : List Int) (a1 : Int) : Option (Bool) := if (l0.length : Int) > (wrap64 (a1 + 1)) then (spec_fiRises.j0 k l0 true) else ((spec_l1All.f k l0 0 a1).bind fun t171 => (spec_fiRises.j0 k l0 (!t171)))
theorem spec_fiRises.mono_l : ∀ k, (∀ y0 y1, LeO (spec_fiRises.j0 k y0 y1) (spec_fiRises.j0 (k + 1) y0 y1)) ∧ (∀ y0 y1, LeO (spec_fiRises.l0 k y0 y1) (spec_fiRises.l0 (k + 1) y0 y1))
  | 0 => ⟨fun _ _ r h => by simp [spec_fiRises.j0] at h, fun _ _ r h => by simp [spec_fiRises.l0] at h⟩
  | k + 1 => by
    obtain ⟨ih0, ih1⟩ := spec_fiRises.mono_l k
    refine ⟨?_, ?_⟩
    · intro y0 y1
      unfold spec_fiRises.j0
      repeat' first
      | (with_reducible exact ih0 _ _)
      | (with_reducible exact ih1 _ _)
      | (with_reducible exact spec_l1All.mono _ _ _ _)
      | (with_reducible exact LeO.refl _)
      | (with_reducible exact LeO.none _)
      | (with_reducible refine LeO.ite ?_ ?_)
      | (with_reducible refine LeO.bind ?_ (fun _ => ?_))
      | exact ih0 _ _
      | exact ih1 _ _
      | exact spec_l1All.mono _ _ _ _
      | exact LeO.none _
      | refine LeO.ite ?_ ?_
      | refine LeO.bind ?_ (fun _ => ?_)
    · intro y0 y1
      unfold spec_fiRises.l0
      repeat' first
      | (with_reducible exact ih0 _ _)
      | (with_reducible exact ih1 _ _)
      | (with_reducible exact spec_l1All.mono _ _ _ _)
      | (with_reducible exact LeO.refl _)
      | (with_reducible exact LeO.none _)
      | (with_reducible refine LeO.ite ?_ ?_)
      | (with_reducible refine LeO.bind ?_ (fun _ => ?_))
      | exact ih0 _ _
      | exact ih1 _ _
      | exact spec_l1All.mono _ _ _ _
      | exact LeO.none _
      | refine LeO.ite ?_ ?_
      | refine LeO.bind ?_ (fun _ => ?_)
theorem spec_fiRises.mono : ∀ a0 a1 k, LeO (spec_fiRises.f k a0 a1) (spec_fiRises.f (k + 1) a0 a1) := by
  intro a0 a1 k
  obtain ⟨ih0, ih1⟩ := spec_fiRises.mono_l k
  unfold spec_fiRises.f
  repeat' first
      | (with_reducible exact ih0 _ _)
      | (with_reducible exact ih1 _ _)
      | (with_reducible exact spec_l1All.mono _ _ _ _)
      | (with_reducible exact LeO.refl _)
      | (with_reducible exact LeO.none _)
      | (with_reducible refine LeO.ite ?_ ?_)
      | (with_reducible refine LeO.bind ?_ (fun _ => ?_))
      | exact ih0 _ _
      | exact ih1 _ _
      | exact spec_l1All.mono _ _ _ _
      | exact LeO.none _
      | refine LeO.ite ?_ ?_
      | refine LeO.bind ?_ (fun _ => ?_)

def spec_fiGood.f (k : Nat) (a0_0 : Int) (a0_1 : Int) (l0_2 : List Int) (l0_3 : List Int) : Option (Bool) := (spec_fiGrid.f a0_0 a0_1).bind fun t175 => (if t175 = true then ((spec_fiRises.f k l0_2 (wrap64 ((wrap64 (a0_0 * (wrap64 (a0_1 + 1)))) - 1))).bind fun t176 => (if t176 = true then ((spec_fiRises.f k l0_3 (wrap64 ((wrap64 ((wrap64 (a0_0 + 1)) * a0_1)) - 1))).bind fun t177 => (some t177)) else (some false))) else (some false))
theorem spec_fiGood.mono : ∀ a0 a1 a2 a3 k, LeO (spec_fiGood.f k a0 a1 a2 a3) (spec_fiGood.f (k + 1) a0 a1 a2 a3) := by
  intro a0 a1 a2 a3 k
  unfold spec_fiGood.f
  repeat' first
      | (with_reducible exact spec_fiRises.mono _ _ _)
      | (with_reducible exact LeO.refl _)
      | (with_reducible exact LeO.none _)
      | (with_reducible refine LeO.ite ?_ ?_)
      | (with_reducible refine LeO.bind ?_ (fun _ => ?_))
      | exact spec_fiRises.mono _ _ _
      | exact LeO.none _
      | refine LeO.ite ?_ ?_
      | refine LeO.bind ?_ (fun _ => ?_)

def impl_isGrid.f (a0 : Int) (a1 : Int) : Option (Bool) := (impl_within.f a0 1 4).bind fun t223 => (if t223 = true then ((impl_within.f a1 1 4).bind fun t224 => (some t224)) else (some false))

def impl_isRising.l0 : Nat → List Int → Int → Option (Bool)
  | 0, _, _ => none
  | k + 1, x0, x3 => if x3 < (x0.length : Int) then (if 0 ≤ x3 then (if 0 ≤ (wrap64 (x3 - 1)) then (if (wrap64 (x3 - 1)) < (x0.length : Int) then (if (rd x0 x3) ≤ (rd x0 (wrap64 (x3 - 1))) then (some false) else (impl_isRising.l0 k x0 (wrap64 (x3 + 1)))) else (none)) else (none)) else (none)) else (some true)
def impl_isRising.f (k : Nat) (l0 : List Int) : Option (Bool) := impl_isRising.l0 k l0 1
theorem impl_isRising.mono_l : ∀ k, (∀ y0 y1, LeO (impl_isRising.l0 k y0 y1) (impl_isRising.l0 (k + 1) y0 y1))
  | 0 => fun _ _ r h => by simp [impl_isRising.l0] at h
  | k + 1 => by
    have ih0 := impl_isRising.mono_l k
    · intro y0 y1
      unfold impl_isRising.l0
      repeat' first
      | (with_reducible exact ih0 _ _)
      | (with_reducible exact LeO.refl _)
      | (with_reducible exact LeO.none _)
      | (with_reducible refine LeO.ite ?_ ?_)
      | (with_reducible refine LeO.bind ?_ (fun _ => ?_))
      | exact ih0 _ _
      | exact LeO.none _
      | refine LeO.ite ?_ ?_
      | refine LeO.bind ?_ (fun _ => ?_)
theorem impl_isRising.mono : ∀ a0 k, LeO (impl_isRising.f k a0) (impl_isRising.f (k + 1) a0) := by
  intro a0 k
  have ih0 := impl_isRising.mono_l k
  unfold impl_isRising.f
  repeat' first
      | (with_reducible exact ih0 _ _)
      | (with_reducible exact LeO.refl _)
      | (with_reducible exact LeO.none _)
      | (with_reducible refine LeO.ite ?_ ?_)
      | (with_reducible refine LeO.bind ?_ (fun _ => ?_))
      | exact ih0 _ _
      | exact LeO.none _
      | refine LeO.ite ?_ ?_
      | refine LeO.bind ?_ (fun _ => ?_)

theorem rd_nat (l : List Int) (k : Nat) (h : k < l.length) : rd l (k : Int) = l[k] := by
  unfold rd; rw [Int.toNat_natCast, List.getD_eq_getElem?_getD, List.getElem?_eq_getElem h]; rfl


def impl_areWithin.f (l0 : List Int) (a1 : Int) (a2 : Int) : Option Bool := some (l0.all fun x => decide (a1 ≤ x) && decide (x ≤ a2))

def impl_grid_levels.f (a0_0 : Int) (a0_1 : Int) : Option (Int) := some (wrap64 (a0_0 * (wrap64 (a0_1 + 1))))

def impl_Figure_grid.f (a0_0 : Int) (a0_1 : Int) (l0_2 : List Int) (l0_3 : List Int) : Option (Int × Int) := some (a0_0, a0_1)

def impl_grid_uprights.f (a0_0 : Int) (a0_1 : Int) : Option (Int) := some (wrap64 (a0_1 * (wrap64 (a0_0 + 1))))
end Go.Proofs.YtjoaaicbnojoaaaDoor.P
namespace Go.Proofs.YtjoaaicbnojoaaaDoor.P
open Go.RowKit Go.Proofs.YtjoaaicbnojoaaaDoorW.PrintWords Go.Proofs.YtjoaaicbnojoaaaDoorW.PrintLast Go.Proofs.YtjoaaicbnojoaaaDoorW.PrintMore
attribute [local go_sem] max2_int min2_int max_two min_two max_three min_three max_four min_four   -- for this text's walks alone
set_option linter.unusedVariables false
set_option linter.unusedSimpArgs false

section
variable {P : Program} {ops : Array Oper} {Q : Exit → Act → World → Prop} {S : World → Prop} {ds : List Nat} {md : Region.Mode} {i : Nat} {N : Option Tmp} {oi : Oper} {v : Value} {fuel : Nat} {l : Array Bool} {a a' : Act} {w : World}
end

end Go.Proofs.YtjoaaicbnojoaaaDoor.P
namespace Go.Proofs.YtjoaaicbnojoaaaDoor.P
open Go.RowKit Go.Proofs.YtjoaaicbnojoaaaDoorW.PrintWords Go.Proofs.YtjoaaicbnojoaaaDoorW.PrintLast Go.Proofs.YtjoaaicbnojoaaaDoorW.PrintMore
attribute [local go_sem] max2_int min2_int max_two min_two max_three min_three max_four min_four   -- for this text's walks alone
set_option linter.unusedVariables false
set_option linter.unusedSimpArgs false

def impl_IsFigure.f (k : Nat) (a0_0 : Int) (a0_1 : Int) (l0_2 : List Int) (l0_3 : List Int) : Option (Bool) := (impl_isGrid.f a0_0 a0_1).bind fun t232 => (if t232 = true then ((impl_isRising.f k l0_2).bind fun t233 => (if t233 = true then ((impl_isRising.f k l0_3).bind fun t234 => (if t234 = true then ((impl_Figure_grid.f a0_0 a0_1 l0_2 l0_3).bind fun bt235 => ((impl_grid_levels.f bt235.1 bt235.2).bind fun t237 => ((impl_areWithin.f l0_2 0 (wrap64 (t237 - 1))).bind fun t238 => (if t238 = true then ((impl_Figure_grid.f a0_0 a0_1 l0_2 l0_3).bind fun bt239 => ((impl_grid_uprights.f bt239.1 bt239.2).bind fun t241 => ((impl_areWithin.f l0_3 0 (wrap64 (t241 - 1))).bind fun t242 => (some t242)))) else (some false))))) else (some false))) else (some false))) else (some false))
theorem impl_IsFigure.mono : ∀ a0 a1 a2 a3 k, LeO (impl_IsFigure.f k a0 a1 a2 a3) (impl_IsFigure.f (k + 1) a0 a1 a2 a3) := by
  intro a0 a1 a2 a3 k
  unfold impl_IsFigure.f
  repeat' first
      | (with_reducible exact impl_isRising.mono _ _)
      | (with_reducible exact LeO.refl _)
      | (with_reducible exact LeO.none _)
      | (with_reducible refine LeO.ite ?_ ?_)
      | (with_reducible refine LeO.bind ?_ (fun _ => ?_))
      | exact impl_isRising.mono _ _
      | exact LeO.none _
      | refine LeO.ite ?_ ?_
      | refine LeO.bind ?_ (fun _ => ?_)


mutual
def impl_Figure_set.l0 : Nat → Int → List Int → Int → Int → Int → Int → List Int → List Int → Option (Int)
  | 0, _, _, _, _, _, _, _, _ => none
  | k + 1, x3, x9, x10, x11, x246000, x246001, x246002, x246003 => if x11 < x10 then (if 0 ≤ x11 then (if x11 < (x9.length : Int) then (if 0 ≤ (rd x9 x11) then (impl_Figure_set.l0 k (Go.bits .or .u64 x3 (shl .u64 1 (rd x9 x11))) x9 x10 (wrap64 (x11 + 1)) x246000 x246001 x246002 x246003) else (none)) else (none)) else (none)) else (impl_Figure_set.l1 k x3 x246003 (x246003.length : Int) 0 x246000 x246001 x246002 x246003)
def impl_Figure_set.l1 : Nat → Int → List Int → Int → Int → Int → Int → List Int → List Int → Option (Int)
  | 0, _, _, _, _, _, _, _, _ => none
  | k + 1, x3, x21, x22, x23, x246000, x246001, x246002, x246003 => if x23 < x22 then (if 0 ≤ x23 then (if x23 < (x21.length : Int) then ((impl_Figure_grid.f x246000 x246001 x246002 x246003).bind fun bt248 => ((impl_grid_levels.f bt248.1 bt248.2).bind fun t250 => (if 0 ≤ (wrap64 (t250 + (rd x21 x23))) then (impl_Figure_set.l1 k (Go.bits .or .u64 x3 (shl .u64 1 (wrap64 (t250 + (rd x21 x23))))) x21 x22 (wrap64 (x23 + 1)) x246000 x246001 x246002 x246003) else (none)))) else (none)) else (none)) else (some x3)
end
def impl_Figure_set.f (k : Nat) (a0_0 : Int) (a0_1 : Int) (l0_2 : List Int) (l0_3 : List Int) : Option (Int) := impl_Figure_set.l0 k 0 l0_2 (l0_2.length : Int) 0 a0_0 a0_1 l0_2 l0_3
theorem impl_Figure_set.mono_l : ∀ k, (∀ y0 y1 y2 y3 y4 y5 y6 y7, LeO (impl_Figure_set.l0 k y0 y1 y2 y3 y4 y5 y6 y7) (impl_Figure_set.l0 (k + 1) y0 y1 y2 y3 y4 y5 y6 y7)) ∧ (∀ y0 y1 y2 y3 y4 y5 y6 y7, LeO (impl_Figure_set.l1 k y0 y1 y2 y3 y4 y5 y6 y7) (impl_Figure_set.l1 (k + 1) y0 y1 y2 y3 y4 y5 y6 y7))
  | 0 => ⟨fun _ _ _ _ _ _ _ _ r h => by simp [impl_Figure_set.l0] at h, fun _ _ _ _ _ _ _ _ r h => by simp [impl_Figure_set.l1] at h⟩
  | k + 1 => by
    obtain ⟨ih0, ih1⟩ := impl_Figure_set.mono_l k
    refine ⟨?_, ?_⟩
    · intro y0 y1 y2 y3 y4 y5 y6 y7
      unfold impl_Figure_set.l0
      repeat' first
      | (with_reducible exact ih0 _ _ _ _ _ _ _ _)
      | (with_reducible exact ih1 _ _ _ _ _ _ _ _)
      | (with_reducible exact LeO.refl _)
      | (with_reducible exact LeO.none _)
      | (with_reducible refine LeO.ite ?_ ?_)
      | (with_reducible refine LeO.bind ?_ (fun _ => ?_))
      | exact ih0 _ _ _ _ _ _ _ _
      | exact ih1 _ _ _ _ _ _ _ _
      | exact LeO.none _
      | refine LeO.ite ?_ ?_
      | refine LeO.bind ?_ (fun _ => ?_)
    · intro y0 y1 y2 y3 y4 y5 y6 y7
      unfold impl_Figure_set.l1
      repeat' first
      | (with_reducible exact ih0 _ _ _ _ _ _ _ _)
      | (with_reducible exact ih1 _ _ _ _ _ _ _ _)
      | (with_reducible exact LeO.refl _)
      | (with_reducible exact LeO.none _)
      | (with_reducible refine LeO.ite ?_ ?_)
      | (with_reducible refine LeO.bind ?_ (fun _ => ?_))
      | exact ih0 _ _ _ _ _ _ _ _
      | exact ih1 _ _ _ _ _ _ _ _
      | exact LeO.none _
      | refine LeO.ite ?_ ?_
      | refine LeO.bind ?_ (fun _ => ?_)
theorem impl_Figure_set.mono : ∀ a0 a1 a2 a3 k, LeO (impl_Figure_set.f k a0 a1 a2 a3) (impl_Figure_set.f (k + 1) a0 a1 a2 a3) := by
  intro a0 a1 a2 a3 k
  obtain ⟨ih0, ih1⟩ := impl_Figure_set.mono_l k
  unfold impl_Figure_set.f
  repeat' first
      | (with_reducible exact ih0 _ _ _ _ _ _ _ _)
      | (with_reducible exact ih1 _ _ _ _ _ _ _ _)
      | (with_reducible exact LeO.refl _)
      | (with_reducible exact LeO.none _)
      | (with_reducible refine LeO.ite ?_ ?_)
      | (with_reducible refine LeO.bind ?_ (fun _ => ?_))
      | exact ih0 _ _ _ _ _ _ _ _
      | exact ih1 _ _ _ _ _ _ _ _
      | exact LeO.none _
      | refine LeO.ite ?_ ?_
      | refine LeO.bind ?_ (fun _ => ?_)

theorem u64_small (n : Int) (h0 : 0 ≤ n) (h1 : n < 2 ^ 60) : IntKind.u64.wrap n = n := by
  have : IntKind.u64.wrap n = n % 18446744073709551616 := by simp [IntKind.wrap, IntKind.bits, IntKind.signed]
  rw [this]; omega
theorem i64_small (n : Int) (h0 : 0 ≤ n) (h1 : n < 2 ^ 60) : IntKind.i64.wrap n = n := by rw [IntKind.wrap_i64]; omega
theorem or_u64 (a b : Nat) (ha : a < 2 ^ 60) (hb : b < 2 ^ 60) : Go.bits .or .u64 (a : Int) (b : Int) = ((a ||| b : Nat) : Int) := (bits_nat .u64 60 (by decide) u64_small a b ha hb).2
theorem or_i64 (a b : Nat) (ha : a < 2 ^ 60) (hb : b < 2 ^ 60) : Go.bits .or .i64 (a : Int) (b : Int) = ((a ||| b : Nat) : Int) := (bits_nat .i64 60 (by decide) i64_small a b ha hb).2

def cutL (c : UInt8) : List UInt8 → List (List UInt8)
  | [] => [[]]
  | b :: t => if b = c then [] :: cutL c t else match cutL c t with
    | [] => [[b]]
    | p :: r => (b :: p) :: r
theorem cutL_ne (c : UInt8) : ∀ l, cutL c l ≠ []
  | [] => by simp [cutL]
  | b :: t => by
    unfold cutL
    split
    · simp
    · split <;> simp
theorem cutL_app (c : UInt8) (t : List UInt8) : ∀ a, c ∉ a → cutL c (a ++ c :: t) = a :: cutL c t
  | [], _ => by simp [cutL]
  | b :: a, h => by
    have hb : ¬ b = c := fun e => h (by rw [e]; exact List.mem_cons_self)
    rw [List.cons_append, cutL, if_neg hb, cutL_app c t a (fun e => h (List.mem_cons_of_mem _ e))]
theorem cutL_none (c : UInt8) : ∀ a, c ∉ a → cutL c a = [a]
  | [], _ => rfl
  | b :: a, h => by
    have hb : ¬ b = c := fun e => h (by rw [e]; exact List.mem_cons_self)
    rw [cutL, if_neg hb, cutL_none c a (fun e => h (List.mem_cons_of_mem _ e))]
theorem idx1 (c : UInt8) : ∀ l, (Lib.index l [c] = -1 ∧ c ∉ l) ∨ ∃ a t, l = a ++ c :: t ∧ c ∉ a ∧ Lib.index l [c] = (a.length : Int)
  | [] => .inl ⟨rfl, by simp⟩
  | b :: l => by
    by_cases hb : b = c
    · subst hb
      exact .inr ⟨[], l, rfl, by simp, by simp [Lib.index]⟩
    · have e : [c].isPrefixOf (b :: l) = false := by
        rw [Bool.eq_false_iff]
        intro h
        rw [List.isPrefixOf_cons_cons, Bool.and_eq_true, beq_iff_eq] at h
        exact hb h.1.symm
      rcases idx1 c l with ⟨h1, h2⟩ | ⟨a, t, rfl, h2, h3⟩
      · refine .inl ⟨?_, fun h => ?_⟩
        · unfold Lib.index
          rw [e, h1]
          rfl
        · rcases List.mem_cons.1 h with h | h
          · exact hb h.symm
          · exact h2 h
      · refine .inr ⟨b :: a, t, rfl, fun h => ?_, ?_⟩
        · rcases List.mem_cons.1 h with h | h
          · exact hb h.symm
          · exact h2 h
        · unfold Lib.index
          rw [e, h3, if_neg (by simp), if_neg (by rw [beq_iff_eq]; omega), List.length_cons]
          omega
theorem splitK_cut (c : UInt8) : ∀ (n : Nat) (l : List UInt8), l.length ≤ n → Lib.splitK [c] 0 (Lib.count l [c]) l = cutL c l
  | n, l, hn => by
    rcases idx1 c l with ⟨h1, h2⟩ | ⟨a, t, rfl, h2, h3⟩
    · rw [Lib.count_miss h1, cutL_none c l h2]
      rfl
    · cases n with
      | zero => simp at hn
      | succ n =>
        have hd : (a ++ c :: t).drop (a.length + 1) = t := by
          rw [← List.drop_drop, List.drop_left]; rfl
        have ht : (a ++ c :: t).take a.length = a := List.take_left
        rw [Lib.count_hit (by simp) h3, List.length_singleton, hd, Nat.add_comm, Lib.splitK, if_neg (by rw [beq_iff_eq]; omega), h3]
        rw [show ((a.length : Nat) : Int).toNat = a.length by omega, Nat.add_zero, List.length_singleton, hd, ht]
        rw [splitK_cut c n t (by rw [List.length_append, List.length_cons] at hn; omega), cutL_app c t a h2]
theorem split_cut (c : UInt8) (s : ByteArray) : (Lib.splitB ⟨#[c]⟩ 0 (Lib.countB s ⟨#[c]⟩) s).map (·.data.toList) = cutL c s.data.toList := by
  rw [Lib.splitB_data]
  exact splitK_cut c _ s.data.toList (Nat.le_refl _)
def joinL (c : UInt8) : List (List UInt8) → List UInt8
  | [] => []
  | [p] => p
  | p :: q :: r => p ++ c :: joinL c (q :: r)
theorem join_cut (c : UInt8) : ∀ l, joinL c (cutL c l) = l
  | [] => rfl
  | b :: t => by
    have ih := join_cut c t
    have hne := cutL_ne c t
    unfold cutL
    by_cases hb : b = c
    · rw [if_pos hb]
      cases h : cutL c t with
      | nil => exact absurd h hne
      | cons p r =>
        rw [h] at ih
        rw [hb]
        show [] ++ c :: joinL c (p :: r) = c :: t
        rw [ih]; rfl
    · rw [if_neg hb]
      cases h : cutL c t with
      | nil => exact absurd h hne
      | cons p r =>
        rw [h] at ih
        cases r with
        | nil => simp only [joinL] at ih ⊢; rw [ih]
        | cons q r => simp only [joinL, List.cons_append] at ih ⊢; rw [ih]
theorem cut_free (c : UInt8) : ∀ l, ∀ p ∈ cutL c l, c ∉ p
  | [], p, hp => by simp [cutL] at hp; subst hp; simp
  | b :: t, p, hp => by
    have ih := cut_free c t
    unfold cutL at hp
    by_cases hb : b = c
    · rw [if_pos hb] at hp
      rcases List.mem_cons.1 hp with rfl | hp
      · simp
      · exact ih p hp
    · rw [if_neg hb] at hp
      cases h : cutL c t with
      | nil => exact absurd h (cutL_ne c t)
      | cons q r =>
        rw [h] at hp ih
        simp only at hp
        rcases List.mem_cons.1 hp with rfl | hp
        · intro hm
          rcases List.mem_cons.1 hm with hm | hm
          · exact hb hm.symm
          · exact ih q List.mem_cons_self hm
        · exact ih p (List.mem_cons_of_mem _ hp)


theorem rising_ext : ∀ {l m : List Int}, l.Pairwise (· < ·) → m.Pairwise (· < ·) → (∀ x, x ∈ l ↔ x ∈ m) → l = m
  | [], [], _, _, _ => rfl
  | [], b :: m, _, _, h => by have := (h b).2 List.mem_cons_self; cases this
  | a :: l, [], _, _, h => by have := (h a).1 List.mem_cons_self; cases this
  | a :: l, b :: m, h1, h2, h => by
    rw [List.pairwise_cons] at h1 h2
    have e : a = b := by
      rcases List.mem_cons.1 ((h a).1 List.mem_cons_self) with e | e
      · exact e
      · rcases List.mem_cons.1 ((h b).2 List.mem_cons_self) with e2 | e2
        · exact e2.symm
        · have := h2.1 a e; have := h1.1 b e2; omega
    subst e
    rw [rising_ext h1.2 h2.2 (fun x => ?_)]
    constructor
    · intro hx
      rcases List.mem_cons.1 ((h x).1 (List.mem_cons_of_mem _ hx)) with e | e
      · have := h1.1 x hx; omega
      · exact e
    · intro hx
      rcases List.mem_cons.1 ((h x).2 (List.mem_cons_of_mem _ hx)) with e | e
      · have := h2.1 x hx; omega
      · exact e
def setL (n : Nat) (p : Nat → Bool) : List Int := ((List.range n).filter p).map fun n : Nat => (n : Int)
theorem setL_pw (n : Nat) (p : Nat → Bool) : (setL n p).Pairwise (· < ·) := by
  unfold setL
  rw [List.pairwise_map]
  exact (List.Pairwise.filter p List.pairwise_lt_range).imp (fun h => by omega)
theorem setL_mem (n : Nat) (p : Nat → Bool) (x : Int) : x ∈ setL n p ↔ ∃ i : Nat, (i : Int) = x ∧ i < n ∧ p i = true := by
  unfold setL
  rw [List.mem_map]
  constructor
  · rintro ⟨i, hi, rfl⟩
    rw [List.mem_filter, List.mem_range] at hi
    exact ⟨i, rfl, hi⟩
  · rintro ⟨i, rfl, hi⟩
    exact ⟨i, by rw [List.mem_filter, List.mem_range]; exact hi, rfl⟩
theorem setL_len (n : Nat) (p : Nat → Bool) : (setL n p).length ≤ n := by
  unfold setL
  rw [List.length_map]
  have := List.length_filter_le p (List.range n)
  rw [List.length_range] at this
  exact this
theorem setL_eq {n m : Nat} {p q : Nat → Bool} (h : ∀ i, (i < n ∧ p i = true) ↔ (i < m ∧ q i = true)) : setL n p = setL m q := by
  refine rising_ext (setL_pw n p) (setL_pw m q) (fun x => ?_)
  rw [setL_mem, setL_mem]
  constructor
  · rintro ⟨i, hi, h2⟩; exact ⟨i, hi, (h i).1 h2⟩
  · rintro ⟨i, hi, h2⟩; exact ⟨i, hi, (h i).2 h2⟩
theorem setL_succ (n : Nat) (p : Nat → Bool) : setL (n + 1) p = setL n p ++ if p n = true then [(n : Int)] else [] := by
  unfold setL
  rw [List.range_succ, List.filter_append, List.map_append]
  congr 1
  cases h : p n with
  | true => rw [List.filter_cons_of_pos h]; rfl
  | false => rw [List.filter_cons_of_neg (by rw [h]; simp)]; rfl


def digB (b : UInt8) : Bool := decide (48 ≤ b.toNat) && decide (b.toNat ≤ 55)
def digV (b : UInt8) : Nat := b.toNat - 48
def triT (r : Nat) : Nat := r * (r + 1) / 2
def digM (v c : Nat) : Nat := v * 2 ^ (3 * c)
def outP (r q M : Nat) : List UInt8 → List (List UInt8) → Int × List Int × Bool
 | [], [] => if r < 5 ∧ q = r + 1 then (((r + 1 : Nat) : Int), bitsI M, true) else (0, [], false)
 | [], p :: rest => if r < 5 ∧ q = r + 1 then outP (r + 1) 0 M p rest else (0, [], false)
 | b :: t, rest => if (r < 5 ∧ digB b = true) ∧ q ≤ r then outP r (q + 1) (M ||| digM (digV b) (triT r + q)) t rest else (0, [], false)
termination_by p rest => (rest.length, p.length)
theorem outP_far : ∀ (rest : List (List UInt8)) (p : List UInt8) (r q M : Nat), 5 ≤ r + rest.length → outP r q M p rest = (0, [], false)
 | rest, b :: t, r, q, M, h => by
  rw [outP]
  split
  ·exact outP_far rest t r _ _ h
  ·rfl
 | [], [], r, q, M, h => by
  rw [outP, if_neg (by simp at h; omega)]
 | p :: rest, [], r, q, M, h => by
  rw [outP]
  split
  ·exact outP_far rest p (r + 1) _ _ (by simp at h; omega)
  ·rfl
termination_by rest p => (rest.length, p.length)
theorem triT_suc (r : Nat) : triT (r + 1) = triT r + (r + 1) := by
 unfold triT
 rw [show (r + 1) * (r + 1 + 1) = r * (r + 1) + 2 * (r + 1) by rw [Nat.add_mul, Nat.mul_add, Nat.mul_add]; omega]
 omega
theorem triT_le {r : Nat} (h : r ≤ 5) : triT r ≤ 15 := by
 rcases (show r = 0 ∨ r = 1 ∨ r = 2 ∨ r = 3 ∨ r = 4 ∨ r = 5 by omega) with rfl | rfl | rfl | rfl | rfl | rfl <;> decide
theorem digV_lt {b : UInt8} (h : digB b = true) : digV b < 8 := by
 unfold digB at h
 rw [Bool.and_eq_true, decide_eq_true_iff, decide_eq_true_iff] at h
 unfold digV
 omega
theorem digM_lt {v c : Nat} (hv : v < 8) : digM v c < 2 ^ (3 * (c + 1)) := by
 unfold digM
 rw [Nat.mul_add, Nat.pow_add]
 have h := Nat.two_pow_pos (3 * c)
 calc v * 2 ^ (3 * c) < 8 * 2 ^ (3 * c) := Nat.mul_lt_mul_of_pos_right hv h
  _ = 2 ^ (3 * c) * 2 ^ (3 * 1) := by rw [Nat.mul_comm]
theorem or_digM {M v c : Nat} (hM : M < 2 ^ (3 * c)) (hv : v < 8) : M ||| digM v c < 2 ^ (3 * (c + 1)) :=
 Nat.or_lt_two_pow (Nat.lt_of_lt_of_le hM (Nat.pow_le_pow_right (by omega) (by omega))) (digM_lt hv)
theorem cell60 {M c : Nat} (hM : M < 2 ^ (3 * c)) (hc : c ≤ 15) : M < 2 ^ 60 := Nat.lt_of_lt_of_le hM (Nat.pow_le_pow_right (by omega) (by omega))
theorem digM_spec {v c : Nat} (hv : v < 8) (hc : c ≤ 14) : shl .i64 (v : Int) ((3 * c : Nat) : Int) = ((digM v c : Nat) : Int) := by
 unfold shl digM
 have h := digM_lt (c := c) hv
 unfold digM at h
 have h2 : v * 2 ^ (3 * c) < 2 ^ 60 := Nat.lt_of_lt_of_le h (Nat.pow_le_pow_right (by omega) (by omega))
 rw [Int.toNat_natCast, show min (3 * c) IntKind.i64.bits = 3 * c from Nat.min_eq_left (by show 3 * c ≤ 64; omega)]
 have e : ((v : Int) * 2 ^ (3 * c)) = ((v * 2 ^ (3 * c) : Nat) : Int) := by push_cast; rfl
 rw [e]
 exact i64_small _ (by exact_mod_cast Nat.zero_le _) (by exact_mod_cast h2)
theorem digM_bits {v c : Nat} (hv : v < 8) : digM v c = ((if v.testBit 0 then 2 ^ (3 * c) else 0) ||| (if v.testBit 1 then 2 ^ (3 * c + 1) else 0)) ||| (if v.testBit 2 then 2 ^ (3 * c + 2) else 0) := by
 unfold digM
 apply Nat.eq_of_testBit_eq
 intro i
 rw [Nat.mul_comm, Nat.testBit_two_pow_mul, Nat.testBit_or, Nat.testBit_or]
 have t : ∀ (b : Bool) (n : Nat), (if b = true then 2 ^ n else 0).testBit i = (b && decide (n = i)) := fun b n => by
  cases b
  ·simp
  ·rw [if_pos rfl, Nat.testBit_two_pow, Bool.true_and]
 rw [t, t, t]
 by_cases h : 3 * c ≤ i
 ·obtain ⟨j, rfl⟩ : ∃ j, i = 3 * c + j := ⟨i - 3 * c, by omega⟩
  rw [show 3 * c + j - 3 * c = j by omega, decide_eq_true h, Bool.true_and]
  rcases (show j = 0 ∨ j = 1 ∨ j = 2 ∨ 3 ≤ j by omega) with rfl | rfl | rfl | hj
  ·simp
  ·simp
  ·simp
  ·rw [Nat.testBit_lt_two_pow (Nat.lt_of_lt_of_le hv (show 8 ≤ 2 ^ j from by have h9 := Nat.pow_le_pow_right (n := 2) (by omega) hj; simpa using h9))]
   simp [show ¬ 3 * c = 3 * c + j by omega, show ¬ 1 = j by omega, show ¬ 2 = j by omega]
   omega
 ·simp [h, show ¬ 3 * c = i by omega, show ¬ 3 * c + 1 = i by omega, show ¬ 3 * c + 2 = i by omega]
theorem wrapS {x : Int} (h0 : -1000000000 ≤ x) (h1 : x ≤ 1000000000) : wrap64 x = x := by unfold wrap64; omega
theorem trCells_f (n : Nat) (h : n ≤ 100) : spec_trCells.f (n : Int) = some ((triT n : Nat) : Int) := by
 have h1 : n * (n + 1) ≤ 100 * 101 := Nat.mul_le_mul h (by omega)
 have e : (n : Int) * ((n : Int) + 1) = ((n * (n + 1) : Nat) : Int) := by push_cast; rfl
 unfold spec_trCells.f triT
 rw [wrapS (x := (n : Int) + 1) (by omega) (by omega), e]
 generalize n * (n + 1) = m at h1 ⊢
 rw [wrapS (x := (m : Int)) (by omega) (by omega), Int.tdiv_eq_ediv_of_nonneg (by omega), wrapS (by omega) (by omega)]
 congr 1
theorem testBit_shr (M i : Nat) (hi : i ≤ 60) : (Int.tmod (shr .i64 (M : Int) (i : Int)) 2 = 1) ↔ M.testBit i = true := by
 unfold shr
 rw [Int.toNat_natCast, show min i IntKind.i64.bits = i from Nat.min_eq_left (by show i ≤ 64; omega)]
 have e : ((M : Int) / 2 ^ i) = ((M / 2 ^ i : Nat) : Int) := by push_cast; rfl
 rw [e, Nat.testBit_eq_decide_div_mod_eq, decide_eq_true_iff]
 generalize M / 2 ^ i = z
 rw [Int.tmod_eq_emod_of_nonneg (by omega)]
 omega
theorem trOf_l0 (n M : Nat) (hn : n ≤ 5) : ∀ (d k i : Nat), 3 * triT n - i = d → i ≤ 3 * triT n → d < k → spec_trOf.l0 k (n : Int) (M : Int) (i : Int) (n : Int) (setL i fun j => M.testBit j) = some ((n : Int), setL (3 * triT n) fun j => M.testBit j) := by
 have hT := triT_le hn
 intro d
 induction d with
 | zero =>
  intro k i h1 h2 h3
  obtain ⟨k, rfl⟩ : ∃ q, k = q + 1 := ⟨k - 1, by omega⟩
  obtain rfl : i = 3 * triT n := by omega
  simp only [spec_trOf.l0]
  rw [trCells_f n (by omega), Option.bind_some, wrapS (by omega) (by omega), if_neg (by omega)]
 | succ d ih =>
  intro k i h1 h2 h3
  obtain ⟨k, rfl⟩ : ∃ q, k = q + 1 := ⟨k - 1, by omega⟩
  have ih2 := ih k (i + 1) (by omega) (by omega) (by omega)
  have hl := setL_len i (fun j => M.testBit j)
  simp only [spec_trOf.l0]
  rw [trCells_f n (by omega), Option.bind_some, wrapS (x := 3 * ((triT n : Nat) : Int)) (by omega) (by omega), if_pos (by omega), if_pos (by omega), wrapS (x := (i : Int) + 1) (by omega) (by omega)]
  rw [setL_succ] at ih2
  by_cases hb : M.testBit i = true
  ·rw [if_pos ((testBit_shr M i (by omega)).2 hb), if_pos (by omega)]
   rw [if_pos hb] at ih2
   exact ih2
  ·rw [if_neg (fun h => hb ((testBit_shr M i (by omega)).1 h))]
   rw [if_neg hb, List.append_nil] at ih2
   exact ih2
theorem trOf_f (n M : Nat) (hn : n ≤ 5) (hM : M < 2 ^ (3 * triT n)) (k : Nat) (hk : 100 < k) : spec_trOf.f k (n : Int) (M : Int) = some ((n : Int), bitsI M) := by
 have hT := triT_le hn
 have h := trOf_l0 n M hn (3 * triT n) k 0 (by omega) (by omega) (by omega)
 have e0 : setL 0 (fun j => M.testBit j) = [] := rfl
 rw [e0] at h
 unfold spec_trOf.f
 have e1 : ((0 : Nat) : Int) = 0 := rfl
 rw [e1] at h
 rw [h]
 congr 2
 show _ = setL 64 (fun j => M.testBit j)
 refine setL_eq (fun i => ?_)
 constructor
 ·rintro ⟨h1, h2⟩; exact ⟨by omega, h2⟩
 ·rintro ⟨h1, h2⟩
  refine ⟨?_, h2⟩
  by_cases hi : i < 3 * triT n
  ·exact hi
  ·rw [Nat.testBit_lt_two_pow (Nat.lt_of_lt_of_le hM (Nat.pow_le_pow_right (by omega) (by omega)))] at h2
   cases h2
theorem wrap3 (n : Nat) (h : n ≤ 100) : wrap64 (3 * (n : Int)) = ((3 * n : Nat) : Int) := by unfold wrap64; omega
theorem wrapN1 (n : Nat) (h : n ≤ 1000000000) : wrap64 ((n : Int) + 1) = ((n + 1 : Nat) : Int) := by unfold wrap64; omega
theorem digV_int {b : UInt8} (h : 48 ≤ b.toNat) : ((b.toNat : Int) - 48) % 256 = ((digV b : Nat) : Int) := by
 have := b.toNat_lt
 unfold digV
 omega
theorem digB_no {b : UInt8} (h : ¬ (48 ≤ b.toNat ∧ b.toNat ≤ 55)) : digB b = false := by
 unfold digB
 rw [Bool.eq_false_iff]
 intro h2
 rw [Bool.and_eq_true, decide_eq_true_iff, decide_eq_true_iff] at h2
 exact h h2
theorem byte47 (b : UInt8) : ((b.toNat : Int) = 47) ↔ b = 47 := ⟨fun h => UInt8.toNat_inj.1 (by show b.toNat = 47; omega), fun h => by rw [h]; rfl⟩
set_option maxHeartbeats 1000000 in
theorem specTri_l0 (s : ByteArray) (hs : s.size ≤ 1000000) : ∀ (d k i : Nat) (p : List UInt8) (rest : List (List UInt8)) (r q M : Nat), s.size - i = d → i ≤ s.size → s.data.toList.drop i = joinL 47 (p :: rest) → 47 ∉ p → (∀ x ∈ rest, 47 ∉ x) → r ≤ 5 → q ≤ r + 1 → (r = 5 → q = 0) → M < 2 ^ (3 * (triT r + q)) → 2 * d + 200 < k →
  spec_ParseTri.l0 k s (M : Int) ((triT r + q : Nat) : Int) (r : Int) (q : Int) (i : Int) = some (outP r q M p rest) := by
 have hlen : s.data.toList.length = s.size := by simp
 intro d
 induction d with
 | zero =>
  intro k i p rest r q M h1 h2 hd hp hr hr5 hq hq0 hM hk
  have HM := Aside0.mk hM
  clear hM
  obtain ⟨k, rfl⟩ : ∃ z, k = z + 1 := ⟨k - 1, by omega⟩
  obtain rfl : i = s.size := by omega
  rw [List.drop_of_length_le (by omega)] at hd
  obtain ⟨rfl, rfl⟩ : p = [] ∧ rest = [] := by
   cases rest with
   | nil => exact ⟨hd.symm, rfl⟩
   | cons x y =>
    exfalso
    have := congrArg List.length hd
    simp [joinL] at this
  have hT := triT_le hr5
  rw [spec_ParseTri.l0, if_neg (by omega), outP]
  by_cases c1 : (r : Int) ≥ 5
  ·rw [if_pos c1, if_neg (by omega)]
  ·rw [if_neg c1, wrapN1 r (by omega)]
   by_cases c2 : (q : Int) = ((r + 1 : Nat) : Int)
   ·have hq1 : q = r + 1 := by omega
    subst hq1
    rw [if_pos c2, if_pos ⟨by omega, rfl⟩]
    rw [trOf_f (r + 1) M (by omega) (by rw [triT_suc]; exact HM.out) k (by omega), Option.bind_some]
   ·rw [if_neg c2, if_neg (by omega)]
 | succ d ih =>
  intro k i p rest r q M h1 h2 hd hp hr hr5 hq hq0 hM hk
  have HM := Aside0.mk hM
  clear hM
  obtain ⟨k, rfl⟩ : ∃ z, k = z + 1 + 1 := ⟨k - 2, by omega⟩
  have hi : i < s.size := by omega
  have hil : i < s.data.toList.length := by omega
  have hT := triT_le hr5
  have hbt : bt s (i : Int) = ((s.data.toList[i].toNat : Nat) : Int) := by
   unfold bt
   rw [Int.toNat_natCast, dif_pos (by omega)]
   rfl
  rw [List.drop_eq_getElem_cons hil] at hd
  rw [spec_ParseTri.l0, if_pos (by omega)]
  generalize s.data.toList[i] = b at hbt hd
  by_cases c1 : (r : Int) ≥ 5
  ·rw [if_pos c1]
   have hr5' : r = 5 := by omega
   rw [outP_far rest p r q M (by omega)]
  ·rw [if_neg c1, if_pos (by omega), hbt, wrapN1 r (by omega)]
   have hr4 : r < 5 := by omega
   have hT5 : triT r + r ≤ 14 := by
    have h9 := triT_le (r := r + 1) (by omega)
    rw [triT_suc] at h9
    omega
   cases p with
   | nil =>
    cases rest with
    | nil => simp [joinL] at hd
    | cons p2 rest2 =>
     have hd2 : b :: s.data.toList.drop (i + 1) = 47 :: joinL 47 (p2 :: rest2) := hd
     injection hd2 with hb47 hd3
     have hb47' := (byte47 b).2 hb47
     rw [if_pos hb47', spec_ParseTri.j1]
     by_cases c2 : q = r + 1
     ·subst c2
      rw [if_pos (beq_self_eq_true _), wrapN1 r (by omega), wrapN1 i (by omega), outP, if_pos ⟨hr4, rfl⟩]
      have := ih k (i + 1) p2 rest2 (r + 1) 0 M (by omega) (by omega) hd3 (hr p2 List.mem_cons_self) (fun x hx => hr x (List.mem_cons_of_mem _ hx)) (by omega) (by omega) (fun _ => rfl) (by rw [triT_suc]; exact HM.out) (by omega)
      rw [triT_suc] at this
      exact this
     ·have c3 : ((q : Int) == ((r + 1 : Nat) : Int)) = false := by
       rw [beq_eq_false_iff_ne]
       intro h
       exact c2 (by exact_mod_cast h)
      rw [c3, if_neg (by simp), if_pos (by omega), if_pos (by omega), hbt, if_neg (by omega), outP, if_neg (fun h => c2 h.2)]
   | cons b2 t =>
    have hd2 : b = b2 ∧ s.data.toList.drop (i + 1) = joinL 47 (t :: rest) := by
     cases rest with
     | nil =>
      have hd3 : b :: s.data.toList.drop (i + 1) = b2 :: t := hd
      injection hd3 with e1 e2
      exact ⟨e1, e2⟩
     | cons p2 rest2 =>
      have hd3 : b :: s.data.toList.drop (i + 1) = b2 :: (t ++ 47 :: joinL 47 (p2 :: rest2)) := hd
      injection hd3 with e1 e2
      exact ⟨e1, e2⟩
    obtain ⟨rfl, hd3⟩ := hd2
    have hne : ¬ (b.toNat : Int) = 47 := fun h => hp (by rw [(byte47 b).1 h]; exact List.mem_cons_self)
    rw [if_neg hne, spec_ParseTri.j1, if_neg (by simp), if_pos (by omega), if_pos (by omega), hbt, outP]
    by_cases c3 : 48 ≤ b.toNat
    ·rw [if_pos (show (b.toNat : Int) ≥ 48 by omega)]
     by_cases c4 : b.toNat ≤ 55
     ·rw [if_pos (show (b.toNat : Int) ≤ 55 by omega)]
      have hdg : digB b = true := by unfold digB; rw [decide_eq_true c3, decide_eq_true c4]; rfl
      by_cases c5 : q ≤ r
      ·have hv := digV_lt hdg
       have hcell : triT r + q ≤ 14 := by omega
       have hih := ih k (i + 1) t rest r (q + 1) (M ||| digM (digV b) (triT r + q)) (by omega) (by omega) hd3 (fun h => hp (List.mem_cons_of_mem _ h)) hr hr5 (by omega) (fun h => by omega) (or_digM HM.out hv) (by omega)
       have h100 : triT r + q ≤ 100 := by omega
       have hq9 : q ≤ 1000000000 := by omega
       have hi9 : i ≤ 1000000000 := by omega
       have hc9 : triT r + q ≤ 1000000000 := by omega
       have hc15 : triT r + q ≤ 15 := by omega
       have hc15' : triT r + q + 1 ≤ 15 := by omega
       have h0 : (0 : Int) ≤ ((3 * (triT r + q) : Nat) : Int) := Int.natCast_nonneg _
       have c5' : (q : Int) ≤ (r : Int) := by omega
       clear ih hbt
       rw [if_pos c5', wrap3 _ h100, if_pos h0, if_pos ⟨⟨hr4, hdg⟩, c5⟩, digV_int c3, digM_spec hv hcell, or_i64 M _ (cell60 HM.out hc15) (cell60 (digM_lt hv) hc15'), wrapN1 i hi9, wrapN1 _ hc9, wrapN1 q hq9]
       exact hih
      ·rw [if_neg (by omega), if_neg (fun h => c5 h.2)]
     ·rw [if_neg (by omega), if_neg (fun h => by rw [digB_no (fun h => c4 h.2)] at h; exact absurd h.1.2 (by simp))]
    ·rw [if_neg (by omega), if_neg (fun h => by rw [digB_no (fun h => c3 h.1)] at h; exact absurd h.1.2 (by simp))]
theorem specTri_f (s : ByteArray) (hs : s.size ≤ 1000000) (p : List UInt8) (rest : List (List UInt8)) (hc : cutL 47 s.data.toList = p :: rest) (k : Nat) (hk : 3000000 < k) : spec_ParseTri.f k s = some (outP 0 0 0 p rest) := by
 have hj := join_cut 47 s.data.toList
 have hf := cut_free 47 s.data.toList
 rw [hc] at hj hf
 unfold spec_ParseTri.f
 exact specTri_l0 s hs s.size k 0 p rest 0 0 0 (by omega) (by omega) (by rw [List.drop_zero]; exact hj.symm) (hf p List.mem_cons_self) (fun x hx => hf x (List.mem_cons_of_mem _ hx)) (by omega) (by omega) (fun h => by omega) (Nat.two_pow_pos _) (by omega)

end Go.Proofs.YtjoaaicbnojoaaaDoor.P
