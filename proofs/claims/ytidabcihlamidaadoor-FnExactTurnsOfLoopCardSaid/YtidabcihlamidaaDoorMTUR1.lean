/- For every input the law FnExactTurnsOfLoop answers true: the program's TurnsOfLoop tells what the reference's TurnsOfLoop tells; no condition. (part 1 of the proof; the words of the kit's print tool and the texts of this seat, merged by a program) -/
import Derived.ArgAppend
import Derived.Below
import Derived.BigQuiet
import Derived.Deep.AppendLies
import Derived.Deep.CutBlock
import Derived.Deep.DeepCutAuto
import Derived.Deep.Draws
import Derived.Deep.LoopGhost
import Derived.Deep.OwnRows
import Derived.Deep.QuietTactic
import Derived.Deep.RegionHeld3
import Derived.Deep.RegionLaw
import Derived.DeepKeys4
import Derived.IntWalk
import Derived.KernelRfl
import Derived.Laws.BitsLemmas
import Derived.Laws.BytesArg
import Derived.Laws.IdiomCopy
import Derived.Laws.IdiomStrings
import Derived.Laws.MakeOwn
import Derived.Laws.OwnMore
import Derived.Laws.RangeString
import Derived.Laws.Rows
import Derived.Laws.Slices
import Derived.Lib.AppendStr
import Derived.Lib.ConvBytes
import Derived.Lib.SlBytesConst
import Derived.Maps.AppendAt
import Derived.Maps.OwnSet
import Derived.OrdersHeld
import Derived.OwnWalk
import Derived.RowKit
import Derived.RowKit3
import Derived.Shelf.Abstract
import Derived.Shelf.Strings.SlTrimAscii
import Derived.Tactics
import Derived.Test.YtidabcihlamidaaDoorProg
import Derived.Test.YtidabcihlamidaaDoorPshelf
import Derived.WalkKit
import Derived.WideLaws
import Derived.Test.YtidabcihlamidaaDoorMTUR0
namespace Go.Proofs.YtidabcihlamidaaDoor.P
open Go.RowKit Go.Proofs.YtidabcihlamidaaDoorW.PrintWords Go.Proofs.YtidabcihlamidaaDoorW.PrintLast Go.Proofs.YtidabcihlamidaaDoorW.PrintMore
attribute [local go_sem] max2_int min2_int max_two min_two max_three min_three max_four min_four   -- for this text's walks alone
set_option linter.unusedVariables false
set_option linter.unusedSimpArgs false



def errW : Option Int → Value
  | none => .nilIface
  | some c => .iface 0 (.int .i64 c)
theorem errW_none : errW none = .nilIface := rfl
theorem errW_some (c : Int) : errW (some c) = .iface 0 (.int .i64 c) := rfl

theorem info39 : (Tryd.prog.info? 39).map (fun i => (i.zero, i.size, i.bytes)) = some (some (.agg #[(.int .i64 0), (.int .i64 0)]), 2, 16) := by kernel_rfl
structure S39 where
  f0 : Int
  f1 : Int
def z39 : S39 := ⟨(0 : Int), (0 : Int)⟩
def k39 : Kd S39 := Kd.iso (Kd.pair (Kd.int .i64) (Kd.int .i64)) (fun x : S39 => (x.f0, x.f1))
theorem k39_open {w : World} {x : S39} {cs : List Value} (h : k39.K w x cs) : cs = [.int .i64 x.f0, .int .i64 x.f1] := by
  obtain ⟨_, _, rfl, rfl, rfl⟩ := h
  exact rfl
theorem k39_mkM (w : World) (base : Nat) (ok : Nat → Prop) (x : S39)  : k39.M w base ok x [.int .i64 x.f0, .int .i64 x.f1] := ⟨[.int .i64 x.f0], [.int .i64 x.f1], rfl, rfl, rfl⟩
def rd_T39 (xs : List S39) (i : Int) : S39 := xs.getD i.toNat z39
theorem at_T39 {w : World} {A : Option Addr} {n : Nat} {xs : List S39} (h : Kd.C k39 w A n xs) (i : Int) (h0 : 0 ≤ i) (h1 : i < n) : ∃ ad , A = some ad ∧ w.cell? (ad.add (i.toNat * 2)) = some (.int .i64 (rd_T39 xs i).f0) ∧ w.cell? ⟨(ad.add (i.toNat * 2)).block, (ad.add (i.toNat * 2)).off + 1, none⟩ = some (.int .i64 (rd_T39 xs i).f1) := by
  obtain ⟨ad, c, e, _, hK, hc0⟩ := Kd.C_get h z39 i h0 h1
  have hc : ∀ j u, c[j]? = some u → w.cell? (ad.add (i.toNat * 2 + j)) = some u := hc0
  obtain rfl := k39_open hK
  exact ⟨ad, e, hc 0 _ rfl, by rw [← add_field _ _ 1 (by omega)]; exact hc 1 _ rfl⟩

end Go.Proofs.YtidabcihlamidaaDoor.P
namespace Go.Proofs.YtidabcihlamidaaDoor.P
open Go.RowKit Go.Proofs.YtidabcihlamidaaDoorW.PrintWords Go.Proofs.YtidabcihlamidaaDoorW.PrintLast Go.Proofs.YtidabcihlamidaaDoorW.PrintMore
theorem bk_ {A B : Prop} (a_ : A) (h : A → B := by (intro a_; (with_reducible repeat (first | refine blk_drewN ?_ _ | refine blk_drew ?_ | refine blk_alloc ?_ _)); exact a_)) : B := h a_
theorem bf1_ {A B N1 : Prop} (n1_ : N1) (a_ : A) (h : N1 → A → B := by (intro n1_ a_; (with_reducible repeat (first | refine blk_drewN ?_ _ | refine blk_drew ?_ | refine blk_alloc ?_ _)); refine blk_far ?_ n1_ _; (with_reducible repeat (first | refine blk_drewN ?_ _ | refine blk_drew ?_ | refine blk_alloc ?_ _)); exact a_)) : B := h n1_ a_
theorem bf2_ {A B N1 N2 : Prop} (n1_ : N1) (n2_ : N2) (a_ : A) (h : N1 → N2 → A → B := by (intro n1_ n2_ a_; (with_reducible repeat (first | refine blk_drewN ?_ _ | refine blk_drew ?_ | refine blk_alloc ?_ _)); refine blk_far ?_ n1_ _; (with_reducible repeat (first | refine blk_drewN ?_ _ | refine blk_drew ?_ | refine blk_alloc ?_ _)); refine blk_far ?_ n2_ _; (with_reducible repeat (first | refine blk_drewN ?_ _ | refine blk_drew ?_ | refine blk_alloc ?_ _)); exact a_)) : B := h n1_ n2_ a_
theorem bf3_ {A B N1 N2 N3 : Prop} (n1_ : N1) (n2_ : N2) (n3_ : N3) (a_ : A) (h : N1 → N2 → N3 → A → B := by (intro n1_ n2_ n3_ a_; (with_reducible repeat (first | refine blk_drewN ?_ _ | refine blk_drew ?_ | refine blk_alloc ?_ _)); refine blk_far ?_ n1_ _; (with_reducible repeat (first | refine blk_drewN ?_ _ | refine blk_drew ?_ | refine blk_alloc ?_ _)); refine blk_far ?_ n2_ _; (with_reducible repeat (first | refine blk_drewN ?_ _ | refine blk_drew ?_ | refine blk_alloc ?_ _)); refine blk_far ?_ n3_ _; (with_reducible repeat (first | refine blk_drewN ?_ _ | refine blk_drew ?_ | refine blk_alloc ?_ _)); exact a_)) : B := h n1_ n2_ n3_ a_
theorem bf4_ {A B N1 N2 N3 N4 : Prop} (n1_ : N1) (n2_ : N2) (n3_ : N3) (n4_ : N4) (a_ : A) (h : N1 → N2 → N3 → N4 → A → B := by (intro n1_ n2_ n3_ n4_ a_; (with_reducible repeat (first | refine blk_drewN ?_ _ | refine blk_drew ?_ | refine blk_alloc ?_ _)); refine blk_far ?_ n1_ _; (with_reducible repeat (first | refine blk_drewN ?_ _ | refine blk_drew ?_ | refine blk_alloc ?_ _)); refine blk_far ?_ n2_ _; (with_reducible repeat (first | refine blk_drewN ?_ _ | refine blk_drew ?_ | refine blk_alloc ?_ _)); refine blk_far ?_ n3_ _; (with_reducible repeat (first | refine blk_drewN ?_ _ | refine blk_drew ?_ | refine blk_alloc ?_ _)); refine blk_far ?_ n4_ _; (with_reducible repeat (first | refine blk_drewN ?_ _ | refine blk_drew ?_ | refine blk_alloc ?_ _)); exact a_)) : B := h n1_ n2_ n3_ n4_ a_
theorem bf5_ {A B N1 N2 N3 N4 N5 : Prop} (n1_ : N1) (n2_ : N2) (n3_ : N3) (n4_ : N4) (n5_ : N5) (a_ : A) (h : N1 → N2 → N3 → N4 → N5 → A → B := by (intro n1_ n2_ n3_ n4_ n5_ a_; (with_reducible repeat (first | refine blk_drewN ?_ _ | refine blk_drew ?_ | refine blk_alloc ?_ _)); refine blk_far ?_ n1_ _; (with_reducible repeat (first | refine blk_drewN ?_ _ | refine blk_drew ?_ | refine blk_alloc ?_ _)); refine blk_far ?_ n2_ _; (with_reducible repeat (first | refine blk_drewN ?_ _ | refine blk_drew ?_ | refine blk_alloc ?_ _)); refine blk_far ?_ n3_ _; (with_reducible repeat (first | refine blk_drewN ?_ _ | refine blk_drew ?_ | refine blk_alloc ?_ _)); refine blk_far ?_ n4_ _; (with_reducible repeat (first | refine blk_drewN ?_ _ | refine blk_drew ?_ | refine blk_alloc ?_ _)); refine blk_far ?_ n5_ _; (with_reducible repeat (first | refine blk_drewN ?_ _ | refine blk_drew ?_ | refine blk_alloc ?_ _)); exact a_)) : B := h n1_ n2_ n3_ n4_ n5_ a_
theorem bf6_ {A B N1 N2 N3 N4 N5 N6 : Prop} (n1_ : N1) (n2_ : N2) (n3_ : N3) (n4_ : N4) (n5_ : N5) (n6_ : N6) (a_ : A) (h : N1 → N2 → N3 → N4 → N5 → N6 → A → B := by (intro n1_ n2_ n3_ n4_ n5_ n6_ a_; (with_reducible repeat (first | refine blk_drewN ?_ _ | refine blk_drew ?_ | refine blk_alloc ?_ _)); refine blk_far ?_ n1_ _; (with_reducible repeat (first | refine blk_drewN ?_ _ | refine blk_drew ?_ | refine blk_alloc ?_ _)); refine blk_far ?_ n2_ _; (with_reducible repeat (first | refine blk_drewN ?_ _ | refine blk_drew ?_ | refine blk_alloc ?_ _)); refine blk_far ?_ n3_ _; (with_reducible repeat (first | refine blk_drewN ?_ _ | refine blk_drew ?_ | refine blk_alloc ?_ _)); refine blk_far ?_ n4_ _; (with_reducible repeat (first | refine blk_drewN ?_ _ | refine blk_drew ?_ | refine blk_alloc ?_ _)); refine blk_far ?_ n5_ _; (with_reducible repeat (first | refine blk_drewN ?_ _ | refine blk_drew ?_ | refine blk_alloc ?_ _)); refine blk_far ?_ n6_ _; (with_reducible repeat (first | refine blk_drewN ?_ _ | refine blk_drew ?_ | refine blk_alloc ?_ _)); exact a_)) : B := h n1_ n2_ n3_ n4_ n5_ n6_ a_
theorem bf7_ {A B N1 N2 N3 N4 N5 N6 N7 : Prop} (n1_ : N1) (n2_ : N2) (n3_ : N3) (n4_ : N4) (n5_ : N5) (n6_ : N6) (n7_ : N7) (a_ : A) (h : N1 → N2 → N3 → N4 → N5 → N6 → N7 → A → B := by (intro n1_ n2_ n3_ n4_ n5_ n6_ n7_ a_; (with_reducible repeat (first | refine blk_drewN ?_ _ | refine blk_drew ?_ | refine blk_alloc ?_ _)); refine blk_far ?_ n1_ _; (with_reducible repeat (first | refine blk_drewN ?_ _ | refine blk_drew ?_ | refine blk_alloc ?_ _)); refine blk_far ?_ n2_ _; (with_reducible repeat (first | refine blk_drewN ?_ _ | refine blk_drew ?_ | refine blk_alloc ?_ _)); refine blk_far ?_ n3_ _; (with_reducible repeat (first | refine blk_drewN ?_ _ | refine blk_drew ?_ | refine blk_alloc ?_ _)); refine blk_far ?_ n4_ _; (with_reducible repeat (first | refine blk_drewN ?_ _ | refine blk_drew ?_ | refine blk_alloc ?_ _)); refine blk_far ?_ n5_ _; (with_reducible repeat (first | refine blk_drewN ?_ _ | refine blk_drew ?_ | refine blk_alloc ?_ _)); refine blk_far ?_ n6_ _; (with_reducible repeat (first | refine blk_drewN ?_ _ | refine blk_drew ?_ | refine blk_alloc ?_ _)); refine blk_far ?_ n7_ _; (with_reducible repeat (first | refine blk_drewN ?_ _ | refine blk_drew ?_ | refine blk_alloc ?_ _)); exact a_)) : B := h n1_ n2_ n3_ n4_ n5_ n6_ n7_ a_
theorem bf8_ {A B N1 N2 N3 N4 N5 N6 N7 N8 : Prop} (n1_ : N1) (n2_ : N2) (n3_ : N3) (n4_ : N4) (n5_ : N5) (n6_ : N6) (n7_ : N7) (n8_ : N8) (a_ : A) (h : N1 → N2 → N3 → N4 → N5 → N6 → N7 → N8 → A → B := by (intro n1_ n2_ n3_ n4_ n5_ n6_ n7_ n8_ a_; (with_reducible repeat (first | refine blk_drewN ?_ _ | refine blk_drew ?_ | refine blk_alloc ?_ _)); refine blk_far ?_ n1_ _; (with_reducible repeat (first | refine blk_drewN ?_ _ | refine blk_drew ?_ | refine blk_alloc ?_ _)); refine blk_far ?_ n2_ _; (with_reducible repeat (first | refine blk_drewN ?_ _ | refine blk_drew ?_ | refine blk_alloc ?_ _)); refine blk_far ?_ n3_ _; (with_reducible repeat (first | refine blk_drewN ?_ _ | refine blk_drew ?_ | refine blk_alloc ?_ _)); refine blk_far ?_ n4_ _; (with_reducible repeat (first | refine blk_drewN ?_ _ | refine blk_drew ?_ | refine blk_alloc ?_ _)); refine blk_far ?_ n5_ _; (with_reducible repeat (first | refine blk_drewN ?_ _ | refine blk_drew ?_ | refine blk_alloc ?_ _)); refine blk_far ?_ n6_ _; (with_reducible repeat (first | refine blk_drewN ?_ _ | refine blk_drew ?_ | refine blk_alloc ?_ _)); refine blk_far ?_ n7_ _; (with_reducible repeat (first | refine blk_drewN ?_ _ | refine blk_drew ?_ | refine blk_alloc ?_ _)); refine blk_far ?_ n8_ _; (with_reducible repeat (first | refine blk_drewN ?_ _ | refine blk_drew ?_ | refine blk_alloc ?_ _)); exact a_)) : B := h n1_ n2_ n3_ n4_ n5_ n6_ n7_ n8_ a_
theorem bl0_ {A B  : Prop} (a_ : A)  (h : A → B := by (intro a_ ; repeat (first | (with_reducible first | exact a_ | apply below_alloc | apply pw_below_drewN | apply below_drew1) | exact a_))) : B := h a_ 
theorem bl1_ {A B N1 : Prop} (a_ : A) (n1_ : N1) (h : A → N1 → B := by (intro a_ n1_; repeat (first | (with_reducible first | exact a_ | apply below_alloc | apply pw_below_drewN | apply below_drew1 | refine below_set ?_ n1_) | exact a_))) : B := h a_ n1_
theorem bl2_ {A B N1 N2 : Prop} (a_ : A) (n1_ : N1) (n2_ : N2) (h : A → N1 → N2 → B := by (intro a_ n1_ n2_; repeat (first | (with_reducible first | exact a_ | apply below_alloc | apply pw_below_drewN | apply below_drew1 | refine below_set ?_ n1_ | refine below_set ?_ n2_) | exact a_))) : B := h a_ n1_ n2_
theorem bl3_ {A B N1 N2 N3 : Prop} (a_ : A) (n1_ : N1) (n2_ : N2) (n3_ : N3) (h : A → N1 → N2 → N3 → B := by (intro a_ n1_ n2_ n3_; repeat (first | (with_reducible first | exact a_ | apply below_alloc | apply pw_below_drewN | apply below_drew1 | refine below_set ?_ n1_ | refine below_set ?_ n2_ | refine below_set ?_ n3_) | exact a_))) : B := h a_ n1_ n2_ n3_
theorem bl4_ {A B N1 N2 N3 N4 : Prop} (a_ : A) (n1_ : N1) (n2_ : N2) (n3_ : N3) (n4_ : N4) (h : A → N1 → N2 → N3 → N4 → B := by (intro a_ n1_ n2_ n3_ n4_; repeat (first | (with_reducible first | exact a_ | apply below_alloc | apply pw_below_drewN | apply below_drew1 | refine below_set ?_ n1_ | refine below_set ?_ n2_ | refine below_set ?_ n3_ | refine below_set ?_ n4_) | exact a_))) : B := h a_ n1_ n2_ n3_ n4_
theorem bl5_ {A B N1 N2 N3 N4 N5 : Prop} (a_ : A) (n1_ : N1) (n2_ : N2) (n3_ : N3) (n4_ : N4) (n5_ : N5) (h : A → N1 → N2 → N3 → N4 → N5 → B := by (intro a_ n1_ n2_ n3_ n4_ n5_; repeat (first | (with_reducible first | exact a_ | apply below_alloc | apply pw_below_drewN | apply below_drew1 | refine below_set ?_ n1_ | refine below_set ?_ n2_ | refine below_set ?_ n3_ | refine below_set ?_ n4_ | refine below_set ?_ n5_) | exact a_))) : B := h a_ n1_ n2_ n3_ n4_ n5_
theorem bl6_ {A B N1 N2 N3 N4 N5 N6 : Prop} (a_ : A) (n1_ : N1) (n2_ : N2) (n3_ : N3) (n4_ : N4) (n5_ : N5) (n6_ : N6) (h : A → N1 → N2 → N3 → N4 → N5 → N6 → B := by (intro a_ n1_ n2_ n3_ n4_ n5_ n6_; repeat (first | (with_reducible first | exact a_ | apply below_alloc | apply pw_below_drewN | apply below_drew1 | refine below_set ?_ n1_ | refine below_set ?_ n2_ | refine below_set ?_ n3_ | refine below_set ?_ n4_ | refine below_set ?_ n5_ | refine below_set ?_ n6_) | exact a_))) : B := h a_ n1_ n2_ n3_ n4_ n5_ n6_
theorem bl7_ {A B N1 N2 N3 N4 N5 N6 N7 : Prop} (a_ : A) (n1_ : N1) (n2_ : N2) (n3_ : N3) (n4_ : N4) (n5_ : N5) (n6_ : N6) (n7_ : N7) (h : A → N1 → N2 → N3 → N4 → N5 → N6 → N7 → B := by (intro a_ n1_ n2_ n3_ n4_ n5_ n6_ n7_; repeat (first | (with_reducible first | exact a_ | apply below_alloc | apply pw_below_drewN | apply below_drew1 | refine below_set ?_ n1_ | refine below_set ?_ n2_ | refine below_set ?_ n3_ | refine below_set ?_ n4_ | refine below_set ?_ n5_ | refine below_set ?_ n6_ | refine below_set ?_ n7_) | exact a_))) : B := h a_ n1_ n2_ n3_ n4_ n5_ n6_ n7_
theorem bl8_ {A B N1 N2 N3 N4 N5 N6 N7 N8 : Prop} (a_ : A) (n1_ : N1) (n2_ : N2) (n3_ : N3) (n4_ : N4) (n5_ : N5) (n6_ : N6) (n7_ : N7) (n8_ : N8) (h : A → N1 → N2 → N3 → N4 → N5 → N6 → N7 → N8 → B := by (intro a_ n1_ n2_ n3_ n4_ n5_ n6_ n7_ n8_; repeat (first | (with_reducible first | exact a_ | apply below_alloc | apply pw_below_drewN | apply below_drew1 | refine below_set ?_ n1_ | refine below_set ?_ n2_ | refine below_set ?_ n3_ | refine below_set ?_ n4_ | refine below_set ?_ n5_ | refine below_set ?_ n6_ | refine below_set ?_ n7_ | refine below_set ?_ n8_) | exact a_))) : B := h a_ n1_ n2_ n3_ n4_ n5_ n6_ n7_ n8_
theorem nl_ {w0 W : World} {g gb : Nat} {o : Obj} (hg : gb = W.heap.size) (a_ : w0.heap[g]? = some o) (h : w0.heap[g]? = some o → W.heap[g]? = some o := by (intro a_; (with_reducible repeat (first | refine blk_drewN ?_ _ | refine blk_drew ?_ | refine blk_alloc ?_ _)); exact a_)) : g ≠ gb := by rw [hg]; exact Nat.ne_of_lt (blk_lt (h a_))
theorem ng_ {w0 W : World} {g gb : Nat} {o : Obj} (hg : gb = W.heap.size) (a_ : w0.heap[g]? = some o) (h : w0.heap[g]? = some o → W.heap[g]? = some o := by (intro a_; (with_reducible repeat (first | refine blk_drewN ?_ _ | refine blk_drew ?_ | refine blk_alloc ?_ _)); exact a_)) : gb ≠ g := by rw [hg]; exact Nat.ne_of_gt (blk_lt (h a_))
theorem bb_ {w0 W W2 : World} {g : Nat} {o : Obj} (a_ : w0.heap[g]? = some o) (hb : Below W.heap.size W W2) (h : w0.heap[g]? = some o → W.heap[g]? = some o := by (intro a_; (with_reducible repeat (first | refine blk_drewN ?_ _ | refine blk_drew ?_ | refine blk_alloc ?_ _)); exact a_)) : W2.heap[g]? = some o := blk_below (h a_) hb
theorem bs0_ {A  : Prop} {w W : World} {gb : Nat} (hg : gb = W.heap.size) (a_ : A)  (h : A → Below w.heap.size w W := by (intro a_ ; repeat (first | (with_reducible first | exact a_ | apply below_alloc | apply pw_below_drewN | apply below_drew1) | exact a_))) : w.heap.size ≤ gb := by rw [hg]; exact below_size (h a_ )
theorem bs1_ {A N1 : Prop} {w W : World} {gb : Nat} (hg : gb = W.heap.size) (a_ : A) (n1_ : N1) (h : A → N1 → Below w.heap.size w W := by (intro a_ n1_; repeat (first | (with_reducible first | exact a_ | apply below_alloc | apply pw_below_drewN | apply below_drew1 | refine below_set ?_ n1_) | exact a_))) : w.heap.size ≤ gb := by rw [hg]; exact below_size (h a_ n1_)
theorem bs2_ {A N1 N2 : Prop} {w W : World} {gb : Nat} (hg : gb = W.heap.size) (a_ : A) (n1_ : N1) (n2_ : N2) (h : A → N1 → N2 → Below w.heap.size w W := by (intro a_ n1_ n2_; repeat (first | (with_reducible first | exact a_ | apply below_alloc | apply pw_below_drewN | apply below_drew1 | refine below_set ?_ n1_ | refine below_set ?_ n2_) | exact a_))) : w.heap.size ≤ gb := by rw [hg]; exact below_size (h a_ n1_ n2_)
theorem bs3_ {A N1 N2 N3 : Prop} {w W : World} {gb : Nat} (hg : gb = W.heap.size) (a_ : A) (n1_ : N1) (n2_ : N2) (n3_ : N3) (h : A → N1 → N2 → N3 → Below w.heap.size w W := by (intro a_ n1_ n2_ n3_; repeat (first | (with_reducible first | exact a_ | apply below_alloc | apply pw_below_drewN | apply below_drew1 | refine below_set ?_ n1_ | refine below_set ?_ n2_ | refine below_set ?_ n3_) | exact a_))) : w.heap.size ≤ gb := by rw [hg]; exact below_size (h a_ n1_ n2_ n3_)
theorem bs4_ {A N1 N2 N3 N4 : Prop} {w W : World} {gb : Nat} (hg : gb = W.heap.size) (a_ : A) (n1_ : N1) (n2_ : N2) (n3_ : N3) (n4_ : N4) (h : A → N1 → N2 → N3 → N4 → Below w.heap.size w W := by (intro a_ n1_ n2_ n3_ n4_; repeat (first | (with_reducible first | exact a_ | apply below_alloc | apply pw_below_drewN | apply below_drew1 | refine below_set ?_ n1_ | refine below_set ?_ n2_ | refine below_set ?_ n3_ | refine below_set ?_ n4_) | exact a_))) : w.heap.size ≤ gb := by rw [hg]; exact below_size (h a_ n1_ n2_ n3_ n4_)
theorem bs5_ {A N1 N2 N3 N4 N5 : Prop} {w W : World} {gb : Nat} (hg : gb = W.heap.size) (a_ : A) (n1_ : N1) (n2_ : N2) (n3_ : N3) (n4_ : N4) (n5_ : N5) (h : A → N1 → N2 → N3 → N4 → N5 → Below w.heap.size w W := by (intro a_ n1_ n2_ n3_ n4_ n5_; repeat (first | (with_reducible first | exact a_ | apply below_alloc | apply pw_below_drewN | apply below_drew1 | refine below_set ?_ n1_ | refine below_set ?_ n2_ | refine below_set ?_ n3_ | refine below_set ?_ n4_ | refine below_set ?_ n5_) | exact a_))) : w.heap.size ≤ gb := by rw [hg]; exact below_size (h a_ n1_ n2_ n3_ n4_ n5_)
theorem bs6_ {A N1 N2 N3 N4 N5 N6 : Prop} {w W : World} {gb : Nat} (hg : gb = W.heap.size) (a_ : A) (n1_ : N1) (n2_ : N2) (n3_ : N3) (n4_ : N4) (n5_ : N5) (n6_ : N6) (h : A → N1 → N2 → N3 → N4 → N5 → N6 → Below w.heap.size w W := by (intro a_ n1_ n2_ n3_ n4_ n5_ n6_; repeat (first | (with_reducible first | exact a_ | apply below_alloc | apply pw_below_drewN | apply below_drew1 | refine below_set ?_ n1_ | refine below_set ?_ n2_ | refine below_set ?_ n3_ | refine below_set ?_ n4_ | refine below_set ?_ n5_ | refine below_set ?_ n6_) | exact a_))) : w.heap.size ≤ gb := by rw [hg]; exact below_size (h a_ n1_ n2_ n3_ n4_ n5_ n6_)
theorem bs7_ {A N1 N2 N3 N4 N5 N6 N7 : Prop} {w W : World} {gb : Nat} (hg : gb = W.heap.size) (a_ : A) (n1_ : N1) (n2_ : N2) (n3_ : N3) (n4_ : N4) (n5_ : N5) (n6_ : N6) (n7_ : N7) (h : A → N1 → N2 → N3 → N4 → N5 → N6 → N7 → Below w.heap.size w W := by (intro a_ n1_ n2_ n3_ n4_ n5_ n6_ n7_; repeat (first | (with_reducible first | exact a_ | apply below_alloc | apply pw_below_drewN | apply below_drew1 | refine below_set ?_ n1_ | refine below_set ?_ n2_ | refine below_set ?_ n3_ | refine below_set ?_ n4_ | refine below_set ?_ n5_ | refine below_set ?_ n6_ | refine below_set ?_ n7_) | exact a_))) : w.heap.size ≤ gb := by rw [hg]; exact below_size (h a_ n1_ n2_ n3_ n4_ n5_ n6_ n7_)
theorem bs8_ {A N1 N2 N3 N4 N5 N6 N7 N8 : Prop} {w W : World} {gb : Nat} (hg : gb = W.heap.size) (a_ : A) (n1_ : N1) (n2_ : N2) (n3_ : N3) (n4_ : N4) (n5_ : N5) (n6_ : N6) (n7_ : N7) (n8_ : N8) (h : A → N1 → N2 → N3 → N4 → N5 → N6 → N7 → N8 → Below w.heap.size w W := by (intro a_ n1_ n2_ n3_ n4_ n5_ n6_ n7_ n8_; repeat (first | (with_reducible first | exact a_ | apply below_alloc | apply pw_below_drewN | apply below_drew1 | refine below_set ?_ n1_ | refine below_set ?_ n2_ | refine below_set ?_ n3_ | refine below_set ?_ n4_ | refine below_set ?_ n5_ | refine below_set ?_ n6_ | refine below_set ?_ n7_ | refine below_set ?_ n8_) | exact a_))) : w.heap.size ≤ gb := by rw [hg]; exact below_size (h a_ n1_ n2_ n3_ n4_ n5_ n6_ n7_ n8_)
theorem ap_ {A : Prop} (h : A := by (show Act.put _ (some _) _ = _; simp only [Act.put, List.setIfInBounds_toArray, List.set_cons_zero, List.set_cons_succ, i64_w, i32_w]; rfl)) : A := h
theorem er_ {A : Prop} (h : A := by (first | rfl | (simp [errW_none, errW_some] <;> rfl) | (simp [*, errW_none, errW_some] <;> rfl))) : A := h
theorem kr_ {A B : Prop} (a_ : A) (h : A → B := by (intro a_; (with_reducible repeat (first | apply Kd.R_alloc | apply Kd.R_drewN | apply Kd.R_drew)); exact a_)) : B := h a_
theorem kc_ {A B : Prop} (a_ : A) (h : A → B := by (intro a_; repeat (first | exact a_ | (with_reducible refine Kd.C_alloc ?_ _) | (with_reducible refine Kd.C_drewN ?_ _) | (with_reducible refine Kd.C_drew ?_)))) : B := h a_
theorem ob_ {A : Prop} (h : A := by ((try simp only [List.map_toArray, List.map_cons, List.map_nil]); first | done | rfl | (simp only [List.length_drop, List.length_take]; rfl))) : A := h
theorem rs_ {A : Prop} (h : A := by (first | rfl | (simp; done) | (simp [*]; done))) : A := h
theorem as_ {A : Prop} (h : A := by (first | (with_reducible assumption) | assumption)) : A := h
theorem boxE_ {P : Program} {ops : Array Oper} {Q : Exit → Act → World → Prop} {rest : List Oper} {a : Act} {o : Oper} {W : World} {N : Tmp} {cs : Array Value} {t : TypeId}
  (h : ∀ g, g = W.heap.size → ∀ w1, w1.heap[g]? = some (.cells cs t (0, 0)) → Below W.heap.size W w1 → wpList P ops Q rest (a.put o.dst (.pointer (some ⟨g, 0, none⟩))) w1)
  (hd : o.dst = some N := by rfl) (hg : o.guard = none := by rfl) (hr : (execOp a.eval o).run P W = .ok (.value (.pointer (some ⟨W.heap.size, 0, none⟩))) (W.alloc (.cells cs t (0, 0))) := by first | (go_simp; done) | (go_simp; rfl)) : wpList P ops Q (o :: rest) a W :=
 box_event hg hd hr h
end Go.Proofs.YtidabcihlamidaaDoor.P
namespace Go.Proofs.YtidabcihlamidaaDoor.P
open Go.RowKit Go.Proofs.YtidabcihlamidaaDoorW.PrintWords Go.Proofs.YtidabcihlamidaaDoorW.PrintLast Go.Proofs.YtidabcihlamidaaDoorW.PrintMore
attribute [local go_sem] max2_int min2_int max_two min_two max_three min_three max_four min_four   -- for this text's walks alone
set_option linter.unusedVariables false
set_option linter.unusedSimpArgs false

def spec_liDirs.f  : Option (ByteArray) := some (⟨#[110, 101, 115, 119]⟩ : ByteArray)
set_option maxHeartbeats 8000000 in
set_option maxRecDepth 100000 in
theorem spec_liDirs.calls  (r : ByteArray) (w : World) (h : spec_liDirs.f  = some r) :
    Calls Tryd.prog 20 #[] w fun e w' => e = .returned (.string r) ∧ Drawn0 w w' := by
  have H : (some (⟨#[110, 101, 115, 119]⟩ : ByteArray)) = some r := h
  clear h
  obtain rfl := Option.some.inj H
  go_enter Tryd.func20, Tryd.ntmps20
  go_wp2
  go_ret
  exact ⟨by first | rfl | (simp; done) | (simp [*]; done), by repeat (first | exact Drawn0.refl _ | apply Drawn0.step)⟩


def spec_loDir.l0 : Nat → Int → Int → Option (Int)
  | 0, _, _ => none
  | k + 1, x0, x3 => if x3 < 4 then ((spec_liDirs.f).bind fun t101 => (if 0 ≤ x3 then (if x3 < (t101.size : Int) then (if (bt t101 x3) = x0 then (some x3) else (spec_loDir.l0 k x0 (wrap64 (x3 + 1)))) else (none)) else (none))) else (some (-1))
def spec_loDir.f (k : Nat) (a0 : Int) : Option (Int) := spec_loDir.l0 k a0 0
theorem spec_loDir.mono_l : ∀ k, (∀ y0 y1, LeO (spec_loDir.l0 k y0 y1) (spec_loDir.l0 (k + 1) y0 y1))
  | 0 => fun _ _ r h => by simp [spec_loDir.l0] at h
  | k + 1 => by
    have ih0 := spec_loDir.mono_l k
    · intro y0 y1
      unfold spec_loDir.l0
      repeat' first
      | (with_reducible exact ih0 _ _)
      | (with_reducible exact LeO.refl _)
      | (with_reducible exact LeO.none _)
      | (with_reducible refine LeO.ite ?_ ?_)
      | (with_reducible refine LeO.bind ?_ (fun _ => ?_))
      | exact ih0 _ _
      | exact LeO.none _
      | refine LeO.ite ?_ ?_
      | refine LeO.bind ?_ (fun _ => ?_)
theorem spec_loDir.mono : ∀ a0 k, LeO (spec_loDir.f k a0) (spec_loDir.f (k + 1) a0) := by
  intro a0 k
  have ih0 := spec_loDir.mono_l k
  unfold spec_loDir.f
  repeat' first
      | (with_reducible exact ih0 _ _)
      | (with_reducible exact LeO.refl _)
      | (with_reducible exact LeO.none _)
      | (with_reducible refine LeO.ite ?_ ?_)
      | (with_reducible refine LeO.bind ?_ (fun _ => ?_))
      | exact ih0 _ _
      | exact LeO.none _
      | refine LeO.ite ?_ ?_
      | refine LeO.bind ?_ (fun _ => ?_)
set_option maxHeartbeats 8000000 in
set_option maxRecDepth 100000 in
theorem spec_loDir.calls (k : Nat) (a0 : Int) (r : Int) (w : World) (h : spec_loDir.f k a0 = some r) :
    Calls Tryd.prog 16 #[.int .u8 a0] w fun e w' => e = .returned (.int .i64 r) ∧ Drawn0 w w' := by
  have H : (spec_loDir.l0 k a0 0) = some r := h
  clear h
  have H' := Aside0.mk H
  clear H
  go_enter Tryd.func16, Tryd.ntmps16
  go_wp2
  go_loopg [3] k (fun kq v3 w' => ∃ (x3_1 : Int), v3 = .int .i64 x3_1 ∧ Aside0 (spec_loDir.l0 kq a0 x3_1 = some r) ∧ Aside0 (kq ≤ k) ∧ Drawn0 w w')
  case atStart => exact ⟨(0), rs_, H', ⟨Nat.le_refl _⟩, by repeat (first | exact Drawn0.refl _ | apply Drawn0.step)⟩
  case round =>
    clear H'
    try clear c1
    obtain ⟨x3_1, rfl, HA, HK1, ⟨m1, rfl⟩⟩ := hrel
    cases gk with
    | zero => exact absurd HA.out (by simp [spec_loDir.l0])
    | succ k1 =>
      have H := HA.out
      clear HA
      simp only [spec_loDir.l0] at H
      by_cases c2 : x3_1 < 4
      · rw [if_pos c2] at H
        have c2b0 : decide (x3_1 < 4) = true := decide_eq_true c2
        clear c2
        replace H := Option.bind_eq_some_iff.mp H
        obtain ⟨t101, A30, H⟩ := H
        replace H : (if 0 ≤ x3_1 then (if x3_1 < (t101.size : Int) then (if (bt t101 x3_1) = a0 then (some x3_1) else (spec_loDir.l0 k1 a0 (wrap64 (x3_1 + 1)))) else (none)) else (none)) = some r := H
        have A3 := Aside0.mk A30
        clear A30
        by_cases c4 : 0 ≤ x3_1
        · rw [if_pos c4] at H
          have c4b0 : decide (0 ≤ x3_1) = true := decide_eq_true c4
          clear c4
          by_cases c5 : x3_1 < (t101.size : Int)
          · rw [if_pos c5] at H
            have c5b0 : decide (x3_1 < (t101.size : Int)) = true := decide_eq_true c5
            clear c5
            by_cases c7 : (bt t101 x3_1) = a0
            · rw [if_pos c7] at H
              have c7b0 : ((bt t101 x3_1) == a0) = true := beq_iff_eq.mpr c7
              have c7b1 : ((bt t101 x3_1) != a0) = false := bne_eq_false_iff_eq.mpr c7
              clear c7
              obtain rfl := Option.some.inj H
              go_wp2_with (first | ((with_reducible refine gate_callee (f := 20) rfl ?_); refine goesL_ (some 8) rfl rfl Tryd.func20 (by kernel_rfl) rfl #[] rfl ob_ ?_; (with_reducible refine (spec_liDirs.calls  t101 _ A3.out).mono ?_); rintro e w' ⟨rfl, ⟨nd, rfl⟩⟩; refine ⟨_, rfl, ?_⟩; have p6 : 0 ≤ (x3_1 : Int) := of_decide_eq_true as_; have q6 : x3_1 < (t101.size : Int) := of_decide_eq_true as_; have hx6 := bt_at t101 x3_1; replace p6 := eq_true p6; replace q6 := eq_true q6))
              go_ret
              exact ⟨by first | rfl | (simp; done) | (simp [*]; done), by repeat (first | exact Drawn0.refl _ | apply Drawn0.step)⟩
            · rw [if_neg c7] at H
              have c7b0 : ((bt t101 x3_1) == a0) = false := beq_eq_false_iff_ne.mpr c7
              have c7b1 : ((bt t101 x3_1) != a0) = true := bne_iff_ne.mpr c7
              have H' := Aside0.mk H
              clear H
              go_wp2_with (first | ((with_reducible refine gate_callee (f := 20) rfl ?_); refine goesL_ (some 8) rfl rfl Tryd.func20 (by kernel_rfl) rfl #[] rfl ob_ ?_; (with_reducible refine (spec_liDirs.calls  t101 _ A3.out).mono ?_); rintro e w' ⟨rfl, ⟨nd, rfl⟩⟩; refine ⟨_, rfl, ?_⟩; have p6 : 0 ≤ (x3_1 : Int) := of_decide_eq_true as_; have q6 : x3_1 < (t101.size : Int) := of_decide_eq_true as_; have hx6 := bt_at t101 x3_1; replace p6 := eq_true p6; replace q6 := eq_true q6))
              go_roundg k1
              case measure => have := HK1.out; omega
              case rel => exact ⟨(wrap64 (x3_1 + 1)), rs_, H', ⟨by have := HK1.out; omega⟩, by repeat (first | exact Drawn0.refl _ | apply Drawn0.step)⟩
          · rw [if_neg c5] at H
            exact absurd H (by simp)
        · rw [if_neg c4] at H
          exact absurd H (by simp)
      · rw [if_neg c2] at H
        have c2b0 : decide (x3_1 < 4) = false := decide_eq_false c2
        clear c2
        obtain rfl := Option.some.inj H
        go_wp2
        go_ret
        exact ⟨by first | rfl | (simp; done) | (simp [*]; done), by repeat (first | exact Drawn0.refl _ | apply Drawn0.step)⟩


theorem eqA39 (d : Nat) (w : World) (x0 y0 : Int) (x1 y1 : Int) :
    (Op.equalIn (d + 2) 39 (.agg #[.int .i64 x0, .int .i64 x1]) (.agg #[.int .i64 y0, .int .i64 y1])).run Tryd.prog w = .ok (x0 == y0 && (x1 == y1)) w := by
  refine eqA_of Tryd.underlying39 (by kernel_rfl) ?_
  refine eqf_cons (by rfl) (by go_simp; rfl) (by go_simp; rfl) (by go_simp) ?_
  exact eqf_last (by rfl) (by go_simp; rfl) (by go_simp; rfl) (by go_simp)
end Go.Proofs.YtidabcihlamidaaDoor.P
namespace Go.Proofs.YtidabcihlamidaaDoor.P
open Go.RowKit Go.Proofs.YtidabcihlamidaaDoorW.PrintWords Go.Proofs.YtidabcihlamidaaDoorW.PrintLast Go.Proofs.YtidabcihlamidaaDoorW.PrintMore
attribute [local go_sem] max2_int min2_int max_two min_two max_three min_three max_four min_four   -- for this text's walks alone
set_option linter.unusedVariables false
set_option linter.unusedSimpArgs false

attribute [local go_sem high] eqA39
def spec_liHas.l0 : Nat → List (S39) → Int → Int → Int → Int → Option (Bool)
 | 0, _, _, _, _, _ => none
 | k + 1, x7, x8, x9, x103000, x103001 => if x9 < x8 then (if 0 ≤ x9 then (if x9 < (x7.length : Int) then (if (((rd_T39 x7 x9).f0) == x103000 && (((rd_T39 x7 x9).f1) == x103001)) = true then (some true) else (spec_liHas.l0 k x7 x8 (wrap64 (x9 + 1)) x103000 x103001)) else (none)) else (none)) else (some false)
def spec_liHas.f (k : Nat) (l0 : List (S39)) (a1_0 : Int) (a1_1 : Int) : Option (Bool) := spec_liHas.l0 k l0 (l0.length : Int) 0 a1_0 a1_1
theorem spec_liHas.mono_l : ∀ k, (∀ y0 y1 y2 y3 y4, LeO (spec_liHas.l0 k y0 y1 y2 y3 y4) (spec_liHas.l0 (k + 1) y0 y1 y2 y3 y4))
 | 0 => fun _ _ _ _ _ r h => by simp [spec_liHas.l0] at h
 | k + 1 => by
  have ih0 := spec_liHas.mono_l k
  ·intro y0 y1 y2 y3 y4
   unfold spec_liHas.l0
   repeat' first
   | (with_reducible exact ih0 _ _ _ _ _)
   | (with_reducible exact LeO.refl _)
   | (with_reducible exact LeO.none _)
   | (with_reducible refine LeO.ite ?_ ?_)
   | (with_reducible refine LeO.bind ?_ (fun _ => ?_))
   | exact ih0 _ _ _ _ _
   | exact LeO.none _
   | refine LeO.ite ?_ ?_
   | refine LeO.bind ?_ (fun _ => ?_)
theorem spec_liHas.mono : ∀ a0 a1 a2 k, LeO (spec_liHas.f k a0 a1 a2) (spec_liHas.f (k + 1) a0 a1 a2) := by
 intro a0 a1 a2 k
 have ih0 := spec_liHas.mono_l k
 unfold spec_liHas.f
 repeat' first
   | (with_reducible exact ih0 _ _ _ _ _)
   | (with_reducible exact LeO.refl _)
   | (with_reducible exact LeO.none _)
   | (with_reducible refine LeO.ite ?_ ?_)
   | (with_reducible refine LeO.bind ?_ (fun _ => ?_))
   | exact ih0 _ _ _ _ _
   | exact LeO.none _
   | refine LeO.ite ?_ ?_
   | refine LeO.bind ?_ (fun _ => ?_)
set_option maxHeartbeats 8000000 in
set_option maxRecDepth 100000 in
theorem spec_liHas.calls (k : Nat) (A0 : Option Addr) (c0 : Nat) (l0 : List (S39)) (a1_0 : Int) (a1_1 : Int) (r : Bool) (w : World) (hr0 : Kd.C k39 w A0 l0.length l0) (hc0 : l0.length ≤ c0) (h : spec_liHas.f k l0 a1_0 a1_1 = some r) :
  Calls Tryd.prog 36 #[.slice A0 l0.length c0, .agg #[.int .i64 a1_0, .int .i64 a1_1]] w fun e w' => e = .returned (.bool r) ∧ Below w.heap.size w w' := by
 have hu39 := Tryd.underlying39
 have HR0 := Aside0.mk hr0
 have HC0 := Aside0.mk hc0
 clear hr0 hc0
 have HB := Aside0.mk (Below.refl w.heap.size w)
 have H : (spec_liHas.l0 k l0 (l0.length : Int) 0 a1_0 a1_1) = some r := h
 clear h
 have H' := Aside0.mk H
 clear H
 go_enter Tryd.func36, Tryd.ntmps36
 go_wp2_with (first | ((with_reducible refine gate_dst (N := 3) rfl ?_); refine boxE_ (N := 3) (cs := #[.int .i64 a1_0, .int .i64 a1_1]) (t := 39) ?_; intro gb102 hg w3 hbox hb; have n0_ := Aside0.mk (below_step (bl0_ HB.out) hb); have n1_ := Aside0.mk (hbox); have n2_ := Aside0.mk ((bs0_ hg HB.out : w.heap.size ≤ gb102)); have n3_ := Aside0.mk ((bs0_ hg HB.out : w.heap.size ≤ gb102)); clear HB; have HB := n0_; have BK102 := n1_; have GW102 := n2_; have GE102 := n3_; clear n0_ n1_ n2_ n3_; clear hb hbox hg))
 go_loopg [9] k (fun kq v9 w' => ∃ (x9_1 : Int), v9 = .int .i64 x9_1 ∧ Aside0 (spec_liHas.l0 kq l0 (l0.length : Int) x9_1 a1_0 a1_1 = some r) ∧ Aside0 (kq ≤ k) ∧ Aside0 (w'.heap[gb102]? = some (.cells #[.int .i64 a1_0, .int .i64 a1_1] 39 (0, 0))) ∧ Aside0 (Below w.heap.size w w'))
 case atStart => exact ⟨(0), rs_, H', ⟨Nat.le_refl _⟩, ⟨bk_ BK102.out⟩, ⟨bl1_ HB.out GE102.out⟩⟩
 case round =>
  clear H'
  try clear p2
  try clear c3
  obtain ⟨x9_1, rfl, HA, HK1, BK102, HB⟩ := hrel
  cases gk with
  | zero => exact absurd HA.out (by simp [spec_liHas.l0])
  | succ k1 =>
   have H := HA.out
   clear HA
   simp only [spec_liHas.l0] at H
   by_cases c4 : x9_1 < (l0.length : Int)
   ·rw [if_pos c4] at H
    have c4b0 : decide (x9_1 < (l0.length : Int)) = true := decide_eq_true c4
    clear c4
    by_cases c5 : 0 ≤ x9_1
    ·rw [if_pos c5] at H
     have c5b0 : decide (0 ≤ x9_1) = true := decide_eq_true c5
     clear c5
     by_cases c6 : x9_1 < (l0.length : Int)
     ·rw [if_pos c6] at H
      have c6b0 : decide (x9_1 < (l0.length : Int)) = true := decide_eq_true c6
      clear c6
      by_cases c7 : (((rd_T39 l0 x9_1).f0) == a1_0 && (((rd_T39 l0 x9_1).f1) == a1_1)) = true
      ·rw [if_pos c7] at H
       have c7b0 : (((rd_T39 l0 x9_1).f0) == a1_0 && (((rd_T39 l0 x9_1).f1) == a1_1)) = true := c7
       (try (have c7b1 : decide (((rd_T39 l0 x9_1).f0) = a1_0 && (((rd_T39 l0 x9_1).f1) == a1_1)) = true := by simpa using c7))
       (try (have c7b2 : (((rd_T39 l0 x9_1).f0) == a1_0 && (((rd_T39 l0 x9_1).f1) == a1_1)) = true := by simpa using c7))
       clear c7
       obtain rfl := Option.some.inj H
       have p103 : 0 ≤ (x9_1 : Int) := of_decide_eq_true as_
       have q103 : x9_1 < (l0.length : Int) := of_decide_eq_true as_
       obtain ⟨ad103, e103, hx103_0, hx103_1⟩ := at_T39 HR0.out x9_1 p103 q103
       cases e103
       replace hx103_0 := (HB.out.cell (World.block_lt_of_cell? w _ hx103_0)).trans hx103_0
       replace hx103_1 := (HB.out.cell (World.block_lt_of_cell? w _ hx103_1)).trans hx103_1
       replace p103 := eq_true p103
       replace q103 := eq_true q103
       go_wp2_with (first | ((with_reducible refine gate_dst (N := 6) rfl ?_); refine boxE_ (N := 6) (cs := #[.int .i64 0, .int .i64 0]) (t := 39) ?_; intro gb104 hg w8 hbox hb; have n0_ := Aside0.mk (bb_ BK102.out hb); have n1_ := Aside0.mk (below_step (bl1_ HB.out GE102.out) hb); have n2_ := Aside0.mk (hbox); have n3_ := Aside0.mk ((bs1_ hg HB.out GE102.out : w.heap.size ≤ gb104)); have n4_ := Aside0.mk ((bs1_ hg HB.out GE102.out : w.heap.size ≤ gb104)); have n5_ := Aside0.mk ((nl_ hg BK102.out : gb102 ≠ gb104)); have n6_ := Aside0.mk ((ng_ hg BK102.out : gb104 ≠ gb102)); clear BK102; clear HB; have BK102 := n0_; have HB := n1_; have BK104 := n2_; have GW104 := n3_; have GE104 := n4_; have NB102_104 := n5_; have NB104_102 := n6_; clear n0_ n1_ n2_ n3_ n4_ n5_ n6_; clear hb hbox hg; have hnb9 := NB104_102.out; have hnc9 := NB102_104.out; have hcz10_0 : w8.cell? ⟨gb104, 0, none⟩ = some (.int .i64 0) := (blk_cell BK104.out 0).trans rfl; have hcz10_1 : w8.cell? ⟨gb104, 1, none⟩ = some (.int .i64 0) := (blk_cell BK104.out 1).trans rfl; have hfz10_0 := blk_frozen BK104.out 0; have hfz10_1 := blk_frozen BK104.out 1; have hcz11_0 : w8.cell? ⟨gb102, 0, none⟩ = some (.int .i64 a1_0) := (blk_cell BK102.out 0).trans rfl; have hcz11_1 : w8.cell? ⟨gb102, 1, none⟩ = some (.int .i64 a1_1) := (blk_cell BK102.out 1).trans rfl; have hfz11_0 := blk_frozen BK102.out 0; have hfz11_1 := blk_frozen BK102.out 1))
       go_ret
       exact ⟨er_, bl2_ HB.out GE102.out GE104.out⟩
      ·rw [if_neg c7] at H
       have c7b0 : (((rd_T39 l0 x9_1).f0) == a1_0 && (((rd_T39 l0 x9_1).f1) == a1_1)) = false := by simpa using c7
       (try (have c7b1 : decide (((rd_T39 l0 x9_1).f0) = a1_0 && (((rd_T39 l0 x9_1).f1) == a1_1)) = false := by simpa using c7))
       (try (have c7b2 : (((rd_T39 l0 x9_1).f0) == a1_0 && (((rd_T39 l0 x9_1).f1) == a1_1)) = false := by simpa using c7))
       (try (have c7b3 : ¬ (((rd_T39 l0 x9_1).f0) = a1_0 && (((rd_T39 l0 x9_1).f1) == a1_1)) := by simpa using c7))
       clear c7
       have H' := Aside0.mk H
       clear H
       have p103 : 0 ≤ (x9_1 : Int) := of_decide_eq_true as_
       have q103 : x9_1 < (l0.length : Int) := of_decide_eq_true as_
       obtain ⟨ad103, e103, hx103_0, hx103_1⟩ := at_T39 HR0.out x9_1 p103 q103
       cases e103
       replace hx103_0 := (HB.out.cell (World.block_lt_of_cell? w _ hx103_0)).trans hx103_0
       replace hx103_1 := (HB.out.cell (World.block_lt_of_cell? w _ hx103_1)).trans hx103_1
       replace p103 := eq_true p103
       replace q103 := eq_true q103
       go_wp2_with (first | ((with_reducible refine gate_dst (N := 6) rfl ?_); refine boxE_ (N := 6) (cs := #[.int .i64 0, .int .i64 0]) (t := 39) ?_; intro gb104 hg w12 hbox hb; have n0_ := Aside0.mk (bb_ BK102.out hb); have n1_ := Aside0.mk (below_step (bl1_ HB.out GE102.out) hb); have n2_ := Aside0.mk (hbox); have n3_ := Aside0.mk ((bs1_ hg HB.out GE102.out : w.heap.size ≤ gb104)); have n4_ := Aside0.mk ((bs1_ hg HB.out GE102.out : w.heap.size ≤ gb104)); have n5_ := Aside0.mk ((nl_ hg BK102.out : gb102 ≠ gb104)); have n6_ := Aside0.mk ((ng_ hg BK102.out : gb104 ≠ gb102)); clear BK102; clear HB; have BK102 := n0_; have HB := n1_; have BK104 := n2_; have GW104 := n3_; have GE104 := n4_; have NB102_104 := n5_; have NB104_102 := n6_; clear n0_ n1_ n2_ n3_ n4_ n5_ n6_; clear hb hbox hg; have hnb13 := NB104_102.out; have hnc13 := NB102_104.out; have hcz14_0 : w12.cell? ⟨gb104, 0, none⟩ = some (.int .i64 0) := (blk_cell BK104.out 0).trans rfl; have hcz14_1 : w12.cell? ⟨gb104, 1, none⟩ = some (.int .i64 0) := (blk_cell BK104.out 1).trans rfl; have hfz14_0 := blk_frozen BK104.out 0; have hfz14_1 := blk_frozen BK104.out 1; have hcz15_0 : w12.cell? ⟨gb102, 0, none⟩ = some (.int .i64 a1_0) := (blk_cell BK102.out 0).trans rfl; have hcz15_1 : w12.cell? ⟨gb102, 1, none⟩ = some (.int .i64 a1_1) := (blk_cell BK102.out 1).trans rfl; have hfz15_0 := blk_frozen BK102.out 0; have hfz15_1 := blk_frozen BK102.out 1))
       go_roundg k1
       case measure => have := HK1.out; omega
       case rel => exact ⟨(wrap64 (x9_1 + 1)), rs_, H', ⟨by have := HK1.out; omega⟩, ⟨bf2_ NB102_104.out NB102_104.out BK102.out⟩, ⟨bl2_ HB.out GE102.out GE104.out⟩⟩
     ·rw [if_neg c6] at H
      exact absurd H (by simp)
    ·rw [if_neg c5] at H
     exact absurd H (by simp)
   ·rw [if_neg c4] at H
    have c4b0 : decide (x9_1 < (l0.length : Int)) = false := decide_eq_false c4
    clear c4
    obtain rfl := Option.some.inj H
    go_wp2
    go_ret
    exact ⟨er_, bl1_ HB.out GE102.out⟩

end Go.Proofs.YtidabcihlamidaaDoor.P
namespace Go.Proofs.YtidabcihlamidaaDoor.P
open Go.RowKit Go.Proofs.YtidabcihlamidaaDoorW.PrintWords Go.Proofs.YtidabcihlamidaaDoorW.PrintLast Go.Proofs.YtidabcihlamidaaDoorW.PrintMore
attribute [local go_sem] max2_int min2_int max_two min_two max_three min_three max_four min_four   -- for this text's walks alone
set_option linter.unusedVariables false
set_option linter.unusedSimpArgs false

def spec_loStep.f (a0_0 : Int) (a0_1 : Int) (a1 : Int) : Option (Int × Int) := (some (([0, 1, 0, (-1)] : List Int) : List Int)).bind fun y107 => (if 0 ≤ a1 then (if a1 < (y107.length : Int) then ((some (([(-1), 0, 1, 0] : List Int) : List Int)).bind fun y111 => (if a1 < (y111.length : Int) then (some (wrap64 (a0_0 + (rd y107 a1)), wrap64 (a0_1 + (rd y111 a1)))) else (none))) else (none)) else (none))
def spec_loStep.T1 : Bool × List (List Nat × List Nat) := (true, [([], []), ([0], [0]), ([], []), ([], []), ([2, 3], [2, 3]), ([4], [4]), ([1, 5], [1, 5]), ([], []), ([7], [7]), ([], []), ([], []), ([9, 10], [9, 10]), ([11], [11]), ([8, 12], [8, 12]), ([6, 13], [6, 13]), ([14, 0, 1, 2, 3, 4, 5, 6, 7, 8, 9, 10, 11, 12, 13, 14], [14])])
def spec_loStep.B1 : List Nat := [0, 1, 0, 0, 12, 28, 63, 0, 128, 0, 0, 1536, 3584, 8064, 16383, 32767]
theorem spec_loStep.tab1 : rtab .any (opsOf Tryd.f37 1) = spec_loStep.T1 := by kernel_rfl
theorem spec_loStep.bits1 : waitsOk spec_loStep.T1.2 spec_loStep.B1 = true := by kernel_rfl
set_option maxHeartbeats 8000000 in
set_option maxRecDepth 100000 in
theorem spec_loStep.calls (a0_0 : Int) (a0_1 : Int) (a1 : Int) (r1 : Int) (r2 : Int) (w : World) (h : spec_loStep.f a0_0 a0_1 a1 = some (r1, r2)) :
  Calls Tryd.prog 37 #[.agg #[.int .i64 a0_0, .int .i64 a0_1], .int .i64 a1] w fun e w' => e = .returned (.agg #[.int .i64 r1, .int .i64 r2]) ∧ Below w.heap.size w w' := by
 have hu39 := Tryd.underlying39
 have HB := Aside0.mk (Below.refl w.heap.size w)
 have H : ((some (([0, 1, 0, (-1)] : List Int) : List Int)).bind fun y107 => (if 0 ≤ a1 then (if a1 < (y107.length : Int) then ((some (([(-1), 0, 1, 0] : List Int) : List Int)).bind fun y111 => (if a1 < (y111.length : Int) then (some (wrap64 (a0_0 + (rd y107 a1)), wrap64 (a0_1 + (rd y111 a1)))) else (none))) else (none)) else (none))) = some (r1, r2) := h
 clear h
 obtain ⟨y107, hy107⟩ : ∃ y_ : List Int, y_ = (([0, 1, 0, (-1)] : List Int)) := ⟨_, rfl⟩
 replace H : (if 0 ≤ a1 then (if a1 < (y107.length : Int) then ((some (([(-1), 0, 1, 0] : List Int) : List Int)).bind fun y111 => (if a1 < (y111.length : Int) then (some (wrap64 (a0_0 + (rd y107 a1)), wrap64 (a0_1 + (rd y111 a1)))) else (none))) else (none)) else (none)) = some (r1, r2) := by first | (rw [hy107]; with_reducible exact H) | (have H2_ := (Option.bind_some _ _).symm.trans H; rw [hy107]; with_reducible exact H2_) | (have H2_ := (Option.bind_some _ _).symm.trans H; with_reducible exact H2_) | with_reducible exact H | (rw [hy107]; exact H) | exact H
 have Ny107 := Aside0.mk hy107
 clear hy107
 by_cases c3 : 0 ≤ a1
 ·rw [if_pos c3] at H
  have c3b0 : decide (0 ≤ a1) = true := decide_eq_true c3
  clear c3
  by_cases c4 : a1 < (y107.length : Int)
  ·rw [if_pos c4] at H
   have c4b0 : decide (a1 < (y107.length : Int)) = true := decide_eq_true c4
   clear c4
   obtain ⟨y111, hy111⟩ : ∃ y_ : List Int, y_ = (([(-1), 0, 1, 0] : List Int)) := ⟨_, rfl⟩
   replace H : (if a1 < (y111.length : Int) then (some (wrap64 (a0_0 + (rd y107 a1)), wrap64 (a0_1 + (rd y111 a1)))) else (none)) = some (r1, r2) := by first | (rw [hy111]; with_reducible exact H) | (have H2_ := (Option.bind_some _ _).symm.trans H; rw [hy111]; with_reducible exact H2_) | (have H2_ := (Option.bind_some _ _).symm.trans H; with_reducible exact H2_) | with_reducible exact H | (rw [hy111]; exact H) | exact H
   have Ny111 := Aside0.mk hy111
   clear hy111
   by_cases c5 : a1 < (y111.length : Int)
   ·rw [if_pos c5] at H
    have c5b0 : decide (a1 < (y111.length : Int)) = true := decide_eq_true c5
    clear c5
    simp only [Option.some.injEq, Prod.mk.injEq] at H
    obtain ⟨rfl, rfl⟩ := H
    go_enter Tryd.func37, Tryd.ntmps37
    try go_wp2_with (first | ((with_reducible refine gate_dst (N := 2) rfl ?_); refine boxE_ (N := 2) (cs := #[.int .i64 a0_0, .int .i64 a0_1]) (t := 39) ?_; intro gb105 hg w6 hbox hb; have n0_ := Aside0.mk (below_step (bl0_ HB.out) hb); have n1_ := Aside0.mk (hbox); have n2_ := Aside0.mk ((bs0_ hg HB.out : w.heap.size ≤ gb105)); have n3_ := Aside0.mk ((bs0_ hg HB.out : w.heap.size ≤ gb105)); clear HB; have HB := n0_; have BK105 := n1_; have GW105 := n2_; have GE105 := n3_; clear n0_ n1_ n2_ n3_; clear hb hbox hg) | ((with_reducible refine gate_dst (N := 4) rfl ?_); refine boxE_ (N := 4) (cs := #[.int .i64 0, .int .i64 0]) (t := 39) ?_; intro gb106 hg w7 hbox hb; have n0_ := Aside0.mk (bb_ BK105.out hb); have n1_ := Aside0.mk (below_step (bl1_ HB.out GE105.out) hb); have n2_ := Aside0.mk (hbox); have n3_ := Aside0.mk ((bs1_ hg HB.out GE105.out : w.heap.size ≤ gb106)); have n4_ := Aside0.mk ((bs1_ hg HB.out GE105.out : w.heap.size ≤ gb106)); have n5_ := Aside0.mk ((nl_ hg BK105.out : gb105 ≠ gb106)); have n6_ := Aside0.mk ((ng_ hg BK105.out : gb106 ≠ gb105)); clear BK105; clear HB; have BK105 := n0_; have HB := n1_; have BK106 := n2_; have GW106 := n3_; have GE106 := n4_; have NB105_106 := n5_; have NB106_105 := n6_; clear n0_ n1_ n2_ n3_ n4_ n5_ n6_; clear hb hbox hg))
    have pi110 : (0 ≤ (a1 : Int)) = True := eq_true (of_decide_eq_true as_)
    have qi110 : (a1 < (y107.length : Int)) = True := eq_true (of_decide_eq_true as_)
    have pi114 : (0 ≤ (a1 : Int)) = True := eq_true (of_decide_eq_true as_)
    have qi114 : (a1 < (y111.length : Int)) = True := eq_true (of_decide_eq_true as_)
    have n0_ := Aside0.mk (blk_drew BK105.out)
    have n1_ := Aside0.mk (blk_drew BK106.out)
    have n2_ := Aside0.mk (below_drew1 HB.out)
    clear BK105
    clear BK106
    clear HB
    have BK105 := n0_
    have BK106 := n1_
    have HB := n2_
    clear n0_ n1_ n2_
    refine start_ (n := 16) (S := fun w' => True) (ds := []) #[false, false, false, false, false, false, false, false, false, false, false, false, false, false, false, false] (by kernel_rfl) rfl rfl trivial (fun hHeld => ?_); refine with_tabW spec_loStep.tab1 spec_loStep.bits1 (fun HT_ HW_ => ?_)
    generalize w7.drew = w8 at BK105 BK106 HB hHeld ⊢
    refine pure_ (i := 0) (N := some 5) (v := ?_) (a' := ?_) #[true, false, false, false, false, false, false, false, false, false, false, false, false, false, false, false] rfl rfl (any_of HT_.out (by kernel_rfl)) (fun _ _ _ h => h) (Or.inl ⟨by rfl, ?_⟩) ?_ ?_
    rotate_left
    ·intro w'
     go_simp
     with_reducible rfl
    rotate_left
    ·simp only [Act.put, List.setIfInBounds_toArray, List.set_cons_zero, List.set_cons_succ, i64_w, i32_w]
     rfl
    refine pure_ (i := 3) (N := some 8) (v := ?_) (a' := ?_) #[true, false, false, true, false, false, false, false, false, false, false, false, false, false, false, false] rfl rfl (any_of HT_.out (by kernel_rfl)) (fun _ _ _ h => h) (Or.inl ⟨by rfl, ?_⟩) ?_ ?_
    rotate_left
    ·intro w'
     go_simp
     with_reducible rfl
    rotate_left
    ·simp only [Act.put, List.setIfInBounds_toArray, List.set_cons_zero, List.set_cons_succ, i64_w, i32_w]
     rfl
    refine pure_ (i := 7) (N := some 12) (v := ?_) (a' := ?_) #[true, false, false, true, false, false, false, true, false, false, false, false, false, false, false, false] rfl rfl (any_of HT_.out (by kernel_rfl)) (fun _ _ _ h => h) (Or.inl ⟨by rfl, ?_⟩) ?_ ?_
    rotate_left
    ·intro w'
     go_simp
     with_reducible rfl
    rotate_left
    ·simp only [Act.put, List.setIfInBounds_toArray, List.set_cons_zero, List.set_cons_succ, i64_w, i32_w]
     rfl
    refine pure_ (i := 10) (N := some 15) (v := ?_) (a' := ?_) #[true, false, false, true, false, false, false, true, false, false, true, false, false, false, false, false] rfl rfl (any_of HT_.out (by kernel_rfl)) (fun _ _ _ h => h) (Or.inl ⟨by rfl, ?_⟩) ?_ ?_
    rotate_left
    ·intro w'
     go_simp
     with_reducible rfl
    rotate_left
    ·simp only [Act.put, List.setIfInBounds_toArray, List.set_cons_zero, List.set_cons_succ, i64_w, i32_w]
     rfl
    refine inv_at [1, 2, 4, 5, 6, 8, 9, 11, 12, 13, 14, 15] (fun a0_ b a w' => ∃ (v108 : Value) (adz_v108 : Addr) (v112 : Value) (adz_v112 : Addr) (m4_ : Value) (m11_ : Value), a = putSel a0_ b [(1, 6, .int .i64 a0_0), (2, 7, v108), (4, 9, m4_), (5, 10, .int .i64 (rd y107 a1)), (6, 11, .int .i64 (wrap64 (a0_0 + (rd y107 a1)))), (8, 13, .int .i64 a0_1), (9, 14, v112), (11, 16, m11_), (12, 17, .int .i64 (rd y111 a1)), (13, 18, .int .i64 (wrap64 (a0_1 + (rd y111 a1)))), (14, 19, .agg #[.int .i64 (wrap64 (a0_0 + (rd y107 a1))), .int .i64 (wrap64 (a0_1 + (rd y111 a1)))])] ∧ (w'.heap[gb105]? = some (.cells #[.int .i64 a0_0, .int .i64 a0_1] 39 (0, 0))) ∧ (b 15 = false → w'.heap[gb106]? = some (.cells #[.int .i64 0, .int .i64 0] 39 (0, 0))) ∧ (Below w.heap.size w w') ∧ (b 2 = true → Kd.R (Kd.int .i64) 3 w' w.heap.size (fun _ => True) v108 y107) ∧ (b 2 = true → ∃ c_, (v108 : Value) = .slice (some adz_v108) y107.length c_) ∧ (b 9 = true → Kd.R (Kd.int .i64) 3 w' w.heap.size (fun _ => True) v112 y111) ∧ (b 9 = true → ∃ c_, (v112 : Value) = .slice (some adz_v112) y111.length c_) ∧ (b 15 = true → w'.heap[gb106]? = some (.cells #[.int .i64 (wrap64 (a0_0 + (rd y107 a1))), .int .i64 (wrap64 (a0_1 + (rd y111 a1)))] 39 (0, 0))) ∧ (b 4 = true → (m4_ : Value) = .pointer (some (adz_v108.add (a1).toNat))) ∧ (b 11 = true → (m11_ : Value) = .pointer (some (adz_v112.add (a1).toNat)))) HT_.out HW_.out (by kernel_rfl) (by kernel_rfl) ?_ ?_ ?_
    ·exact ⟨.bool false, ⟨0, 0, none⟩, .bool false, ⟨0, 0, none⟩, .bool false, .bool false, by simp only [putSel, Bool.false_eq_true, if_false], BK105.out, fun _ => BK106.out, HB.out, fun h_ => absurd h_ (by decide), fun h_ => absurd h_ (by decide), fun h_ => absurd h_ (by decide), fun h_ => absurd h_ (by decide), fun h_ => absurd h_ (by decide), fun h_ => absurd h_ (by decide), fun h_ => absurd h_ (by decide)⟩
    ·skip
     clear BK105 BK106 HB
     refine steps_cons ?_ ?_
     ·rintro b a w' ⟨v108, adz_v108, v112, adz_v112, m4_, m11_, ha, Q_BK105, Q_BK106, Q_HB, Q_HO109, Q_HA_HO109, Q_HO113, Q_HA_HO113, Q_BK106_e15, Q_X4_, Q_X11_⟩ hb_ hon hoff
      refine ⟨_, rfl, fun K hK => ?_⟩
      have e5 : a.tmps[5]? = some (.pointer (some ⟨gb105, 0, none⟩)) := by rw [ha]; exact (putSel_off rfl).trans rfl
      replace ha := Aside0.mk ha
      have BK105 := Aside0.mk Q_BK105
      have BK106 := Aside0.mk (Q_BK106 (hoff 15 (by kernel_rfl)))
      have HB := Aside0.mk Q_HB
      have hc0_ : w'.cell? ⟨gb105, 0, none⟩ = some (.int .i64 a0_0) := (blk_cell BK105.out 0).trans rfl
      have hc1_ : w'.cell? ⟨gb105, 1, none⟩ = some (.int .i64 a0_1) := (blk_cell BK105.out 1).trans rfl
      refine value_ (w1 := w') (v := .int .i64 a0_0) (by rfl) rfl ?_ ?_
      ·go_simp
       (try simp only [i64_w])
       try rfl
      refine hK.out _ _ ⟨v108, adz_v108, v112, adz_v112, m4_, m11_, (by rw [ha.out]; exact putSel_upk 0 hb_ rfl rfl rfl), Q_BK105, Q_BK106, Q_HB, Q_HO109, Q_HA_HO109, Q_HO113, Q_HA_HO113, fun h0_ => absurd ((hoff 15 (by kernel_rfl)).symm.trans h0_) (by decide), Q_X4_, Q_X11_⟩
     refine steps_cons ?_ ?_
     ·rintro b a w' ⟨v108, adz_v108, v112, adz_v112, m4_, m11_, ha, Q_BK105, Q_BK106, Q_HB, Q_HO109, Q_HA_HO109, Q_HO113, Q_HA_HO113, Q_BK106_e15, Q_X4_, Q_X11_⟩ hb_ hon hoff
      refine ⟨_, rfl, fun K hK => ?_⟩
      replace ha := Aside0.mk ha
      have BK105 := Aside0.mk Q_BK105
      have BK106 := Aside0.mk (Q_BK106 (hoff 15 (by kernel_rfl)))
      have HB := Aside0.mk Q_HB
      refine Kd.R_lit_step (Kd.int .i64) _ 3 ?hg (N := 7) ?hd (xs := ([0, 1, 0, (-1)] : List Int)) (inner := [.int .i64 0, .int .i64 1, .int .i64 0, .int .i64 (-1)]) (ok := fun _ => True) (okp := fun _ => True) ?hr ?hp (fun _ hk => hk) trivial (Below.refl _ _) (Nat.le_refl _) (by simp) ?_; (case hd => rfl); (case hg => rfl); (case hr => first | (go_simp; done) | (go_simp; rfl)); (case hp => exact (Reps.one (show Kd.M (Kd.int .i64) _ _ _ 0 [.int .i64 0] from rfl) (Reps.one (show Kd.M (Kd.int .i64) _ _ _ 1 [.int .i64 1] from rfl) (Reps.one (show Kd.M (Kd.int .i64) _ _ _ 0 [.int .i64 0] from rfl) (Reps.one (show Kd.M (Kd.int .i64) _ _ _ (-1) [.int .i64 (-1)] from rfl) (Reps.none _ _))))))
      intro v108 w9 ho10 hb hg_ hnew_
      clear hg_ hnew_
      (first | rw [← Ny107.out] at ho10 | (simp only [Int.reduceToNat] at ho10; rw [← Ny107.out] at ho10))
      have n0_ := Aside0.mk (Kd.R_lower ho10 (below_size (bl2_ HB.out GE105.out GE106.out)))
      have n1_ := Aside0.mk (bb_ BK105.out hb)
      have n2_ := Aside0.mk (bb_ BK106.out hb)
      have n3_ := Aside0.mk (below_step (bl2_ HB.out GE105.out GE106.out) hb)
      have z_HO113 := fun (h0_ : b 9 = true) => (show Kd.R (Kd.int .i64) 3 w9 w.heap.size (fun _ => True) v112 y111 from by first | exact (Kd.R_elder' (by (with_reducible repeat (first | apply Kd.R_alloc | apply Kd.R_drewN | apply Kd.R_drew)); exact (Q_HO113 h0_)) (Kd.R_base ho10) hb) | exact Kd.R_mono (Kd.R_elder' (by (with_reducible repeat (first | apply Kd.R_alloc | apply Kd.R_drewN | apply Kd.R_drew)); exact (Q_HO113 h0_)) (Kd.R_base ho10) hb) (fun _ h_ => by first | trivial | exact h_ | exact h_.1))
      clear BK105
      clear BK106
      clear HB
      have HO109 := n0_
      have BK105 := n1_
      have BK106 := n2_
      have HB := n3_
      clear n0_ n1_ n2_ n3_
      clear hb ho10
      obtain ⟨Ao11, co11, eo11⟩ := Kd.R_slice HO109.out
      subst eo11
      obtain ⟨ado11, fo11, _⟩ := Kd.at_int (Kd.R_reads' HO109.out).2.2 0 (by decide) (by rw [Ny107.out]; simp)
      cases fo11
      refine hK.out _ _ ⟨.slice (some ado11) y107.length co11, ado11, v112, adz_v112, m4_, m11_, (by rw [ha.out]; exact putSel_upk 1 hb_ rfl rfl rfl), (bk_ BK105.out), fun _ => (bk_ BK106.out), (bl2_ HB.out GE105.out GE106.out), fun _ => (kr_ HO109.out), fun _ => ⟨_, rfl⟩, z_HO113, Q_HA_HO113, fun h0_ => absurd ((hoff 15 (by kernel_rfl)).symm.trans h0_) (by decide), fun h0_ => absurd ((hoff 4 (by kernel_rfl)).symm.trans h0_) (by decide), Q_X11_⟩
     refine steps_cons ?_ ?_
     ·rintro b a w' ⟨v108, adz_v108, v112, adz_v112, m4_, m11_, ha, Q_BK105, Q_BK106, Q_HB, Q_HO109, Q_HA_HO109, Q_HO113, Q_HA_HO113, Q_BK106_e15, Q_X4_, Q_X11_⟩ hb_ hon hoff
      refine ⟨_, rfl, fun K hK => ?_⟩
      have e7 : a.tmps[7]? = some (v108) := by rw [ha]; exact putSel_on (e := (2, 7, v108)) 1 rfl rfl (hon 2 (by kernel_rfl)) rfl
      have e8 : a.tmps[8]? = some (.int .i64 a1) := by rw [ha]; exact (putSel_off rfl).trans rfl
      replace ha := Aside0.mk ha
      have BK105 := Aside0.mk Q_BK105
      have BK106 := Aside0.mk (Q_BK106 (hoff 15 (by kernel_rfl)))
      have HB := Aside0.mk Q_HB
      have HO109 := Aside0.mk (Q_HO109 (hon 2 (by kernel_rfl)))
      have HA_HO109 := Aside0.mk (Q_HA_HO109 (hon 2 (by kernel_rfl)))
      obtain ⟨c_, hv_⟩ := HA_HO109.out
      rw [hv_] at e7
      refine value_ (w1 := w') (v := .pointer (some (adz_v108.add (a1).toNat))) (by rfl) rfl ?_ ?_
      ·go_simp
       (try simp only [i64_w])
       try rfl
      refine hK.out _ _ ⟨v108, adz_v108, v112, adz_v112, (.pointer (some (adz_v108.add (a1).toNat))), m11_, (by rw [ha.out]; exact putSel_upk 2 hb_ rfl rfl rfl), Q_BK105, Q_BK106, Q_HB, Q_HO109, Q_HA_HO109, Q_HO113, Q_HA_HO113, fun h0_ => absurd ((hoff 15 (by kernel_rfl)).symm.trans h0_) (by decide), fun _ => rfl, Q_X11_⟩
     refine steps_cons ?_ ?_
     ·rintro b a w' ⟨v108, adz_v108, v112, adz_v112, m4_, m11_, ha, Q_BK105, Q_BK106, Q_HB, Q_HO109, Q_HA_HO109, Q_HO113, Q_HA_HO113, Q_BK106_e15, Q_X4_, Q_X11_⟩ hb_ hon hoff
      refine ⟨_, rfl, fun K hK => ?_⟩
      have e9 : a.tmps[9]? = some (m4_) := by rw [ha]; exact putSel_on (e := (4, 9, m4_)) 2 rfl rfl (hon 4 (by kernel_rfl)) rfl
      rw [Q_X4_ (hon 4 (by kernel_rfl))] at e9
      replace ha := Aside0.mk ha
      have BK105 := Aside0.mk Q_BK105
      have BK106 := Aside0.mk (Q_BK106 (hoff 15 (by kernel_rfl)))
      have HB := Aside0.mk Q_HB
      have HO109 := Aside0.mk (Q_HO109 (hon 2 (by kernel_rfl)))
      have HA_HO109 := Aside0.mk (Q_HA_HO109 (hon 2 (by kernel_rfl)))
      obtain ⟨c_, hv_⟩ := HA_HO109.out
      have hF_ := HO109.out
      rw [hv_] at hF_
      obtain ⟨ad_, ea_, hx_⟩ := Kd.at_int (Kd.R_reads' hF_).2.2 a1 (of_eq_true pi110) (of_eq_true qi110)
      cases ea_
      refine value_ (w1 := w') (v := .int .i64 (rd y107 a1)) (by rfl) rfl ?_ ?_
      ·go_simp
       (try simp only [i64_w])
       try rfl
      refine hK.out _ _ ⟨v108, adz_v108, v112, adz_v112, m4_, m11_, (by rw [ha.out]; exact putSel_upk 3 hb_ rfl rfl rfl), Q_BK105, Q_BK106, Q_HB, Q_HO109, Q_HA_HO109, Q_HO113, Q_HA_HO113, fun h0_ => absurd ((hoff 15 (by kernel_rfl)).symm.trans h0_) (by decide), Q_X4_, Q_X11_⟩
     refine steps_cons ?_ ?_
     ·rintro b a w' ⟨v108, adz_v108, v112, adz_v112, m4_, m11_, ha, Q_BK105, Q_BK106, Q_HB, Q_HO109, Q_HA_HO109, Q_HO113, Q_HA_HO113, Q_BK106_e15, Q_X4_, Q_X11_⟩ hb_ hon hoff
      refine ⟨_, rfl, fun K hK => ?_⟩
      have e6 : a.tmps[6]? = some (.int .i64 a0_0) := by rw [ha]; exact putSel_on (e := (1, 6, .int .i64 a0_0)) 0 rfl rfl (hon 1 (by kernel_rfl)) rfl
      have e10 : a.tmps[10]? = some (.int .i64 (rd y107 a1)) := by rw [ha]; exact putSel_on (e := (5, 10, .int .i64 (rd y107 a1))) 3 rfl rfl (hon 5 (by kernel_rfl)) rfl
      replace ha := Aside0.mk ha
      have BK105 := Aside0.mk Q_BK105
      have BK106 := Aside0.mk (Q_BK106 (hoff 15 (by kernel_rfl)))
      have HB := Aside0.mk Q_HB
      have HO109 := Aside0.mk (Q_HO109 (hon 2 (by kernel_rfl)))
      have HA_HO109 := Aside0.mk (Q_HA_HO109 (hon 2 (by kernel_rfl)))
      refine value_ (w1 := w') (v := .int .i64 (wrap64 (a0_0 + (rd y107 a1)))) (by rfl) rfl ?_ ?_
      ·go_simp
       (try simp only [i64_w])
       try rfl
      refine hK.out _ _ ⟨v108, adz_v108, v112, adz_v112, m4_, m11_, (by rw [ha.out]; exact putSel_upk 4 hb_ rfl rfl rfl), Q_BK105, Q_BK106, Q_HB, Q_HO109, Q_HA_HO109, Q_HO113, Q_HA_HO113, fun h0_ => absurd ((hoff 15 (by kernel_rfl)).symm.trans h0_) (by decide), Q_X4_, Q_X11_⟩
     refine steps_cons ?_ ?_
     ·rintro b a w' ⟨v108, adz_v108, v112, adz_v112, m4_, m11_, ha, Q_BK105, Q_BK106, Q_HB, Q_HO109, Q_HA_HO109, Q_HO113, Q_HA_HO113, Q_BK106_e15, Q_X4_, Q_X11_⟩ hb_ hon hoff
      refine ⟨_, rfl, fun K hK => ?_⟩
      have e12 : a.tmps[12]? = some (.pointer (some ⟨gb105, 1, none⟩)) := by rw [ha]; exact (putSel_off rfl).trans rfl
      replace ha := Aside0.mk ha
      have BK105 := Aside0.mk Q_BK105
      have BK106 := Aside0.mk (Q_BK106 (hoff 15 (by kernel_rfl)))
      have HB := Aside0.mk Q_HB
      have hc0_ : w'.cell? ⟨gb105, 0, none⟩ = some (.int .i64 a0_0) := (blk_cell BK105.out 0).trans rfl
      have hc1_ : w'.cell? ⟨gb105, 1, none⟩ = some (.int .i64 a0_1) := (blk_cell BK105.out 1).trans rfl
      refine value_ (w1 := w') (v := .int .i64 a0_1) (by rfl) rfl ?_ ?_
      ·go_simp
       (try simp only [i64_w])
       try rfl
      refine hK.out _ _ ⟨v108, adz_v108, v112, adz_v112, m4_, m11_, (by rw [ha.out]; exact putSel_upk 5 hb_ rfl rfl rfl), Q_BK105, Q_BK106, Q_HB, Q_HO109, Q_HA_HO109, Q_HO113, Q_HA_HO113, fun h0_ => absurd ((hoff 15 (by kernel_rfl)).symm.trans h0_) (by decide), Q_X4_, Q_X11_⟩
     refine steps_cons ?_ ?_
     ·rintro b a w' ⟨v108, adz_v108, v112, adz_v112, m4_, m11_, ha, Q_BK105, Q_BK106, Q_HB, Q_HO109, Q_HA_HO109, Q_HO113, Q_HA_HO113, Q_BK106_e15, Q_X4_, Q_X11_⟩ hb_ hon hoff
      refine ⟨_, rfl, fun K hK => ?_⟩
      replace ha := Aside0.mk ha
      have BK105 := Aside0.mk Q_BK105
      have BK106 := Aside0.mk (Q_BK106 (hoff 15 (by kernel_rfl)))
      have HB := Aside0.mk Q_HB
      refine Kd.R_lit_step (Kd.int .i64) _ 3 ?hg (N := 14) ?hd (xs := ([(-1), 0, 1, 0] : List Int)) (inner := [.int .i64 (-1), .int .i64 0, .int .i64 1, .int .i64 0]) (ok := fun _ => True) (okp := fun _ => True) ?hr ?hp (fun _ hk => hk) trivial (Below.refl _ _) (Nat.le_refl _) (by simp) ?_; (case hd => rfl); (case hg => rfl); (case hr => first | (go_simp; done) | (go_simp; rfl)); (case hp => exact (Reps.one (show Kd.M (Kd.int .i64) _ _ _ (-1) [.int .i64 (-1)] from rfl) (Reps.one (show Kd.M (Kd.int .i64) _ _ _ 0 [.int .i64 0] from rfl) (Reps.one (show Kd.M (Kd.int .i64) _ _ _ 1 [.int .i64 1] from rfl) (Reps.one (show Kd.M (Kd.int .i64) _ _ _ 0 [.int .i64 0] from rfl) (Reps.none _ _))))))
      intro v112 w9 ho10 hb hg_ hnew_
      clear hg_ hnew_
      (first | rw [← Ny111.out] at ho10 | (simp only [Int.reduceToNat] at ho10; rw [← Ny111.out] at ho10))
      have n0_ := Aside0.mk (Kd.R_lower ho10 (below_size (bl2_ HB.out GE105.out GE106.out)))
      have n1_ := Aside0.mk (bb_ BK105.out hb)
      have n2_ := Aside0.mk (bb_ BK106.out hb)
      have n3_ := Aside0.mk (below_step (bl2_ HB.out GE105.out GE106.out) hb)
      have z_HO109 := fun (h0_ : b 2 = true) => (show Kd.R (Kd.int .i64) 3 w9 w.heap.size (fun _ => True) v108 y107 from by first | exact (Kd.R_elder' (by (with_reducible repeat (first | apply Kd.R_alloc | apply Kd.R_drewN | apply Kd.R_drew)); exact (Q_HO109 h0_)) (Kd.R_base ho10) hb) | exact Kd.R_mono (Kd.R_elder' (by (with_reducible repeat (first | apply Kd.R_alloc | apply Kd.R_drewN | apply Kd.R_drew)); exact (Q_HO109 h0_)) (Kd.R_base ho10) hb) (fun _ h_ => by first | trivial | exact h_ | exact h_.1))
      clear BK105
      clear BK106
      clear HB
      have HO113 := n0_
      have BK105 := n1_
      have BK106 := n2_
      have HB := n3_
      clear n0_ n1_ n2_ n3_
      clear hb ho10
      obtain ⟨Ao11, co11, eo11⟩ := Kd.R_slice HO113.out
      subst eo11
      obtain ⟨ado11, fo11, _⟩ := Kd.at_int (Kd.R_reads' HO113.out).2.2 0 (by decide) (by rw [Ny111.out]; simp)
      cases fo11
      refine hK.out _ _ ⟨v108, adz_v108, .slice (some ado11) y111.length co11, ado11, m4_, m11_, (by rw [ha.out]; exact putSel_upk 6 hb_ rfl rfl rfl), (bk_ BK105.out), fun _ => (bk_ BK106.out), (bl2_ HB.out GE105.out GE106.out), z_HO109, Q_HA_HO109, fun _ => (kr_ HO113.out), fun _ => ⟨_, rfl⟩, fun h0_ => absurd ((hoff 15 (by kernel_rfl)).symm.trans h0_) (by decide), Q_X4_, fun h0_ => absurd ((hoff 11 (by kernel_rfl)).symm.trans h0_) (by decide)⟩
     refine steps_cons ?_ ?_
     ·rintro b a w' ⟨v108, adz_v108, v112, adz_v112, m4_, m11_, ha, Q_BK105, Q_BK106, Q_HB, Q_HO109, Q_HA_HO109, Q_HO113, Q_HA_HO113, Q_BK106_e15, Q_X4_, Q_X11_⟩ hb_ hon hoff
      refine ⟨_, rfl, fun K hK => ?_⟩
      have e14 : a.tmps[14]? = some (v112) := by rw [ha]; exact putSel_on (e := (9, 14, v112)) 6 rfl rfl (hon 9 (by kernel_rfl)) rfl
      have e15 : a.tmps[15]? = some (.int .i64 a1) := by rw [ha]; exact (putSel_off rfl).trans rfl
      replace ha := Aside0.mk ha
      have BK105 := Aside0.mk Q_BK105
      have BK106 := Aside0.mk (Q_BK106 (hoff 15 (by kernel_rfl)))
      have HB := Aside0.mk Q_HB
      have HO113 := Aside0.mk (Q_HO113 (hon 9 (by kernel_rfl)))
      have HA_HO113 := Aside0.mk (Q_HA_HO113 (hon 9 (by kernel_rfl)))
      obtain ⟨c_, hv_⟩ := HA_HO113.out
      rw [hv_] at e14
      refine value_ (w1 := w') (v := .pointer (some (adz_v112.add (a1).toNat))) (by rfl) rfl ?_ ?_
      ·go_simp
       (try simp only [i64_w])
       try rfl
      refine hK.out _ _ ⟨v108, adz_v108, v112, adz_v112, m4_, (.pointer (some (adz_v112.add (a1).toNat))), (by rw [ha.out]; exact putSel_upk 7 hb_ rfl rfl rfl), Q_BK105, Q_BK106, Q_HB, Q_HO109, Q_HA_HO109, Q_HO113, Q_HA_HO113, fun h0_ => absurd ((hoff 15 (by kernel_rfl)).symm.trans h0_) (by decide), Q_X4_, fun _ => rfl⟩
     refine steps_cons ?_ ?_
     ·rintro b a w' ⟨v108, adz_v108, v112, adz_v112, m4_, m11_, ha, Q_BK105, Q_BK106, Q_HB, Q_HO109, Q_HA_HO109, Q_HO113, Q_HA_HO113, Q_BK106_e15, Q_X4_, Q_X11_⟩ hb_ hon hoff
      refine ⟨_, rfl, fun K hK => ?_⟩
      have e16 : a.tmps[16]? = some (m11_) := by rw [ha]; exact putSel_on (e := (11, 16, m11_)) 7 rfl rfl (hon 11 (by kernel_rfl)) rfl
      rw [Q_X11_ (hon 11 (by kernel_rfl))] at e16
      replace ha := Aside0.mk ha
      have BK105 := Aside0.mk Q_BK105
      have BK106 := Aside0.mk (Q_BK106 (hoff 15 (by kernel_rfl)))
      have HB := Aside0.mk Q_HB
      have HO113 := Aside0.mk (Q_HO113 (hon 9 (by kernel_rfl)))
      have HA_HO113 := Aside0.mk (Q_HA_HO113 (hon 9 (by kernel_rfl)))
      obtain ⟨c_, hv_⟩ := HA_HO113.out
      have hF_ := HO113.out
      rw [hv_] at hF_
      obtain ⟨ad_, ea_, hx_⟩ := Kd.at_int (Kd.R_reads' hF_).2.2 a1 (of_eq_true pi114) (of_eq_true qi114)
      cases ea_
      refine value_ (w1 := w') (v := .int .i64 (rd y111 a1)) (by rfl) rfl ?_ ?_
      ·go_simp
       (try simp only [i64_w])
       try rfl
      refine hK.out _ _ ⟨v108, adz_v108, v112, adz_v112, m4_, m11_, (by rw [ha.out]; exact putSel_upk 8 hb_ rfl rfl rfl), Q_BK105, Q_BK106, Q_HB, Q_HO109, Q_HA_HO109, Q_HO113, Q_HA_HO113, fun h0_ => absurd ((hoff 15 (by kernel_rfl)).symm.trans h0_) (by decide), Q_X4_, Q_X11_⟩
     refine steps_cons ?_ ?_
     ·rintro b a w' ⟨v108, adz_v108, v112, adz_v112, m4_, m11_, ha, Q_BK105, Q_BK106, Q_HB, Q_HO109, Q_HA_HO109, Q_HO113, Q_HA_HO113, Q_BK106_e15, Q_X4_, Q_X11_⟩ hb_ hon hoff
      refine ⟨_, rfl, fun K hK => ?_⟩
      have e13 : a.tmps[13]? = some (.int .i64 a0_1) := by rw [ha]; exact putSel_on (e := (8, 13, .int .i64 a0_1)) 5 rfl rfl (hon 8 (by kernel_rfl)) rfl
      have e17 : a.tmps[17]? = some (.int .i64 (rd y111 a1)) := by rw [ha]; exact putSel_on (e := (12, 17, .int .i64 (rd y111 a1))) 8 rfl rfl (hon 12 (by kernel_rfl)) rfl
      replace ha := Aside0.mk ha
      have BK105 := Aside0.mk Q_BK105
      have BK106 := Aside0.mk (Q_BK106 (hoff 15 (by kernel_rfl)))
      have HB := Aside0.mk Q_HB
      have HO113 := Aside0.mk (Q_HO113 (hon 9 (by kernel_rfl)))
      have HA_HO113 := Aside0.mk (Q_HA_HO113 (hon 9 (by kernel_rfl)))
      refine value_ (w1 := w') (v := .int .i64 (wrap64 (a0_1 + (rd y111 a1)))) (by rfl) rfl ?_ ?_
      ·go_simp
       (try simp only [i64_w])
       try rfl
      refine hK.out _ _ ⟨v108, adz_v108, v112, adz_v112, m4_, m11_, (by rw [ha.out]; exact putSel_upk 9 hb_ rfl rfl rfl), Q_BK105, Q_BK106, Q_HB, Q_HO109, Q_HA_HO109, Q_HO113, Q_HA_HO113, fun h0_ => absurd ((hoff 15 (by kernel_rfl)).symm.trans h0_) (by decide), Q_X4_, Q_X11_⟩
     refine steps_cons ?_ ?_
     ·rintro b a w' ⟨v108, adz_v108, v112, adz_v112, m4_, m11_, ha, Q_BK105, Q_BK106, Q_HB, Q_HO109, Q_HA_HO109, Q_HO113, Q_HA_HO113, Q_BK106_e15, Q_X4_, Q_X11_⟩ hb_ hon hoff
      refine ⟨_, rfl, fun K hK => ?_⟩
      have e11 : a.tmps[11]? = some (.int .i64 (wrap64 (a0_0 + (rd y107 a1)))) := by rw [ha]; exact putSel_on (e := (6, 11, .int .i64 (wrap64 (a0_0 + (rd y107 a1))))) 4 rfl rfl (hon 6 (by kernel_rfl)) rfl
      have e18 : a.tmps[18]? = some (.int .i64 (wrap64 (a0_1 + (rd y111 a1)))) := by rw [ha]; exact putSel_on (e := (13, 18, .int .i64 (wrap64 (a0_1 + (rd y111 a1))))) 9 rfl rfl (hon 13 (by kernel_rfl)) rfl
      replace ha := Aside0.mk ha
      have BK105 := Aside0.mk Q_BK105
      have BK106 := Aside0.mk (Q_BK106 (hoff 15 (by kernel_rfl)))
      have HB := Aside0.mk Q_HB
      have HO109 := Aside0.mk (Q_HO109 (hon 2 (by kernel_rfl)))
      have HA_HO109 := Aside0.mk (Q_HA_HO109 (hon 2 (by kernel_rfl)))
      have HO113 := Aside0.mk (Q_HO113 (hon 9 (by kernel_rfl)))
      have HA_HO113 := Aside0.mk (Q_HA_HO113 (hon 9 (by kernel_rfl)))
      refine value_ (w1 := w') (v := .agg #[.int .i64 (wrap64 (a0_0 + (rd y107 a1))), .int .i64 (wrap64 (a0_1 + (rd y111 a1)))]) (by rfl) rfl ?_ ?_
      ·go_simp
       (try simp only [i64_w])
       try rfl
      refine hK.out _ _ ⟨v108, adz_v108, v112, adz_v112, m4_, m11_, (by rw [ha.out]; exact putSel_upk 10 hb_ rfl rfl rfl), Q_BK105, Q_BK106, Q_HB, Q_HO109, Q_HA_HO109, Q_HO113, Q_HA_HO113, fun h0_ => absurd ((hoff 15 (by kernel_rfl)).symm.trans h0_) (by decide), Q_X4_, Q_X11_⟩
     refine steps_cons ?_ ?_
     ·rintro b a w' ⟨v108, adz_v108, v112, adz_v112, m4_, m11_, ha, Q_BK105, Q_BK106, Q_HB, Q_HO109, Q_HA_HO109, Q_HO113, Q_HA_HO113, Q_BK106_e15, Q_X4_, Q_X11_⟩ hb_ hon hoff
      refine ⟨_, rfl, fun K hK => ?_⟩
      have e4 : a.tmps[4]? = some (.pointer (some ⟨gb106, 0, none⟩)) := by rw [ha]; exact (putSel_off rfl).trans rfl
      have e19 : a.tmps[19]? = some (.agg #[.int .i64 (wrap64 (a0_0 + (rd y107 a1))), .int .i64 (wrap64 (a0_1 + (rd y111 a1)))]) := by rw [ha]; exact putSel_on (e := (14, 19, .agg #[.int .i64 (wrap64 (a0_0 + (rd y107 a1))), .int .i64 (wrap64 (a0_1 + (rd y111 a1)))])) 10 rfl rfl (hon 14 (by kernel_rfl)) rfl
      replace ha := Aside0.mk ha
      have BK105 := Aside0.mk Q_BK105
      have BK106 := Aside0.mk (Q_BK106 hb_)
      have HB := Aside0.mk Q_HB
      have HO109 := Aside0.mk (Q_HO109 (hon 2 (by kernel_rfl)))
      have HA_HO109 := Aside0.mk (Q_HA_HO109 (hon 2 (by kernel_rfl)))
      have HO113 := Aside0.mk (Q_HO113 (hon 9 (by kernel_rfl)))
      have HA_HO113 := Aside0.mk (Q_HA_HO113 (hon 9 (by kernel_rfl)))
      obtain ⟨co16, eo16⟩ := HA_HO109.out
      clear HA_HO109
      subst eo16
      obtain ⟨co17, eo17⟩ := HA_HO113.out
      clear HA_HO113
      subst eo17
      have hs18 : w'.cell? ⟨gb106, 0, none⟩ = some (.int .i64 0) := (blk_cell BK106.out 0).trans rfl
      have hfs18 := blk_frozen BK106.out 0
      have hns18_0 := NB105_106.out
      have hms18_0 := NB106_105.out
      have hs19 : w'.cell? ⟨gb106, 1, none⟩ = some (.int .i64 0) := (blk_cell BK106.out 1).trans rfl
      have hfs19 := blk_frozen BK106.out 1
      have hns19_0 := NB105_106.out
      have hms19_0 := NB106_105.out
      refine skip_ (w1 := ?_) (by rfl) rfl ?_ ?_
      rotate_left
      ·go_simp
       rfl
      refine hK.out _ _ ⟨.slice (some adz_v108) y107.length co16, adz_v108, .slice (some adz_v112) y111.length co17, adz_v112, m4_, m11_, (by rw [ha.out]; exact putSel_none (v := undef) rfl), (bf2_ NB105_106.out NB105_106.out BK105.out), fun h0_ => absurd ((up_self b 15).symm.trans h0_) (by decide), (bl2_ HB.out GE105.out GE106.out), fun _ => (by (with_reducible repeat (first | apply Kd.R_alloc | apply Kd.R_drewN | apply Kd.R_drew)); exact Kd.R_mono (Kd.R_far (p := ⟨gb106, 1, none⟩) (Kd.R_far (p := ⟨gb106, 0, none⟩) (Kd.R_types HO109.out BK106.out (by decide)) (fun _ hk => hk.2) (.int .i64 (wrap64 (a0_0 + (rd y107 a1))))) (fun _ hk => hk.2) (.int .i64 (wrap64 (a0_1 + (rd y111 a1))))) (fun _ hk => hk.1)), fun _ => ⟨_, rfl⟩, fun _ => (by (with_reducible repeat (first | apply Kd.R_alloc | apply Kd.R_drewN | apply Kd.R_drew)); exact Kd.R_mono (Kd.R_far (p := ⟨gb106, 1, none⟩) (Kd.R_far (p := ⟨gb106, 0, none⟩) (Kd.R_types HO113.out BK106.out (by decide)) (fun _ hk => hk.2) (.int .i64 (wrap64 (a0_0 + (rd y107 a1))))) (fun _ hk => hk.2) (.int .i64 (wrap64 (a0_1 + (rd y111 a1))))) (fun _ hk => hk.1)), fun _ => ⟨_, rfl⟩, fun _ => (by (with_reducible repeat (first | refine blk_drewN ?_ _ | refine blk_drew ?_ | refine blk_alloc ?_ _)); refine blk_put (cs := #[.int .i64 (wrap64 (a0_0 + (rd y107 a1))), .int .i64 0]) ?_ 1 _ rfl; (with_reducible repeat (first | refine blk_drewN ?_ _ | refine blk_drew ?_ | refine blk_alloc ?_ _)); refine blk_put (cs := #[.int .i64 0, .int .i64 0]) ?_ 0 _ rfl; (with_reducible repeat (first | refine blk_drewN ?_ _ | refine blk_drew ?_ | refine blk_alloc ?_ _)); exact BK106.out), Q_X4_, Q_X11_⟩
     exact steps_nil
    rintro b a w17 hall ⟨v108, adz_v108, v112, adz_v112, m4_, m11_, ha, Q_BK105, Q_BK106, Q_HB, Q_HO109, Q_HA_HO109, Q_HO113, Q_HA_HO113, Q_BK106_e15, Q_X4_, Q_X11_⟩
    clear BK105 BK106 HB
    have hb1_ := hall 1 (by kernel_rfl)
    have hb2_ := hall 2 (by kernel_rfl)
    have hb4_ := hall 4 (by kernel_rfl)
    have hb5_ := hall 5 (by kernel_rfl)
    have hb6_ := hall 6 (by kernel_rfl)
    have hb8_ := hall 8 (by kernel_rfl)
    have hb9_ := hall 9 (by kernel_rfl)
    have hb11_ := hall 11 (by kernel_rfl)
    have hb12_ := hall 12 (by kernel_rfl)
    have hb13_ := hall 13 (by kernel_rfl)
    have hb14_ := hall 14 (by kernel_rfl)
    have hb15_ := hall 15 (by kernel_rfl)
    subst ha
    obtain rfl := Q_X4_ hb4_
    obtain rfl := Q_X11_ hb11_
    simp only [putSel, hb1_, hb2_, hb4_, hb5_, hb6_, hb8_, hb9_, hb11_, hb12_, hb13_, hb14_, hb15_, if_true, Act.put, List.setIfInBounds_toArray, List.set_cons_zero, List.set_cons_succ]
    have BK105 := Aside0.mk Q_BK105
    clear Q_BK105
    clear Q_BK106
    have HB := Aside0.mk Q_HB
    clear Q_HB
    have HO109 := Aside0.mk (Q_HO109 hb2_)
    clear Q_HO109
    have HA_HO109 := Aside0.mk (Q_HA_HO109 hb2_)
    clear Q_HA_HO109
    have HO113 := Aside0.mk (Q_HO113 hb9_)
    clear Q_HO113
    have HA_HO113 := Aside0.mk (Q_HA_HO113 hb9_)
    clear Q_HA_HO113
    have BK106 := Aside0.mk (Q_BK106_e15 hb15_)
    clear Q_BK106_e15
    clear hall hb1_ hb2_ hb4_ hb5_ hb6_ hb8_ hb9_ hb11_ hb12_ hb13_ hb14_ hb15_
    obtain ⟨co18, eo18⟩ := HA_HO109.out
    clear HA_HO109
    subst eo18
    obtain ⟨co19, eo19⟩ := HA_HO113.out
    clear HA_HO113
    subst eo19
    try go_wp2
    refine bodyPost_ret (results_cell_row rfl _ _ gb106 39 #[.int .i64 (wrap64 (a0_0 + (rd y107 a1))), .int .i64 (wrap64 (a0_1 + (rd y111 a1)))] (0, 0) _ rfl (bk_ BK106.out) Tryd.underlying39 rfl (by kernel_rfl)) rfl ?_
    exact ⟨er_, bl2_ HB.out GE105.out GE106.out⟩
   ·rw [if_neg c5] at H
    exact absurd H (by simp)
  ·rw [if_neg c4] at H
   exact absurd H (by simp)
 ·rw [if_neg c3] at H
  exact absurd H (by simp)


def impl_Corner_next.f (a0_0 : Int) (a0_1 : Int) (a1 : Int) : Option (Int × Int) := if a1 = 110 then (some (a0_0, wrap64 (a0_1 - 1))) else (if a1 = 101 then (some (wrap64 (a0_0 + 1), a0_1)) else (if a1 = 115 then (some (a0_0, wrap64 (a0_1 + 1))) else (some (wrap64 (a0_0 - 1), a0_1))))
set_option maxHeartbeats 8000000 in
set_option maxRecDepth 100000 in
theorem impl_Corner_next.calls (a0_0 : Int) (a0_1 : Int) (a1 : Int) (r1 : Int) (r2 : Int) (w : World) (h : impl_Corner_next.f a0_0 a0_1 a1 = some (r1, r2)) :
  Calls Tryd.prog 26 #[.agg #[.int .i64 a0_0, .int .i64 a0_1], .int .u8 a1] w fun e w' => e = .returned (.agg #[.int .i64 r1, .int .i64 r2]) ∧ Below w.heap.size w w' := by
 have hu39 := Tryd.underlying39
 have HB := Aside0.mk (Below.refl w.heap.size w)
 have H : (if a1 = 110 then (some (a0_0, wrap64 (a0_1 - 1))) else (if a1 = 101 then (some (wrap64 (a0_0 + 1), a0_1)) else (if a1 = 115 then (some (a0_0, wrap64 (a0_1 + 1))) else (some (wrap64 (a0_0 - 1), a0_1))))) = some (r1, r2) := h
 clear h
 by_cases c3 : a1 = 110
 ·rw [if_pos c3] at H
  have c3b0 : (a1 == 110) = true := beq_iff_eq.mpr c3
  have c3b1 : (a1 != 110) = false := bne_eq_false_iff_eq.mpr c3
  clear c3
  simp only [Option.some.injEq, Prod.mk.injEq] at H
  obtain ⟨rfl, rfl⟩ := H
  go_enter Tryd.func26, Tryd.ntmps26
  go_wp2_with (first | ((with_reducible refine gate_dst (N := 2) rfl ?_); refine boxE_ (N := 2) (cs := #[.int .i64 a0_0, .int .i64 a0_1]) (t := 39) ?_; intro gb132 hg w4 hbox hb; have n0_ := Aside0.mk (below_step (bl0_ HB.out) hb); have n1_ := Aside0.mk (hbox); have n2_ := Aside0.mk ((bs0_ hg HB.out : w.heap.size ≤ gb132)); have n3_ := Aside0.mk ((bs0_ hg HB.out : w.heap.size ≤ gb132)); clear HB; have HB := n0_; have BK132 := n1_; have GW132 := n2_; have GE132 := n3_; clear n0_ n1_ n2_ n3_; clear hb hbox hg) | ((with_reducible refine gate_dst (N := 4) rfl ?_); refine boxE_ (N := 4) (cs := #[.int .i64 0, .int .i64 0]) (t := 39) ?_; intro gb133 hg w5 hbox hb; have n0_ := Aside0.mk (bb_ BK132.out hb); have n1_ := Aside0.mk (below_step (bl1_ HB.out GE132.out) hb); have n2_ := Aside0.mk (hbox); have n3_ := Aside0.mk ((bs1_ hg HB.out GE132.out : w.heap.size ≤ gb133)); have n4_ := Aside0.mk ((bs1_ hg HB.out GE132.out : w.heap.size ≤ gb133)); have n5_ := Aside0.mk ((nl_ hg BK132.out : gb132 ≠ gb133)); have n6_ := Aside0.mk ((ng_ hg BK132.out : gb133 ≠ gb132)); clear BK132; clear HB; have BK132 := n0_; have HB := n1_; have BK133 := n2_; have GW133 := n3_; have GE133 := n4_; have NB132_133 := n5_; have NB133_132 := n6_; clear n0_ n1_ n2_ n3_ n4_ n5_ n6_; clear hb hbox hg; have hnb6 := NB132_133.out; have hnc6 := NB133_132.out; have hcz7_0 : w5.cell? ⟨gb132, 0, none⟩ = some (.int .i64 a0_0) := (blk_cell BK132.out 0).trans rfl; have hcz7_1 : w5.cell? ⟨gb132, 1, none⟩ = some (.int .i64 a0_1) := (blk_cell BK132.out 1).trans rfl; have hfz7_0 := blk_frozen BK132.out 0; have hfz7_1 := blk_frozen BK132.out 1; have hcz8_0 : w5.cell? ⟨gb133, 0, none⟩ = some (.int .i64 0) := (blk_cell BK133.out 0).trans rfl; have hcz8_1 : w5.cell? ⟨gb133, 1, none⟩ = some (.int .i64 0) := (blk_cell BK133.out 1).trans rfl; have hfz8_0 := blk_frozen BK133.out 0; have hfz8_1 := blk_frozen BK133.out 1))
  refine bodyPost_ret (results_cell_row rfl _ _ gb133 39 #[.int .i64 a0_0, .int .i64 (wrap64 (a0_1 - 1))] (0, 0) _ rfl (by (with_reducible repeat (first | refine blk_drewN ?_ _ | refine blk_drew ?_ | refine blk_alloc ?_ _)); refine blk_put (cs := #[.int .i64 a0_0, .int .i64 0]) ?_ 1 _ rfl; (with_reducible repeat (first | refine blk_drewN ?_ _ | refine blk_drew ?_ | refine blk_alloc ?_ _)); refine blk_put (cs := #[.int .i64 0, .int .i64 0]) ?_ 0 _ rfl; (with_reducible repeat (first | refine blk_drewN ?_ _ | refine blk_drew ?_ | refine blk_alloc ?_ _)); exact BK133.out) Tryd.underlying39 rfl (by kernel_rfl)) rfl ?_
  exact ⟨er_, bl2_ HB.out GE132.out GE133.out⟩
 ·rw [if_neg c3] at H
  have c3b0 : (a1 == 110) = false := beq_eq_false_iff_ne.mpr c3
  have c3b1 : (a1 != 110) = true := bne_iff_ne.mpr c3
  by_cases c9 : a1 = 101
  ·rw [if_pos c9] at H
   have c9b0 : (a1 == 101) = true := beq_iff_eq.mpr c9
   have c9b1 : (a1 != 101) = false := bne_eq_false_iff_eq.mpr c9
   clear c9
   simp only [Option.some.injEq, Prod.mk.injEq] at H
   obtain ⟨rfl, rfl⟩ := H
   go_enter Tryd.func26, Tryd.ntmps26
   go_wp2_with (first | ((with_reducible refine gate_dst (N := 2) rfl ?_); refine boxE_ (N := 2) (cs := #[.int .i64 a0_0, .int .i64 a0_1]) (t := 39) ?_; intro gb132 hg w10 hbox hb; have n0_ := Aside0.mk (below_step (bl0_ HB.out) hb); have n1_ := Aside0.mk (hbox); have n2_ := Aside0.mk ((bs0_ hg HB.out : w.heap.size ≤ gb132)); have n3_ := Aside0.mk ((bs0_ hg HB.out : w.heap.size ≤ gb132)); clear HB; have HB := n0_; have BK132 := n1_; have GW132 := n2_; have GE132 := n3_; clear n0_ n1_ n2_ n3_; clear hb hbox hg) | ((with_reducible refine gate_dst (N := 4) rfl ?_); refine boxE_ (N := 4) (cs := #[.int .i64 0, .int .i64 0]) (t := 39) ?_; intro gb133 hg w11 hbox hb; have n0_ := Aside0.mk (bb_ BK132.out hb); have n1_ := Aside0.mk (below_step (bl1_ HB.out GE132.out) hb); have n2_ := Aside0.mk (hbox); have n3_ := Aside0.mk ((bs1_ hg HB.out GE132.out : w.heap.size ≤ gb133)); have n4_ := Aside0.mk ((bs1_ hg HB.out GE132.out : w.heap.size ≤ gb133)); have n5_ := Aside0.mk ((nl_ hg BK132.out : gb132 ≠ gb133)); have n6_ := Aside0.mk ((ng_ hg BK132.out : gb133 ≠ gb132)); clear BK132; clear HB; have BK132 := n0_; have HB := n1_; have BK133 := n2_; have GW133 := n3_; have GE133 := n4_; have NB132_133 := n5_; have NB133_132 := n6_; clear n0_ n1_ n2_ n3_ n4_ n5_ n6_; clear hb hbox hg; have hnb12 := NB132_133.out; have hnc12 := NB133_132.out; have hcz13_0 : w11.cell? ⟨gb132, 0, none⟩ = some (.int .i64 a0_0) := (blk_cell BK132.out 0).trans rfl; have hcz13_1 : w11.cell? ⟨gb132, 1, none⟩ = some (.int .i64 a0_1) := (blk_cell BK132.out 1).trans rfl; have hfz13_0 := blk_frozen BK132.out 0; have hfz13_1 := blk_frozen BK132.out 1; have hcz14_0 : w11.cell? ⟨gb133, 0, none⟩ = some (.int .i64 0) := (blk_cell BK133.out 0).trans rfl; have hcz14_1 : w11.cell? ⟨gb133, 1, none⟩ = some (.int .i64 0) := (blk_cell BK133.out 1).trans rfl; have hfz14_0 := blk_frozen BK133.out 0; have hfz14_1 := blk_frozen BK133.out 1))
   refine bodyPost_ret (results_cell_row rfl _ _ gb133 39 #[.int .i64 (wrap64 (a0_0 + 1)), .int .i64 a0_1] (0, 0) _ rfl (by (with_reducible repeat (first | refine blk_drewN ?_ _ | refine blk_drew ?_ | refine blk_alloc ?_ _)); refine blk_put (cs := #[.int .i64 (wrap64 (a0_0 + 1)), .int .i64 0]) ?_ 1 _ rfl; (with_reducible repeat (first | refine blk_drewN ?_ _ | refine blk_drew ?_ | refine blk_alloc ?_ _)); refine blk_put (cs := #[.int .i64 0, .int .i64 0]) ?_ 0 _ rfl; (with_reducible repeat (first | refine blk_drewN ?_ _ | refine blk_drew ?_ | refine blk_alloc ?_ _)); exact BK133.out) Tryd.underlying39 rfl (by kernel_rfl)) rfl ?_
   exact ⟨er_, bl2_ HB.out GE132.out GE133.out⟩
  ·rw [if_neg c9] at H
   have c9b0 : (a1 == 101) = false := beq_eq_false_iff_ne.mpr c9
   have c9b1 : (a1 != 101) = true := bne_iff_ne.mpr c9
   by_cases c15 : a1 = 115
   ·rw [if_pos c15] at H
    have c15b0 : (a1 == 115) = true := beq_iff_eq.mpr c15
    have c15b1 : (a1 != 115) = false := bne_eq_false_iff_eq.mpr c15
    clear c15
    simp only [Option.some.injEq, Prod.mk.injEq] at H
    obtain ⟨rfl, rfl⟩ := H
    go_enter Tryd.func26, Tryd.ntmps26
    go_wp2_with (first | ((with_reducible refine gate_dst (N := 2) rfl ?_); refine boxE_ (N := 2) (cs := #[.int .i64 a0_0, .int .i64 a0_1]) (t := 39) ?_; intro gb132 hg w16 hbox hb; have n0_ := Aside0.mk (below_step (bl0_ HB.out) hb); have n1_ := Aside0.mk (hbox); have n2_ := Aside0.mk ((bs0_ hg HB.out : w.heap.size ≤ gb132)); have n3_ := Aside0.mk ((bs0_ hg HB.out : w.heap.size ≤ gb132)); clear HB; have HB := n0_; have BK132 := n1_; have GW132 := n2_; have GE132 := n3_; clear n0_ n1_ n2_ n3_; clear hb hbox hg) | ((with_reducible refine gate_dst (N := 4) rfl ?_); refine boxE_ (N := 4) (cs := #[.int .i64 0, .int .i64 0]) (t := 39) ?_; intro gb133 hg w17 hbox hb; have n0_ := Aside0.mk (bb_ BK132.out hb); have n1_ := Aside0.mk (below_step (bl1_ HB.out GE132.out) hb); have n2_ := Aside0.mk (hbox); have n3_ := Aside0.mk ((bs1_ hg HB.out GE132.out : w.heap.size ≤ gb133)); have n4_ := Aside0.mk ((bs1_ hg HB.out GE132.out : w.heap.size ≤ gb133)); have n5_ := Aside0.mk ((nl_ hg BK132.out : gb132 ≠ gb133)); have n6_ := Aside0.mk ((ng_ hg BK132.out : gb133 ≠ gb132)); clear BK132; clear HB; have BK132 := n0_; have HB := n1_; have BK133 := n2_; have GW133 := n3_; have GE133 := n4_; have NB132_133 := n5_; have NB133_132 := n6_; clear n0_ n1_ n2_ n3_ n4_ n5_ n6_; clear hb hbox hg; have hnb18 := NB132_133.out; have hnc18 := NB133_132.out; have hcz19_0 : w17.cell? ⟨gb132, 0, none⟩ = some (.int .i64 a0_0) := (blk_cell BK132.out 0).trans rfl; have hcz19_1 : w17.cell? ⟨gb132, 1, none⟩ = some (.int .i64 a0_1) := (blk_cell BK132.out 1).trans rfl; have hfz19_0 := blk_frozen BK132.out 0; have hfz19_1 := blk_frozen BK132.out 1; have hcz20_0 : w17.cell? ⟨gb133, 0, none⟩ = some (.int .i64 0) := (blk_cell BK133.out 0).trans rfl; have hcz20_1 : w17.cell? ⟨gb133, 1, none⟩ = some (.int .i64 0) := (blk_cell BK133.out 1).trans rfl; have hfz20_0 := blk_frozen BK133.out 0; have hfz20_1 := blk_frozen BK133.out 1))
    refine bodyPost_ret (results_cell_row rfl _ _ gb133 39 #[.int .i64 a0_0, .int .i64 (wrap64 (a0_1 + 1))] (0, 0) _ rfl (by (with_reducible repeat (first | refine blk_drewN ?_ _ | refine blk_drew ?_ | refine blk_alloc ?_ _)); refine blk_put (cs := #[.int .i64 a0_0, .int .i64 0]) ?_ 1 _ rfl; (with_reducible repeat (first | refine blk_drewN ?_ _ | refine blk_drew ?_ | refine blk_alloc ?_ _)); refine blk_put (cs := #[.int .i64 0, .int .i64 0]) ?_ 0 _ rfl; (with_reducible repeat (first | refine blk_drewN ?_ _ | refine blk_drew ?_ | refine blk_alloc ?_ _)); exact BK133.out) Tryd.underlying39 rfl (by kernel_rfl)) rfl ?_
    exact ⟨er_, bl2_ HB.out GE132.out GE133.out⟩
   ·rw [if_neg c15] at H
    have c15b0 : (a1 == 115) = false := beq_eq_false_iff_ne.mpr c15
    have c15b1 : (a1 != 115) = true := bne_iff_ne.mpr c15
    simp only [Option.some.injEq, Prod.mk.injEq] at H
    obtain ⟨rfl, rfl⟩ := H
    go_enter Tryd.func26, Tryd.ntmps26
    go_wp2_with (first | ((with_reducible refine gate_dst (N := 2) rfl ?_); refine boxE_ (N := 2) (cs := #[.int .i64 a0_0, .int .i64 a0_1]) (t := 39) ?_; intro gb132 hg w21 hbox hb; have n0_ := Aside0.mk (below_step (bl0_ HB.out) hb); have n1_ := Aside0.mk (hbox); have n2_ := Aside0.mk ((bs0_ hg HB.out : w.heap.size ≤ gb132)); have n3_ := Aside0.mk ((bs0_ hg HB.out : w.heap.size ≤ gb132)); clear HB; have HB := n0_; have BK132 := n1_; have GW132 := n2_; have GE132 := n3_; clear n0_ n1_ n2_ n3_; clear hb hbox hg) | ((with_reducible refine gate_dst (N := 4) rfl ?_); refine boxE_ (N := 4) (cs := #[.int .i64 0, .int .i64 0]) (t := 39) ?_; intro gb133 hg w22 hbox hb; have n0_ := Aside0.mk (bb_ BK132.out hb); have n1_ := Aside0.mk (below_step (bl1_ HB.out GE132.out) hb); have n2_ := Aside0.mk (hbox); have n3_ := Aside0.mk ((bs1_ hg HB.out GE132.out : w.heap.size ≤ gb133)); have n4_ := Aside0.mk ((bs1_ hg HB.out GE132.out : w.heap.size ≤ gb133)); have n5_ := Aside0.mk ((nl_ hg BK132.out : gb132 ≠ gb133)); have n6_ := Aside0.mk ((ng_ hg BK132.out : gb133 ≠ gb132)); clear BK132; clear HB; have BK132 := n0_; have HB := n1_; have BK133 := n2_; have GW133 := n3_; have GE133 := n4_; have NB132_133 := n5_; have NB133_132 := n6_; clear n0_ n1_ n2_ n3_ n4_ n5_ n6_; clear hb hbox hg; have hnb23 := NB132_133.out; have hnc23 := NB133_132.out; have hcz24_0 : w22.cell? ⟨gb132, 0, none⟩ = some (.int .i64 a0_0) := (blk_cell BK132.out 0).trans rfl; have hcz24_1 : w22.cell? ⟨gb132, 1, none⟩ = some (.int .i64 a0_1) := (blk_cell BK132.out 1).trans rfl; have hfz24_0 := blk_frozen BK132.out 0; have hfz24_1 := blk_frozen BK132.out 1; have hcz25_0 : w22.cell? ⟨gb133, 0, none⟩ = some (.int .i64 0) := (blk_cell BK133.out 0).trans rfl; have hcz25_1 : w22.cell? ⟨gb133, 1, none⟩ = some (.int .i64 0) := (blk_cell BK133.out 1).trans rfl; have hfz25_0 := blk_frozen BK133.out 0; have hfz25_1 := blk_frozen BK133.out 1))
    refine bodyPost_ret (results_cell_row rfl _ _ gb133 39 #[.int .i64 (wrap64 (a0_0 - 1)), .int .i64 a0_1] (0, 0) _ rfl (by (with_reducible repeat (first | refine blk_drewN ?_ _ | refine blk_drew ?_ | refine blk_alloc ?_ _)); refine blk_put (cs := #[.int .i64 (wrap64 (a0_0 - 1)), .int .i64 0]) ?_ 1 _ rfl; (with_reducible repeat (first | refine blk_drewN ?_ _ | refine blk_drew ?_ | refine blk_alloc ?_ _)); refine blk_put (cs := #[.int .i64 0, .int .i64 0]) ?_ 0 _ rfl; (with_reducible repeat (first | refine blk_drewN ?_ _ | refine blk_drew ?_ | refine blk_alloc ?_ _)); exact BK133.out) Tryd.underlying39 rfl (by kernel_rfl)) rfl ?_
    exact ⟨er_, bl2_ HB.out GE132.out GE133.out⟩


theorem blk_keep {W w1 : World} {g : Nat} {o : Obj} (h : W.heap[g]? = some o) (hb : Below W.heap.size W w1) : w1.heap[g]? = some o :=
  (hb.block g (Array.getElem?_eq_some_iff.1 h).1).trans h

def nextC (c : S39) (b : Int) : S39 := match impl_Corner_next.f c.f0 c.f1 b with
 | some (x, y) => ⟨x, y⟩
 | none => ⟨0, 0⟩
def walkFrom (c : S39) : List UInt8 → List S39
 | [] => []
 | b :: t => nextC c (b.toNat : Int) :: walkFrom (nextC c (b.toNat : Int)) t
def cornersL (l : List UInt8) : List S39 := ⟨0, 0⟩ :: walkFrom ⟨0, 0⟩ l
theorem walkFrom_len : ∀ (l : List UInt8) (c : S39), (walkFrom c l).length = l.length
 | [], _ => rfl
 | b :: t, c => by unfold walkFrom; rw [List.length_cons, walkFrom_len t, List.length_cons]
theorem cornersL_len (l : List UInt8) : (cornersL l).length = l.length + 1 := by unfold cornersL; rw [List.length_cons, walkFrom_len]
theorem walkFrom_snoc : ∀ (l : List UInt8) (c : S39) (b : UInt8), walkFrom c (l ++ [b]) = walkFrom c l ++ [nextC ((c :: walkFrom c l).getD l.length ⟨0, 0⟩) (b.toNat : Int)]
 | [], c, b => by simp [walkFrom]
 | a :: t, c, b => by
  have ih := walkFrom_snoc t (nextC c (a.toNat : Int)) b
  rw [List.cons_append]
  simp only [walkFrom, List.cons_append, List.length_cons, List.getD_cons_succ]
  rw [ih]
theorem cornersL_snoc (l : List UInt8) (b : UInt8) : cornersL (l ++ [b]) = cornersL l ++ [nextC ((cornersL l).getD l.length ⟨0, 0⟩) (b.toNat : Int)] := by
 unfold cornersL
 rw [walkFrom_snoc, List.cons_append]
theorem next_some (c : S39) (b : Int) : impl_Corner_next.f c.f0 c.f1 b = some ((nextC c b).f0, (nextC c b).f1) := by
 have h : ∃ r, impl_Corner_next.f c.f0 c.f1 b = some r := by
  unfold impl_Corner_next.f
  repeat' split
  all_goals exact ⟨_, rfl⟩
 obtain ⟨⟨x, y⟩, h⟩ := h
 unfold nextC
 rw [h]
def inP (S : List (Int × Int)) (c : Int × Int) : Option Value := if c ∈ S then some (.bool true) else none
theorem next_bound (c : S39) (b : Int) (B : Int) (h0 : -B ≤ c.f0 ∧ c.f0 ≤ B) (h1 : -B ≤ c.f1 ∧ c.f1 ≤ B) (hB : B ≤ 100000) : (-(B + 1) ≤ (nextC c b).f0 ∧ (nextC c b).f0 ≤ B + 1) ∧ (-(B + 1) ≤ (nextC c b).f1 ∧ (nextC c b).f1 ≤ B + 1) := by
 have h := next_some c b
 generalize nextC c b = d at h
 unfold impl_Corner_next.f at h
 have e1 : wrap64 (c.f1 - 1) = c.f1 - 1 := by unfold wrap64; omega
 have e2 : wrap64 (c.f0 + 1) = c.f0 + 1 := by unfold wrap64; omega
 have e3 : wrap64 (c.f1 + 1) = c.f1 + 1 := by unfold wrap64; omega
 have e4 : wrap64 (c.f0 - 1) = c.f0 - 1 := by unfold wrap64; omega
 rw [e1, e2, e3, e4] at h
 clear e1 e2 e3 e4
 repeat' split at h
 all_goals (simp only [Option.some.injEq, Prod.mk.injEq] at h; omega)
theorem walkFrom_bound : ∀ (l : List UInt8) (c : S39) (B : Int), (-B ≤ c.f0 ∧ c.f0 ≤ B) → (-B ≤ c.f1 ∧ c.f1 ≤ B) → B + l.length ≤ 100000 → ∀ d ∈ walkFrom c l, (-(B + l.length) ≤ d.f0 ∧ d.f0 ≤ B + l.length) ∧ (-(B + l.length) ≤ d.f1 ∧ d.f1 ≤ B + l.length)
 | [], c, B, _, _, _, d, hd => by cases hd
 | b :: t, c, B, h0, h1, hB, d, hd => by
  simp only [walkFrom, List.mem_cons, List.length_cons] at hd hB ⊢
  obtain ⟨q0, q1⟩ := next_bound c (b.toNat : Int) B h0 h1 (by omega)
  rcases hd with rfl | hd
  ·omega
  ·have := walkFrom_bound t (nextC c (b.toNat : Int)) (B + 1) q0 q1 (by omega) d hd
   omega
theorem cornersL_bound (l : List UInt8) (hl : l.length ≤ 1000) : ∀ d ∈ cornersL l, (-1000 ≤ d.f0 ∧ d.f0 ≤ 1000) ∧ (-1000 ≤ d.f1 ∧ d.f1 ≤ 1000) := fun d hd => by
 unfold cornersL at hd
 rcases List.mem_cons.1 hd with rfl | hd
 ·simp
 ·have := walkFrom_bound l ⟨0, 0⟩ 0 (by simp) (by simp) (by omega) d hd
  omega
theorem rd_ofNat (l : List Int) (k : Nat) (h : k < l.length) : rd l (k : Int) = l[k] := by
 unfold rd; rw [Int.toNat_natCast, List.getD_eq_getElem?_getD, List.getElem?_eq_getElem h]; rfl
theorem R_oneC (w : World) (c : S39) : Kd.R k39 39 (w.alloc (.cells #[.int .i64 c.f0, .int .i64 c.f1] 39)) w.heap.size (fun k => k ≠ w.heap.size + 1) (.slice (some ⟨w.heap.size, 0, none⟩) 1 1) [c] := by
 refine ⟨fun k hk => ?_, [.int .i64 c.f0, .int .i64 c.f1], ?_, ?_⟩
 ·simp [Value.ownBlock] at hk
  omega
 ·have h := World.ownsRow_lit (base := w.heap.size) (e := 39) (size := 2) w #[.int .i64 c.f0, .int .i64 c.f1] 1 (Nat.le_refl _) (by simp [maxLen]) (by simp)
  have h2 : (w.alloc (.cells #[.int .i64 c.f0, .int .i64 c.f1] 39)).ownsRow w.heap.size 39 2 (.slice (some ⟨w.heap.size, 0, none⟩) 1 1) 1 [.int .i64 c.f0, .int .i64 c.f1] := by simpa using h
  exact h2
 ·refine ⟨rfl, fun j p hj => ?_⟩
  obtain ⟨hjl, hp⟩ := List.getElem?_eq_some_iff.1 hj
  have hj0 : j = 0 := by simp at hjl; omega
  subst hj0
  have hpc : p = c := by simpa using hp.symm
  subst hpc
  exact k39_mkM _ _ _ p
theorem mkBytes {W : World} {g : Nat} {s : ByteArray} {cc : Nat} {fr : Nat × Nat} (h4 : W.heap[g]? = some (.cells (bytesRow s cc) 5 fr)) (hs2 : s.size ≤ 1000) : Kd.C (Kd.int .u8) W (some ⟨g, 0, none⟩) s.size (s.data.toList.map fun b => (b.toNat : Int)) := by
 refine Kd.C_of_reads (d := (0 : Int)) (h1 := fun _ => rfl) ⟨by rw [List.length_map]; rfl, by omega, fun _ => ⟨_, rfl, fun j hj => ?_⟩⟩
 have hj2 : j < s.data.size := by simpa using hj
 have hat := bytesRow_at s cc j hj2
 rw [add_plain]
 simp only [World.cell?, h4]
 simp [hat, hj2, List.getD_eq_getElem?_getD, Array.getElem?_eq_getElem hj2]
set_option maxRecDepth 100000 in
set_option maxHeartbeats 8000000 in
theorem walk_any (s : ByteArray) (hs : s.size ≤ 1000) (w : World) :
  Calls Tryd.prog 23 #[.string s] w fun e w' => ∃ v, e = .returned v ∧ Kd.R k39 39 w' w.heap.size (fun _ => True) v (cornersL s.data.toList) ∧ Below w.heap.size w w' := by
 have hconv := fun W : World => run_bytes_of_string (P := Tryd.prog) W 9 44 5 s Tryd.underlying9 Tryd.underlying44 Tryd.underlying5
 have hn : s.size ≤ 1000 := hs
 clear hs
 go_enter Tryd.func23, Tryd.ntmps23
 go_wp2_with fail
 have R0 := Aside0.mk (R_oneC w (⟨0, 0⟩ : S39))
 generalize grownCap (w.alloc (.cells #[.int .i64 0, .int .i64 0] 39)) s.size 0 5 = cc
 have BY0 : Aside0 ((((w.alloc (.cells #[.int .i64 0, .int .i64 0] 39)).alloc (.cells (bytesRow s cc) 5 ((bytesRow s cc).size, (bytesRow s cc).size + 1))).drew).heap[w.heap.size + 1]? = some (.cells (bytesRow s cc) 5 ((bytesRow s cc).size, (bytesRow s cc).size + 1))) := ⟨by
  have h := heap_alloc_new (w.alloc (.cells #[.int .i64 0, .int .i64 0] 39)) (.cells (bytesRow s cc) 5 ((bytesRow s cc).size, (bytesRow s cc).size + 1))
  have e : (w.alloc (.cells #[.int .i64 0, .int .i64 0] 39)).heap.size = w.heap.size + 1 := by simp
  rw [e] at h
  exact h⟩
 generalize hW : ((w.alloc (.cells #[.int .i64 0, .int .i64 0] 39)).alloc (.cells (bytesRow s cc) 5 ((bytesRow s cc).size, (bytesRow s cc).size + 1))).drew = W1 at BY0 ⊢
 have BW0 : Aside0 (Below w.heap.size w W1) := ⟨by rw [← hW]; exact below_drew (below_alloc (below_alloc (Below.refl _ _) _) _)⟩
 have RW0 : Aside0 (Kd.R k39 39 W1 w.heap.size (fun k => k ≠ w.heap.size + 1) (.slice (some ⟨w.heap.size, 0, none⟩) 1 1) (cornersL (s.data.toList.take 0))) := ⟨by rw [← hW]; exact Kd.R_drew (Kd.R_alloc R0.out _)⟩
 clear hW R0 hconv
 go_loopg [3, 5, 11] s.size (fun gg u3 _ u11 wr => ∃ i : Nat, i ≤ s.size ∧ s.size - i ≤ gg ∧ u11 = .int .i64 i ∧ Aside0 (Kd.R k39 39 wr w.heap.size (fun k => k ≠ w.heap.size + 1) u3 (cornersL (s.data.toList.take i))) ∧ Aside0 (Below w.heap.size w wr) ∧ Aside0 (wr.heap[w.heap.size + 1]? = some (.cells (bytesRow s cc) 5 ((bytesRow s cc).size, (bytesRow s cc).size + 1))))
 case atStart => exact ⟨0, Nat.zero_le _, by omega, rfl, RW0, BW0, BY0⟩
 case round =>
  clear RW0 BW0 BY0
  obtain ⟨i, hi, hgg, rfl, HO, HB, HY⟩ := hrel
  have hsz : s.data.toList.length = s.size := by simp
  obtain ⟨A, c, rfl⟩ := Kd.R_slice HO.out
  have hlen : (cornersL (s.data.toList.take i)).length = i + 1 := by rw [cornersL_len, List.length_take, hsz]; omega
  by_cases hlt : i < s.size
  ·have hltz : (i : Int) < (s.size : Int) := by omega
   have hil : i < s.data.toList.length := by omega
   obtain ⟨ad, eA, hx⟩ := Kd.at_int (mkBytes HY.out hn) (i : Int) (by omega) (by omega)
   cases eA
   have HO2 : Aside0 (Kd.R k39 39 wr w.heap.size (fun k => k ≠ w.heap.size + 1) (.slice A (i + 1) c) (cornersL (s.data.toList.take i))) := ⟨by have h := HO.out; rw [hlen] at h; exact h⟩
   obtain ⟨ad2, eA2, hy1, hy2⟩ := at_T39 (Kd.R_reads' HO2.out).2.2 (i : Int) (by omega) (by rw [hlen]; omega)
   subst eA2
   rw [hlen]
   have hrd : rd (s.data.toList.map fun b => (b.toNat : Int)) (i : Int) = (((s.data.toList[i]'hil).toNat : Nat) : Int) := by
    rw [rd_ofNat _ _ (by rw [List.length_map]; exact hil), List.getElem_map]
   have htake : s.data.toList.take (i + 1) = s.data.toList.take i ++ [s.data.toList[i]'hil] := List.take_succ_eq_append_getElem hil
   have hcs := cornersL_snoc (s.data.toList.take i) (s.data.toList[i]'hil)
   rw [← htake, List.length_take, hsz, Nat.min_eq_left hi] at hcs
   have hrc : rd_T39 (cornersL (s.data.toList.take i)) (i : Int) = (cornersL (s.data.toList.take i)).getD i ⟨0, 0⟩ := by unfold rd_T39; rw [Int.toNat_natCast]; rfl
   rw [hrd] at hx
   rw [hrc, Int.toNat_natCast] at hy1 hy2
   rw [Int.toNat_natCast, add_plain] at hx
   have HCS := Aside0.mk hcs
   clear hcs hrd hrc htake HO hlen
   generalize (s.data.toList[i]'hil).toNat = b at hx HCS
   generalize hce : (cornersL (s.data.toList.take i)).getD i ⟨0, 0⟩ = ce at hy1 hy2 HCS
   clear hce
   have HN := Aside0.mk (next_some ce (b : Int))
   generalize nextC ce (b : Int) = nx at HN HCS
   generalize cornersL (s.data.toList.take i) = xs at HO2 HCS
   have e1 : IntKind.i64.wrap (((i + 1 : Nat) : Int) - 1) = (i : Int) := by rw [IntKind.wrap_i64]; omega
   have HL : Aside0 (xs.length = i + 1) := ⟨(Kd.R_reads' HO2.out).1.symm⟩
   go_wp2_with (first
    | (go_at_call 26; refine (impl_Corner_next.calls ce.f0 ce.f1 (b : Int) nx.f0 nx.f1 _ HN.out).mono ?_; rintro e wn ⟨rfl, hb⟩; have HO3 := Aside0.mk (Kd.R_below HO2.out hb); have HB3 := Aside0.mk (below_step HB.out hb); have HY3 := Aside0.mk (blk_keep HY.out hb); clear hb)
    | (at_builtin; refine Kd.R_append k39 (w0 := w) w.heap.size rfl (.tmp 15) (.tmp 24) 35 39 (.agg #[(.int .i64 0), (.int .i64 0)]) 16 rfl Tryd.underlying35 info39 rfl (by decide) (by omega) (.slice (some ad2) (i + 1) c) xs nx [.int .i64 nx.f0, .int .i64 nx.f1] (fun k => k ≠ w.heap.size + 1) (fun _ => False) rfl rfl ?aP (fun _ hk => hk.elim) ?aF ?aO ?aB ?aS ?aL ?_; (case aP => exact k39_mkM _ _ _ nx); (case aF => exact fun k hk => by have h_ := (Array.getElem?_eq_some_iff.1 HY3.out).1; omega); (case aO => exact HO3.out); (case aB => exact HB3.out); (case aS => exact HB3.out.size); (case aL => have h_ := HL.out; rw [h_]; omega); intro v1 w1 ho hb hg hat; have HO4 := Aside0.mk ho; have HB4 := Aside0.mk hb; have HY4 := Aside0.mk (blk_grown HY3.out hg (Kd.R_away HO3.out (fun _ hk => hk))); clear ho hb hg hat))
   rw [← HCS.out] at HO4
   go_roundg (s.size - (i + 1))
   case measure => omega
   case rel => exact ⟨i + 1, by omega, by omega, by go_num, HO4, HB4, HY4⟩
  ·have hltz : ¬ (i : Int) < (s.size : Int) := by omega
   have hie : i = s.size := by omega
   subst hie
   have hall : s.data.toList.take s.size = s.data.toList := by rw [← hsz, List.take_length]
   rw [hall] at HO ⊢
   go_wp2_with fail
   go_ret
   exact ⟨_, rfl, Kd.R_mono HO.out (fun _ _ => trivial), HB.out⟩
def impl_walk.f (a0 : ByteArray) : Option (List S39) := if a0.size ≤ 1000 then some (cornersL a0.data.toList) else none
theorem impl_walk.calls (a0 : ByteArray) (r : List S39) (w : World) (h : impl_walk.f a0 = some r) :
  Calls Tryd.prog 23 #[.string a0] w fun e w' => ∃ v0_ : Value, e = .returned v0_ ∧ Kd.R k39 39 w' w.heap.size (fun _ => True) v0_ r ∧ Below w.heap.size w w' := by
 unfold impl_walk.f at h
 split at h
 ·rename_i h0
  obtain rfl := Option.some.inj h
  exact walk_any a0 h0 w
 ·cases h


def pairC (c : S39) : Int × Int := (c.f0, c.f1)
def stepBW (b : UInt8) : Bool := b == 110 || b == 101 || b == 115 || b == 119
def dirN (b : Int) : Int := if b = 110 then 0 else if b = 101 then 1 else if b = 115 then 2 else if b = 119 then 3 else -1
theorem loDir_f (b : Int) (k : Nat) (hk : 10 < k) : spec_loDir.f k b = some (dirN b) := by
  obtain ⟨k, rfl⟩ : ∃ q, k = q + 5 := ⟨k - 5, by omega⟩
  have w0 : wrap64 (0 + 1) = 1 := by unfold wrap64; omega
  have w1 : wrap64 (1 + 1) = 2 := by unfold wrap64; omega
  have w2 : wrap64 (2 + 1) = 3 := by unfold wrap64; omega
  have w3 : wrap64 (3 + 1) = 4 := by unfold wrap64; omega
  have hs : ((⟨#[110, 101, 115, 119]⟩ : ByteArray).size : Int) = 4 := rfl
  have b0 : bt (⟨#[110, 101, 115, 119]⟩ : ByteArray) 0 = 110 := by decide
  have b1 : bt (⟨#[110, 101, 115, 119]⟩ : ByteArray) 1 = 101 := by decide
  have b2 : bt (⟨#[110, 101, 115, 119]⟩ : ByteArray) 2 = 115 := by decide
  have b3 : bt (⟨#[110, 101, 115, 119]⟩ : ByteArray) 3 = 119 := by decide
  unfold spec_loDir.f dirN
  simp only [spec_loDir.l0, spec_liDirs.f, Option.bind_some, w0, w1, w2, w3, hs, b0, b1, b2, b3]
  by_cases h0 : b = 110
  · subst h0; simp
  · by_cases h1 : b = 101
    · subst h1; simp
    · by_cases h2 : b = 115
      · subst h2; simp
      · by_cases h3 : b = 119
        · subst h3; simp
        · simp [h0, h1, h2, h3, Ne.symm h0, Ne.symm h1, Ne.symm h2, Ne.symm h3]
theorem byte_eq (b c : UInt8) : ((b.toNat : Int) = (c.toNat : Int)) ↔ b = c := ⟨fun h => UInt8.toNat_inj.1 (by exact_mod_cast h), fun h => by rw [h]⟩
theorem dir_step (b : UInt8) : stepBW b = true ↔ ¬ dirN (b.toNat : Int) < 0 := by
  have h0 : ((b.toNat : Int) = 110) ↔ b = 110 := byte_eq b 110
  have h1 : ((b.toNat : Int) = 101) ↔ b = 101 := byte_eq b 101
  have h2 : ((b.toNat : Int) = 115) ↔ b = 115 := byte_eq b 115
  have h3 : ((b.toNat : Int) = 119) ↔ b = 119 := byte_eq b 119
  unfold stepBW dirN
  simp only [h0, h1, h2, h3, Bool.or_eq_true, beq_iff_eq]
  by_cases q0 : b = 110
  · simp [q0]
  · by_cases q1 : b = 101
    · simp [q1]
    · by_cases q2 : b = 115
      · simp [q2]
      · by_cases q3 : b = 119
        · simp [q3]
        · simp [q0, q1, q2, q3]
theorem loStepW_f (x y : Int) (b : UInt8) (hb : stepBW b = true) (hx : -1000 ≤ x ∧ x ≤ 1000) (hy : -1000 ≤ y ∧ y ≤ 1000) : spec_loStep.f x y (dirN (b.toNat : Int)) = some ((nextC ⟨x, y⟩ (b.toNat : Int)).f0, (nextC ⟨x, y⟩ (b.toNat : Int)).f1) := by
  have r0 : rd ([0, 1, 0, -1] : List Int) 0 = 0 := rfl
  have r1 : rd ([0, 1, 0, -1] : List Int) 1 = 1 := rfl
  have r2 : rd ([0, 1, 0, -1] : List Int) 2 = 0 := rfl
  have r3 : rd ([0, 1, 0, -1] : List Int) 3 = -1 := rfl
  have q0 : rd ([-1, 0, 1, 0] : List Int) 0 = -1 := rfl
  have q1 : rd ([-1, 0, 1, 0] : List Int) 1 = 0 := rfl
  have q2 : rd ([-1, 0, 1, 0] : List Int) 2 = 1 := rfl
  have q3 : rd ([-1, 0, 1, 0] : List Int) 3 = 0 := rfl
  have e0 : wrap64 x = x := by unfold wrap64; omega
  have e1 : wrap64 (x + 1) = x + 1 := by unfold wrap64; omega
  have e2 : wrap64 (x + -1) = x - 1 := by unfold wrap64; omega
  have e3 : wrap64 (x - 1) = x - 1 := by unfold wrap64; omega
  have f0 : wrap64 y = y := by unfold wrap64; omega
  have f1 : wrap64 (y + 1) = y + 1 := by unfold wrap64; omega
  have f2 : wrap64 (y + -1) = y - 1 := by unfold wrap64; omega
  have f3 : wrap64 (y - 1) = y - 1 := by unfold wrap64; omega
  unfold nextC impl_Corner_next.f spec_loStep.f
  unfold stepBW at hb
  simp only [Bool.or_eq_true, beq_iff_eq] at hb
  rcases hb with ((rfl | rfl) | rfl) | rfl
  · have hd : dirN ((110 : UInt8).toNat : Int) = 0 := by decide
    rw [hd]
    simp [r0, q0, e0, f2, f3]
  · have hd : dirN ((101 : UInt8).toNat : Int) = 1 := by decide
    rw [hd]
    simp [r1, q1, e1, f0]
  · have hd : dirN ((115 : UInt8).toNat : Int) = 2 := by decide
    rw [hd]
    simp [r2, q2, e0, f1]
  · have hd : dirN ((119 : UInt8).toNat : Int) = 3 := by decide
    rw [hd]
    simp [r3, q3, e2, e3, f0]
theorem liHas_l0 (l : List S39) (x y : Int) (hl : l.length ≤ 1000) : ∀ (d k i : Nat), l.length - i = d → i ≤ l.length → d < k → spec_liHas.l0 k l (l.length : Int) (i : Int) x y = some (decide ((x, y) ∈ (l.drop i).map pairC)) := by
  intro d
  induction d with
  | zero =>
    intro k i h1 h2 h3
    obtain ⟨k, rfl⟩ : ∃ q, k = q + 1 := ⟨k - 1, by omega⟩
    simp only [spec_liHas.l0]
    rw [if_neg (by omega), List.drop_of_length_le (by omega)]
    rfl
  | succ d ih =>
    intro k i h1 h2 h3
    obtain ⟨k, rfl⟩ : ∃ q, k = q + 1 := ⟨k - 1, by omega⟩
    have hi : i < l.length := by omega
    have e1 : wrap64 ((i : Int) + 1) = ((i + 1 : Nat) : Int) := by unfold wrap64; omega
    have hrd : rd_T39 l (i : Int) = l[i] := by unfold rd_T39; rw [Int.toNat_natCast, List.getD_eq_getElem?_getD, List.getElem?_eq_getElem hi]; rfl
    simp only [spec_liHas.l0]
    rw [if_pos (by omega), if_pos (by omega), if_pos (by omega), hrd, e1, ih k (i + 1) (by omega) (by omega) (by omega), List.drop_eq_getElem_cons hi, List.map_cons]
    by_cases hq : (l[i].f0 == x && (l[i].f1 == y)) = true
    · rw [if_pos hq]
      rw [Bool.and_eq_true, beq_iff_eq, beq_iff_eq] at hq
      have : (x, y) = pairC l[i] := by unfold pairC; rw [hq.1, hq.2]
      rw [this]
      simp
    · rw [if_neg hq]
      have : ¬ (x, y) = pairC l[i] := fun h => hq (by
        unfold pairC at h
        rw [Prod.mk.injEq] at h
        rw [← h.1, ← h.2]; simp)
      congr 1
      rw [decide_eq_decide, List.mem_cons]
      exact ⟨fun h => .inr h, fun h => h.resolve_left this⟩
theorem liHas_f (l : List S39) (x y : Int) (hl : l.length ≤ 1000) (k : Nat) (hk : l.length < k) : spec_liHas.f k l x y = some (decide ((x, y) ∈ l.map pairC)) := by
  unfold spec_liHas.f
  have := liHas_l0 l x y hl l.length k 0 (by omega) (by omega) hk
  rw [List.drop_zero] at this
  exact this
theorem walk_at : ∀ (l : List UInt8) (c : S39) (i : Nat) (hi : i < l.length), (c :: walkFrom c l).getD (i + 1) ⟨0, 0⟩ = nextC ((c :: walkFrom c l).getD i ⟨0, 0⟩) ((l[i].toNat : Nat) : Int)
  | [], _, _, hi => absurd hi (by simp)
  | b :: t, c, 0, _ => rfl
  | b :: t, c, i + 1, hi => by
    have ih := walk_at t (nextC c (b.toNat : Int)) i (by simp at hi; omega)
    simp only [walkFrom, List.getD_cons_succ, List.getElem_cons_succ] at ih ⊢
    exact ih
theorem take_getD (l : List S39) (k i : Nat) (h : i < k) : (l.take k).getD i ⟨0, 0⟩ = l.getD i ⟨0, 0⟩ := by
  rw [List.getD_eq_getElem?_getD, List.getD_eq_getElem?_getD, List.getElem?_take, if_pos h]
structure LoopW (s : ByteArray) : Prop where
  n4 : 4 ≤ s.size
  n40 : s.size ≤ 40
  st : ∀ b ∈ s.data.toList, stepBW b = true
  cl : (cornersL s.data.toList).getD s.size ⟨0, 0⟩ = ⟨0, 0⟩
  inj : ∀ i j, i < j → j < s.size → pairC ((cornersL s.data.toList).getD i ⟨0, 0⟩) ≠ pairC ((cornersL s.data.toList).getD j ⟨0, 0⟩)


def setIter (w : World) (g : Nat) (s : ByteArray) (p : Nat) : World := { w with heap := w.heap.setIfInBounds g (.stringIter s p) }
theorem iter_new (w : World) (s : ByteArray) : (w.iter s 0).heap[w.heap.size]? = some (.stringIter s 0) := World.iter_heap w s 0
theorem run_next_at {P : Program} (w : World) (g : Nat) (s : ByteArray) (pos : Nat) (ty : TypeId) (hg : w.heap[g]? = some (.stringIter s pos)) (h : pos < s.size) (ha : (s[pos]'h).toNat < 128) :
    (Instr.next (.pointer (some ⟨g, 0, none⟩)) true ty).run P w = .ok (.tuple #[.bool true, .int .i64 pos, .int .i32 (s[pos]'h).toNat]) (setIter w g s (pos + 1)) := by
  simp only [Instr.next, getObj, setObj, Sem.run_bind, Sem.run, hg, Result.andThen, h, if_true, decode_ascii s pos h ha]
  simp [goInt, Sem.run, hg, setIter]
theorem run_next_none {P : Program} (w : World) (g : Nat) (s : ByteArray) (pos : Nat) (ty : TypeId) (hg : w.heap[g]? = some (.stringIter s pos)) (h : ¬ pos < s.size) :
    (Instr.next (.pointer (some ⟨g, 0, none⟩)) true ty).run P w = .ok (.tuple #[.bool false]) w := by
  simp [Instr.next, getObj, Sem.run, hg, h]
theorem setIter_at {w : World} {g : Nat} {s : ByteArray} {p : Nat} {o : Obj} (hg : w.heap[g]? = some o) : (setIter w g s p).heap[g]? = some (.stringIter s p) := by
  have hl : g < w.heap.size := (Array.getElem?_eq_some_iff.1 hg).1
  simp [setIter, hl]
theorem setIter_below {w0 w : World} {b g : Nat} {s : ByteArray} {p : Nat} (h : Below b w0 w) (hg : b ≤ g) : Below b w0 (setIter w g s p) :=
  ⟨h.os, h.tape, h.output, by rw [setIter]; simpa using h.size, fun k hk => by
    rw [← h.block k hk]
    simp only [setIter]
    rw [Array.getElem?_setIfInBounds_ne (by omega)]⟩

def spec_l1In.f (a0 : Int) (a1 : Int) (a2 : Int) : Option (Bool) := if a0 ≥ a1 then (some (decide (a0 ≤ a2))) else (some false)
set_option maxHeartbeats 8000000 in
set_option maxRecDepth 100000 in
theorem spec_l1In.calls (a0 : Int) (a1 : Int) (a2 : Int) (r : Bool) (w : World) (h : spec_l1In.f a0 a1 a2 = some r) :
    Calls Tryd.prog 19 #[.int .i64 a0, .int .i64 a1, .int .i64 a2] w fun e w' => e = .returned (.bool r) ∧ Drawn0 w w' := by
  have H : (if a0 ≥ a1 then (some (decide (a0 ≤ a2))) else (some false)) = some r := h
  clear h
  by_cases c4 : a0 ≥ a1
  · rw [if_pos c4] at H
    have c4b0 : decide (a1 ≤ a0) = true := decide_eq_true c4
    clear c4
    obtain rfl := Option.some.inj H
    go_enter Tryd.func19, Tryd.ntmps19
    go_wp2
    go_ret
    exact ⟨by first | rfl | (simp; done) | (simp [*]; done), by repeat (first | exact Drawn0.refl _ | apply Drawn0.step)⟩
  · rw [if_neg c4] at H
    have c4b0 : decide (a1 ≤ a0) = false := decide_eq_false c4
    clear c4
    obtain rfl := Option.some.inj H
    go_enter Tryd.func19, Tryd.ntmps19
    go_wp2
    go_ret
    exact ⟨by first | rfl | (simp; done) | (simp [*]; done), by repeat (first | exact Drawn0.refl _ | apply Drawn0.step)⟩

end Go.Proofs.YtidabcihlamidaaDoor.P
namespace Go.Proofs.YtidabcihlamidaaDoor.P
open Go.RowKit Go.Proofs.YtidabcihlamidaaDoorW.PrintWords Go.Proofs.YtidabcihlamidaaDoorW.PrintLast Go.Proofs.YtidabcihlamidaaDoorW.PrintMore
attribute [local go_sem] max2_int min2_int max_two min_two max_three min_three max_four min_four   -- for this text's walks alone
set_option linter.unusedVariables false
set_option linter.unusedSimpArgs false

attribute [local go_sem high] eqA39
def spec_loCorners.l0 : Nat → ByteArray → List (S39) → Int → Int → Int → Option ((List (S39)) × Bool)
 | 0, _, _, _, _, _ => none
 | k + 1, x0, x4, x6, x117000, x117001 => if x6 < (x0.size : Int) then (if 0 ≤ x6 then ((spec_loDir.f k (bt x0 x6)).bind fun t117 => (if t117 < 0 then (some (([] : List (S39)), false)) else ((spec_liHas.f k x4 x117000 x117001).bind fun t118 => (if t118 = true then (some (([] : List (S39)), false)) else (if x4.length < 8796093022208 then ((spec_loStep.f x117000 x117001 t117).bind fun bt122 => (spec_loCorners.l0 k x0 (x4 ++ [(⟨x117000, x117001⟩ : S39)]) (wrap64 (x6 + 1)) bt122.1 bt122.2)) else (none)))))) else (none)) else (some (x4, (x117000 == 0 && (x117001 == 0))))
def spec_loCorners.f (k : Nat) (a0 : ByteArray) : Option ((List (S39)) × Bool) := (spec_l1In.f (a0.size : Int) 4 40).bind fun t115 => (if t115 = true then (spec_loCorners.l0 k a0 ([] : List (S39)) 0 0 0) else (some (([] : List (S39)), false)))
theorem spec_loCorners.mono_l : ∀ k, (∀ y0 y1 y2 y3 y4, LeO (spec_loCorners.l0 k y0 y1 y2 y3 y4) (spec_loCorners.l0 (k + 1) y0 y1 y2 y3 y4))
 | 0 => fun _ _ _ _ _ r h => by simp [spec_loCorners.l0] at h
 | k + 1 => by
  have ih0 := spec_loCorners.mono_l k
  ·intro y0 y1 y2 y3 y4
   unfold spec_loCorners.l0
   repeat' first
   | (with_reducible exact ih0 _ _ _ _ _)
   | (with_reducible exact spec_liHas.mono _ _ _ _)
   | (with_reducible exact spec_loDir.mono _ _)
   | (with_reducible exact LeO.refl _)
   | (with_reducible exact LeO.none _)
   | (with_reducible refine LeO.ite ?_ ?_)
   | (with_reducible refine LeO.bind ?_ (fun _ => ?_))
   | exact ih0 _ _ _ _ _
   | exact spec_liHas.mono _ _ _ _
   | exact spec_loDir.mono _ _
   | exact LeO.none _
   | refine LeO.ite ?_ ?_
   | refine LeO.bind ?_ (fun _ => ?_)
theorem spec_loCorners.mono : ∀ a0 k, LeO (spec_loCorners.f k a0) (spec_loCorners.f (k + 1) a0) := by
 intro a0 k
 have ih0 := spec_loCorners.mono_l k
 unfold spec_loCorners.f
 repeat' first
   | (with_reducible exact ih0 _ _ _ _ _)
   | (with_reducible exact spec_liHas.mono _ _ _ _)
   | (with_reducible exact spec_loDir.mono _ _)
   | (with_reducible exact LeO.refl _)
   | (with_reducible exact LeO.none _)
   | (with_reducible refine LeO.ite ?_ ?_)
   | (with_reducible refine LeO.bind ?_ (fun _ => ?_))
   | exact ih0 _ _ _ _ _
   | exact spec_liHas.mono _ _ _ _
   | exact spec_loDir.mono _ _
   | exact LeO.none _
   | refine LeO.ite ?_ ?_
   | refine LeO.bind ?_ (fun _ => ?_)
set_option maxHeartbeats 8000000 in
set_option maxRecDepth 100000 in
theorem spec_loCorners.calls (k : Nat) (a0 : ByteArray) (r1 : List (S39)) (r2 : Bool) (w : World) (h : spec_loCorners.f k a0 = some (r1, r2)) :
  Calls Tryd.prog 28 #[.string a0] w fun e w' => ∃ v0_ : Value, e = .returned (.tuple #[v0_, .bool r2]) ∧ Kd.R k39 39 w' w.heap.size (fun _ => True) v0_ r1 ∧ Below w.heap.size w w' := by
 have hu39 := Tryd.underlying39
 have HB := Aside0.mk (Below.refl w.heap.size w)
 have H : ((spec_l1In.f (a0.size : Int) 4 40).bind fun t115 => (if t115 = true then (spec_loCorners.l0 k a0 ([] : List (S39)) 0 0 0) else (some (([] : List (S39)), false)))) = some (r1, r2) := h
 clear h
 replace H := Option.bind_eq_some_iff.mp H
 obtain ⟨t115, A20, H⟩ := H
 replace H : (if t115 = true then (spec_loCorners.l0 k a0 ([] : List (S39)) 0 0 0) else (some (([] : List (S39)), false))) = some (r1, r2) := H
 have A2 := Aside0.mk A20
 clear A20
 by_cases c3 : t115 = true
 ·subst c3
  have H1 : (spec_loCorners.l0 k a0 ([] : List (S39)) 0 0 0) = some (r1, r2) := by rw [if_pos rfl] at H; exact H
  clear H
  have H := H1
  clear H1
  have H' := Aside0.mk H
  clear H
  go_enter Tryd.func28, Tryd.ntmps28
  go_wp2_with (first | (go_at_call 19; (with_reducible refine (spec_l1In.calls (a0.size : Int) 4 40 true _ A2.out).mono ?_); rintro e w' ⟨rfl, ⟨nd, rfl⟩⟩; (try first | exact ⟨rfl, _, World.drewN_drewN _ _ _⟩ | exact ⟨rfl, _, Eq.trans (World.drewN_drewN _ _ _) (congrArg (World.drewN _) (Nat.add_assoc _ _ _))⟩)) | ((with_reducible refine gate_dst (N := 5) rfl ?_); refine boxE_ (N := 5) (cs := #[.int .i64 0, .int .i64 0]) (t := 39) ?_; intro gb116 hg w4 hbox hb; have n0_ := Aside0.mk (below_step (bl0_ HB.out) hb); have n1_ := Aside0.mk (hbox); have n2_ := Aside0.mk ((bs0_ hg HB.out : w.heap.size ≤ gb116)); have n3_ := Aside0.mk ((bs0_ hg HB.out : w.heap.size ≤ gb116)); clear HB; have HB := n0_; have BK116 := n1_; have GW116 := n2_; have GE116 := n3_; clear n0_ n1_ n2_ n3_; clear hb hbox hg; have hcz5_0 : w4.cell? ⟨gb116, 0, none⟩ = some (.int .i64 0) := (blk_cell BK116.out 0).trans rfl; have hcz5_1 : w4.cell? ⟨gb116, 1, none⟩ = some (.int .i64 0) := (blk_cell BK116.out 1).trans rfl; have hfz5_0 := blk_frozen BK116.out 0; have hfz5_1 := blk_frozen BK116.out 1))
  repeat (go_quiet (first | (go_at_call 19; (with_reducible refine (spec_l1In.calls (a0.size : Int) 4 40 true _ A2.out).mono ?_); rintro e w' ⟨rfl, ⟨nd, rfl⟩⟩; (try first | exact ⟨rfl, _, World.drewN_drewN _ _ _⟩ | exact ⟨rfl, _, Eq.trans (World.drewN_drewN _ _ _) (congrArg (World.drewN _) (Nat.add_assoc _ _ _))⟩)) | ((with_reducible refine gate_dst (N := 5) rfl ?_); refine boxE_ (N := 5) (cs := #[.int .i64 0, .int .i64 0]) (t := 39) ?_; intro gb116 hg w4 hbox hb; have n0_ := Aside0.mk (below_step (bl0_ HB.out) hb); have n1_ := Aside0.mk (hbox); have n2_ := Aside0.mk ((bs0_ hg HB.out : w.heap.size ≤ gb116)); have n3_ := Aside0.mk ((bs0_ hg HB.out : w.heap.size ≤ gb116)); clear HB; have HB := n0_; have BK116 := n1_; have GW116 := n2_; have GE116 := n3_; clear n0_ n1_ n2_ n3_; clear hb hbox hg; have hcz5_0 : w4.cell? ⟨gb116, 0, none⟩ = some (.int .i64 0) := (blk_cell BK116.out 0).trans rfl; have hcz5_1 : w4.cell? ⟨gb116, 1, none⟩ = some (.int .i64 0) := (blk_cell BK116.out 1).trans rfl; have hfz5_0 := blk_frozen BK116.out 0; have hfz5_1 := blk_frozen BK116.out 1)); try go_wp2_with (first | (go_at_call 19; (with_reducible refine (spec_l1In.calls (a0.size : Int) 4 40 true _ A2.out).mono ?_); rintro e w' ⟨rfl, ⟨nd, rfl⟩⟩; (try first | exact ⟨rfl, _, World.drewN_drewN _ _ _⟩ | exact ⟨rfl, _, Eq.trans (World.drewN_drewN _ _ _) (congrArg (World.drewN _) (Nat.add_assoc _ _ _))⟩)) | ((with_reducible refine gate_dst (N := 5) rfl ?_); refine boxE_ (N := 5) (cs := #[.int .i64 0, .int .i64 0]) (t := 39) ?_; intro gb116 hg w4 hbox hb; have n0_ := Aside0.mk (below_step (bl0_ HB.out) hb); have n1_ := Aside0.mk (hbox); have n2_ := Aside0.mk ((bs0_ hg HB.out : w.heap.size ≤ gb116)); have n3_ := Aside0.mk ((bs0_ hg HB.out : w.heap.size ≤ gb116)); clear HB; have HB := n0_; have BK116 := n1_; have GW116 := n2_; have GE116 := n3_; clear n0_ n1_ n2_ n3_; clear hb hbox hg; have hcz5_0 : w4.cell? ⟨gb116, 0, none⟩ = some (.int .i64 0) := (blk_cell BK116.out 0).trans rfl; have hcz5_1 : w4.cell? ⟨gb116, 1, none⟩ = some (.int .i64 0) := (blk_cell BK116.out 1).trans rfl; have hfz5_0 := blk_frozen BK116.out 0; have hfz5_1 := blk_frozen BK116.out 1)))
  go_loopg [4, 6] k (fun kq v4 v6 w' => ∃ (x4_1 : List (S39)) (x6_1 : Int) (x117000_1 : Int) (x117001_1 : Int), v6 = .int .i64 x6_1 ∧ Aside0 (spec_loCorners.l0 kq a0 x4_1 x6_1 x117000_1 x117001_1 = some (r1, r2)) ∧ Aside0 (kq ≤ k) ∧ Aside0 (Kd.R k39 39 w' w.heap.size (fun k_ => k_ ≠ gb116) v4 x4_1) ∧ Aside0 (w'.heap[gb116]? = some (.cells #[.int .i64 x117000_1, .int .i64 x117001_1] 39 (0, 0))) ∧ Aside0 (Below w.heap.size w w'))
  case atStart => exact ⟨(([] : List (S39))), (0), (0), (0), rs_, H', ⟨Nat.le_refl _⟩, ⟨by first | exact Kd.R_nil _ _ _ _ _ | exact Kd.N_nil _ _ _ _ _ | exact Kd.V_nil _ _ _ _ _ | exact Kd.Q_nil _ _ _ _ _ | exact Kd.S_nil _ _ _ _ _⟩, ⟨by (with_reducible repeat (first | refine blk_drewN ?_ _ | refine blk_drew ?_ | refine blk_alloc ?_ _)); refine blk_put (cs := #[.int .i64 0, .int .i64 0]) ?_ 1 _ rfl; (with_reducible repeat (first | refine blk_drewN ?_ _ | refine blk_drew ?_ | refine blk_alloc ?_ _)); refine blk_put (cs := #[.int .i64 0, .int .i64 0]) ?_ 0 _ rfl; (with_reducible repeat (first | refine blk_drewN ?_ _ | refine blk_drew ?_ | refine blk_alloc ?_ _)); exact BK116.out⟩, ⟨bl1_ HB.out GE116.out⟩⟩
  case round =>
   clear H'
   try clear c2
   try clear p2
   try clear c3
   try clear hcz5_0
   try clear hcz5_1
   try clear hfz5_0
   try clear hfz5_1
   obtain ⟨x4_1, x6_1, x117000_1, x117001_1, rfl, HA, HK1, HO_4, BK116, HB⟩ := hrel
   cases gk with
   | zero => exact absurd HA.out (by simp [spec_loCorners.l0])
   | succ k1 =>
    have H := HA.out
    clear HA
    simp only [spec_loCorners.l0] at H
    by_cases c6 : x6_1 < (a0.size : Int)
    ·rw [if_pos c6] at H
     have c6b0 : decide (x6_1 < (a0.size : Int)) = true := decide_eq_true c6
     clear c6
     by_cases c7 : 0 ≤ x6_1
     ·rw [if_pos c7] at H
      have c7b0 : decide (0 ≤ x6_1) = true := decide_eq_true c7
      clear c7
      replace H := Option.bind_eq_some_iff.mp H
      obtain ⟨t117, A90, H⟩ := H
      replace H : (if t117 < 0 then (some (([] : List (S39)), false)) else ((spec_liHas.f k1 x4_1 x117000_1 x117001_1).bind fun t118 => (if t118 = true then (some (([] : List (S39)), false)) else (if x4_1.length < 8796093022208 then ((spec_loStep.f x117000_1 x117001_1 t117).bind fun bt122 => (spec_loCorners.l0 k1 a0 (x4_1 ++ [(⟨x117000_1, x117001_1⟩ : S39)]) (wrap64 (x6_1 + 1)) bt122.1 bt122.2)) else (none))))) = some (r1, r2) := H
      have A9 := Aside0.mk A90
      clear A90
      by_cases c10 : t117 < 0
      ·rw [if_pos c10] at H
       have c10b0 : decide (t117 < 0) = true := decide_eq_true c10
       clear c10
       simp only [Option.some.injEq, Prod.mk.injEq] at H
       obtain ⟨rfl, rfl⟩ := H
       have p8 : 0 ≤ (x6_1 : Int) := of_decide_eq_true as_
       have q8 : x6_1 < (a0.size : Int) := of_decide_eq_true as_
       have hx8 := bt_at a0 x6_1
       replace p8 := eq_true p8
       replace q8 := eq_true q8
       go_wp2_with (first | (go_at_call 16; (with_reducible refine (spec_loDir.calls k1 (bt a0 x6_1) t117 _ A9.out).mono ?_); rintro e w' ⟨rfl, ⟨nd, rfl⟩⟩; (try first | exact ⟨rfl, _, World.drewN_drewN _ _ _⟩ | exact ⟨rfl, _, Eq.trans (World.drewN_drewN _ _ _) (congrArg (World.drewN _) (Nat.add_assoc _ _ _))⟩)))
       repeat (go_quiet (first | (go_at_call 16; (with_reducible refine (spec_loDir.calls k1 (bt a0 x6_1) t117 _ A9.out).mono ?_); rintro e w' ⟨rfl, ⟨nd, rfl⟩⟩; (try first | exact ⟨rfl, _, World.drewN_drewN _ _ _⟩ | exact ⟨rfl, _, Eq.trans (World.drewN_drewN _ _ _) (congrArg (World.drewN _) (Nat.add_assoc _ _ _))⟩))); try go_wp2_with (first | (go_at_call 16; (with_reducible refine (spec_loDir.calls k1 (bt a0 x6_1) t117 _ A9.out).mono ?_); rintro e w' ⟨rfl, ⟨nd, rfl⟩⟩; (try first | exact ⟨rfl, _, World.drewN_drewN _ _ _⟩ | exact ⟨rfl, _, Eq.trans (World.drewN_drewN _ _ _) (congrArg (World.drewN _) (Nat.add_assoc _ _ _))⟩))))
       go_ret2
       exact ⟨_, er_, by first | exact Kd.R_nil _ _ _ _ _ | exact Kd.N_nil _ _ _ _ _ | exact Kd.V_nil _ _ _ _ _ | exact Kd.Q_nil _ _ _ _ _ | exact Kd.S_nil _ _ _ _ _, bl1_ HB.out GE116.out⟩
      ·rw [if_neg c10] at H
       have c10b0 : decide (t117 < 0) = false := decide_eq_false c10
       clear c10
       replace H := Option.bind_eq_some_iff.mp H
       obtain ⟨t118, A110, H⟩ := H
       replace H : (if t118 = true then (some (([] : List (S39)), false)) else (if x4_1.length < 8796093022208 then ((spec_loStep.f x117000_1 x117001_1 t117).bind fun bt122 => (spec_loCorners.l0 k1 a0 (x4_1 ++ [(⟨x117000_1, x117001_1⟩ : S39)]) (wrap64 (x6_1 + 1)) bt122.1 bt122.2)) else (none))) = some (r1, r2) := H
       have A11 := Aside0.mk A110
       clear A110
       by_cases c12 : t118 = true
       ·subst c12
        have H1 : (some (([] : List (S39)), false)) = some (r1, r2) := by rw [if_pos rfl] at H; exact H
        clear H
        have H := H1
        clear H1
        simp only [Option.some.injEq, Prod.mk.injEq] at H
        obtain ⟨rfl, rfl⟩ := H
        have p8 : 0 ≤ (x6_1 : Int) := of_decide_eq_true as_
        have q8 : x6_1 < (a0.size : Int) := of_decide_eq_true as_
        have hx8 := bt_at a0 x6_1
        replace p8 := eq_true p8
        replace q8 := eq_true q8
        go_wp2_with (first | (go_at_call 16; (with_reducible refine (spec_loDir.calls k1 (bt a0 x6_1) t117 _ A9.out).mono ?_); rintro e w' ⟨rfl, ⟨nd, rfl⟩⟩; (try first | exact ⟨rfl, _, World.drewN_drewN _ _ _⟩ | exact ⟨rfl, _, Eq.trans (World.drewN_drewN _ _ _) (congrArg (World.drewN _) (Nat.add_assoc _ _ _))⟩); have hcz13_0 : wr.cell? ⟨gb116, 0, none⟩ = some (.int .i64 x117000_1) := (blk_cell BK116.out 0).trans rfl; have hcz13_1 : wr.cell? ⟨gb116, 1, none⟩ = some (.int .i64 x117001_1) := (blk_cell BK116.out 1).trans rfl; have hfz13_0 := blk_frozen BK116.out 0; have hfz13_1 := blk_frozen BK116.out 1; obtain ⟨Ao14, co14, eo14⟩ := Kd.R_slice HO_4.out; subst eo14) | (go_at_call 36; (with_reducible refine (spec_liHas.calls k1 _ _ x4_1 x117000_1 x117001_1 true _ ?side1 ?side2 A11.out).mono ?_); (case side1 => repeat (first | exact (Kd.R_reads' HO_4.out).2.2 | (with_reducible refine Kd.C_alloc ?_ _) | (with_reducible refine Kd.C_drewN ?_ _) | (with_reducible refine Kd.C_drew ?_))); (case side2 => exact (Kd.R_reads' HO_4.out).2.1); rintro e w15 ⟨rfl, hb⟩; have n0_ := Aside0.mk (Kd.R_below (kr_ HO_4.out) hb); have n1_ := Aside0.mk (bb_ BK116.out hb); have n2_ := Aside0.mk (below_step (bl1_ HB.out GE116.out) hb); clear HO_4; clear BK116; clear HB; have HO_4 := n0_; have BK116 := n1_; have HB := n2_; clear n0_ n1_ n2_; (try clear hb); (try clear hb2); (try clear hk); (try clear hi)))
        repeat (go_quiet (first | (go_at_call 16; (with_reducible refine (spec_loDir.calls k1 (bt a0 x6_1) t117 _ A9.out).mono ?_); rintro e w' ⟨rfl, ⟨nd, rfl⟩⟩; (try first | exact ⟨rfl, _, World.drewN_drewN _ _ _⟩ | exact ⟨rfl, _, Eq.trans (World.drewN_drewN _ _ _) (congrArg (World.drewN _) (Nat.add_assoc _ _ _))⟩); have hcz13_0 : wr.cell? ⟨gb116, 0, none⟩ = some (.int .i64 x117000_1) := (blk_cell BK116.out 0).trans rfl; have hcz13_1 : wr.cell? ⟨gb116, 1, none⟩ = some (.int .i64 x117001_1) := (blk_cell BK116.out 1).trans rfl; have hfz13_0 := blk_frozen BK116.out 0; have hfz13_1 := blk_frozen BK116.out 1; obtain ⟨Ao14, co14, eo14⟩ := Kd.R_slice HO_4.out; subst eo14) | (go_at_call 36; (with_reducible refine (spec_liHas.calls k1 _ _ x4_1 x117000_1 x117001_1 true _ ?side1 ?side2 A11.out).mono ?_); (case side1 => repeat (first | exact (Kd.R_reads' HO_4.out).2.2 | (with_reducible refine Kd.C_alloc ?_ _) | (with_reducible refine Kd.C_drewN ?_ _) | (with_reducible refine Kd.C_drew ?_))); (case side2 => exact (Kd.R_reads' HO_4.out).2.1); rintro e w15 ⟨rfl, hb⟩; have n0_ := Aside0.mk (Kd.R_below (kr_ HO_4.out) hb); have n1_ := Aside0.mk (bb_ BK116.out hb); have n2_ := Aside0.mk (below_step (bl1_ HB.out GE116.out) hb); clear HO_4; clear BK116; clear HB; have HO_4 := n0_; have BK116 := n1_; have HB := n2_; clear n0_ n1_ n2_; (try clear hb); (try clear hb2); (try clear hk); (try clear hi))); try go_wp2_with (first | (go_at_call 16; (with_reducible refine (spec_loDir.calls k1 (bt a0 x6_1) t117 _ A9.out).mono ?_); rintro e w' ⟨rfl, ⟨nd, rfl⟩⟩; (try first | exact ⟨rfl, _, World.drewN_drewN _ _ _⟩ | exact ⟨rfl, _, Eq.trans (World.drewN_drewN _ _ _) (congrArg (World.drewN _) (Nat.add_assoc _ _ _))⟩); have hcz13_0 : wr.cell? ⟨gb116, 0, none⟩ = some (.int .i64 x117000_1) := (blk_cell BK116.out 0).trans rfl; have hcz13_1 : wr.cell? ⟨gb116, 1, none⟩ = some (.int .i64 x117001_1) := (blk_cell BK116.out 1).trans rfl; have hfz13_0 := blk_frozen BK116.out 0; have hfz13_1 := blk_frozen BK116.out 1; obtain ⟨Ao14, co14, eo14⟩ := Kd.R_slice HO_4.out; subst eo14) | (go_at_call 36; (with_reducible refine (spec_liHas.calls k1 _ _ x4_1 x117000_1 x117001_1 true _ ?side1 ?side2 A11.out).mono ?_); (case side1 => repeat (first | exact (Kd.R_reads' HO_4.out).2.2 | (with_reducible refine Kd.C_alloc ?_ _) | (with_reducible refine Kd.C_drewN ?_ _) | (with_reducible refine Kd.C_drew ?_))); (case side2 => exact (Kd.R_reads' HO_4.out).2.1); rintro e w15 ⟨rfl, hb⟩; have n0_ := Aside0.mk (Kd.R_below (kr_ HO_4.out) hb); have n1_ := Aside0.mk (bb_ BK116.out hb); have n2_ := Aside0.mk (below_step (bl1_ HB.out GE116.out) hb); clear HO_4; clear BK116; clear HB; have HO_4 := n0_; have BK116 := n1_; have HB := n2_; clear n0_ n1_ n2_; (try clear hb); (try clear hb2); (try clear hk); (try clear hi))))
        go_ret2
        exact ⟨_, er_, by first | exact Kd.R_nil _ _ _ _ _ | exact Kd.N_nil _ _ _ _ _ | exact Kd.V_nil _ _ _ _ _ | exact Kd.Q_nil _ _ _ _ _ | exact Kd.S_nil _ _ _ _ _, bl1_ HB.out GE116.out⟩
       ·replace c12 := Bool.eq_false_iff.mpr c12
        subst c12
        have H1 : (if x4_1.length < 8796093022208 then ((spec_loStep.f x117000_1 x117001_1 t117).bind fun bt122 => (spec_loCorners.l0 k1 a0 (x4_1 ++ [(⟨x117000_1, x117001_1⟩ : S39)]) (wrap64 (x6_1 + 1)) bt122.1 bt122.2)) else (none)) = some (r1, r2) := by rw [if_neg (show ¬ (false = true) by decide)] at H; exact H
        clear H
        have H := H1
        clear H1
        by_cases c16 : x4_1.length < 8796093022208
        ·rw [if_pos c16] at H
         have LMc16 := Aside0.mk c16
         clear c16
         obtain ⟨y119, hy119⟩ : ∃ y_ : List (S39), y_ = (x4_1 ++ [(⟨x117000_1, x117001_1⟩ : S39)]) := ⟨_, rfl⟩
         replace H : ((spec_loStep.f x117000_1 x117001_1 t117).bind fun bt122 => (spec_loCorners.l0 k1 a0 y119 (wrap64 (x6_1 + 1)) bt122.1 bt122.2)) = some (r1, r2) := by first | (rw [hy119]; with_reducible exact H) | (have H2_ := (Option.bind_some _ _).symm.trans H; rw [hy119]; with_reducible exact H2_) | (have H2_ := (Option.bind_some _ _).symm.trans H; with_reducible exact H2_) | with_reducible exact H | (rw [hy119]; exact H) | exact H
         have Ny119 := Aside0.mk hy119
         clear hy119
         replace H := Option.bind_eq_some_iff.mp H
         obtain ⟨⟨t122, t123⟩, A170, H⟩ := H
         replace H : (spec_loCorners.l0 k1 a0 y119 (wrap64 (x6_1 + 1)) t122 t123) = some (r1, r2) := H
         have A17 := Aside0.mk A170
         clear A170
         have H' := Aside0.mk H
         clear H
         have p8 : 0 ≤ (x6_1 : Int) := of_decide_eq_true as_
         have q8 : x6_1 < (a0.size : Int) := of_decide_eq_true as_
         have hx8 := bt_at a0 x6_1
         replace p8 := eq_true p8
         replace q8 := eq_true q8
         go_wp2_with (first | (go_at_call 16; (with_reducible refine (spec_loDir.calls k1 (bt a0 x6_1) t117 _ A9.out).mono ?_); rintro e w' ⟨rfl, ⟨nd, rfl⟩⟩; (try first | exact ⟨rfl, _, World.drewN_drewN _ _ _⟩ | exact ⟨rfl, _, Eq.trans (World.drewN_drewN _ _ _) (congrArg (World.drewN _) (Nat.add_assoc _ _ _))⟩); have hcz18_0 : wr.cell? ⟨gb116, 0, none⟩ = some (.int .i64 x117000_1) := (blk_cell BK116.out 0).trans rfl; have hcz18_1 : wr.cell? ⟨gb116, 1, none⟩ = some (.int .i64 x117001_1) := (blk_cell BK116.out 1).trans rfl; have hfz18_0 := blk_frozen BK116.out 0; have hfz18_1 := blk_frozen BK116.out 1; obtain ⟨Ao19, co19, eo19⟩ := Kd.R_slice HO_4.out; subst eo19) | (go_at_call 36; (with_reducible refine (spec_liHas.calls k1 _ _ x4_1 x117000_1 x117001_1 false _ ?side1 ?side2 A11.out).mono ?_); (case side1 => repeat (first | exact (Kd.R_reads' HO_4.out).2.2 | (with_reducible refine Kd.C_alloc ?_ _) | (with_reducible refine Kd.C_drewN ?_ _) | (with_reducible refine Kd.C_drew ?_))); (case side2 => exact (Kd.R_reads' HO_4.out).2.1); rintro e w20 ⟨rfl, hb⟩; have n0_ := Aside0.mk (Kd.R_below (kr_ HO_4.out) hb); have n1_ := Aside0.mk (bb_ BK116.out hb); have n2_ := Aside0.mk (below_step (bl1_ HB.out GE116.out) hb); clear HO_4; clear BK116; clear HB; have HO_4 := n0_; have BK116 := n1_; have HB := n2_; clear n0_ n1_ n2_; (try clear hb); (try clear hb2); (try clear hk); (try clear hi); have hcz21_0 : w20.cell? ⟨gb116, 0, none⟩ = some (.int .i64 x117000_1) := (blk_cell BK116.out 0).trans rfl; have hcz21_1 : w20.cell? ⟨gb116, 1, none⟩ = some (.int .i64 x117001_1) := (blk_cell BK116.out 1).trans rfl; have hfz21_0 := blk_frozen BK116.out 0; have hfz21_1 := blk_frozen BK116.out 1) | ((with_reducible refine gate_builtin (b := .append) (xs := #[.tmp 30, .tmp 32]) rfl ?_); at_builtin; refine Kd.R_append k39 (w0 := w) w.heap.size rfl (.tmp 30) (.tmp 32) 35 39 (.agg #[(.int .i64 0), (.int .i64 0)]) 16 rfl Tryd.underlying35 info39 rfl (by decide) (by omega) (.slice Ao19 x4_1.length co19) x4_1 (⟨x117000_1, x117001_1⟩ : S39) [.int .i64 x117000_1, .int .i64 x117001_1] (fun k_ => k_ ≠ gb116) (fun _ => False) rfl rfl ?aP (fun _ hk => hk.elim) ?aF ?aO ?aB ?aS ?aL ?_; (case aP => exact k39_mkM _ _ _ (⟨x117000_1, x117001_1⟩ : S39)); (case aB => exact (bl1_ HB.out GE116.out)); (case aF => exact (fun k_ hk => Kd.freshB (g := gb116) (o := .cells #[.int .i64 x117000_1, .int .i64 x117001_1] 39 (0, 0)) (bk_ BK116.out) k_ hk)); (case aO => exact (kr_ HO_4.out)); (case aS => exact (below_size (bl1_ HB.out GE116.out))); (case aL => have := LMc16.out; omega); intro v120 w22 ho hb hg hat; rw [← Ny119.out] at ho; have n0_ := Aside0.mk (blk_grown (g := gb116) (o := .cells #[.int .i64 x117000_1, .int .i64 x117001_1] 39 (0, 0)) (bk_ BK116.out) hg (Kd.R_away HO_4.out (fun _ hk => hk))); have n1_ := Aside0.mk (hb); have n2_ := Aside0.mk (ho); clear BK116; clear HB; clear HO_4; have BK116 := n0_; have HB := n1_; have HO121 := n2_; clear n0_ n1_ n2_; clear ho hb hg hat; have hcz23_0 : w22.cell? ⟨gb116, 0, none⟩ = some (.int .i64 x117000_1) := (blk_cell BK116.out 0).trans rfl; have hcz23_1 : w22.cell? ⟨gb116, 1, none⟩ = some (.int .i64 x117001_1) := (blk_cell BK116.out 1).trans rfl; have hfz23_0 := blk_frozen BK116.out 0; have hfz23_1 := blk_frozen BK116.out 1) | (go_at_call 37; (with_reducible refine (spec_loStep.calls x117000_1 x117001_1 t117 t122 t123 _ A17.out).mono ?_); rintro e w24 ⟨rfl, hb⟩; have n0_ := Aside0.mk (Kd.R_below (kr_ HO121.out) hb); have n1_ := Aside0.mk (bb_ BK116.out hb); have n2_ := Aside0.mk (below_step (bl1_ HB.out GE116.out) hb); clear HO121; clear BK116; clear HB; have HO121 := n0_; have BK116 := n1_; have HB := n2_; clear n0_ n1_ n2_; (try clear hb); (try clear hb2); (try clear hk); (try clear hi); have hcz25_0 : w24.cell? ⟨gb116, 0, none⟩ = some (.int .i64 x117000_1) := (blk_cell BK116.out 0).trans rfl; have hcz25_1 : w24.cell? ⟨gb116, 1, none⟩ = some (.int .i64 x117001_1) := (blk_cell BK116.out 1).trans rfl; have hfz25_0 := blk_frozen BK116.out 0; have hfz25_1 := blk_frozen BK116.out 1))
         repeat (go_quiet (first | (go_at_call 16; (with_reducible refine (spec_loDir.calls k1 (bt a0 x6_1) t117 _ A9.out).mono ?_); rintro e w' ⟨rfl, ⟨nd, rfl⟩⟩; (try first | exact ⟨rfl, _, World.drewN_drewN _ _ _⟩ | exact ⟨rfl, _, Eq.trans (World.drewN_drewN _ _ _) (congrArg (World.drewN _) (Nat.add_assoc _ _ _))⟩); have hcz18_0 : wr.cell? ⟨gb116, 0, none⟩ = some (.int .i64 x117000_1) := (blk_cell BK116.out 0).trans rfl; have hcz18_1 : wr.cell? ⟨gb116, 1, none⟩ = some (.int .i64 x117001_1) := (blk_cell BK116.out 1).trans rfl; have hfz18_0 := blk_frozen BK116.out 0; have hfz18_1 := blk_frozen BK116.out 1; obtain ⟨Ao19, co19, eo19⟩ := Kd.R_slice HO_4.out; subst eo19) | (go_at_call 36; (with_reducible refine (spec_liHas.calls k1 _ _ x4_1 x117000_1 x117001_1 false _ ?side1 ?side2 A11.out).mono ?_); (case side1 => repeat (first | exact (Kd.R_reads' HO_4.out).2.2 | (with_reducible refine Kd.C_alloc ?_ _) | (with_reducible refine Kd.C_drewN ?_ _) | (with_reducible refine Kd.C_drew ?_))); (case side2 => exact (Kd.R_reads' HO_4.out).2.1); rintro e w20 ⟨rfl, hb⟩; have n0_ := Aside0.mk (Kd.R_below (kr_ HO_4.out) hb); have n1_ := Aside0.mk (bb_ BK116.out hb); have n2_ := Aside0.mk (below_step (bl1_ HB.out GE116.out) hb); clear HO_4; clear BK116; clear HB; have HO_4 := n0_; have BK116 := n1_; have HB := n2_; clear n0_ n1_ n2_; (try clear hb); (try clear hb2); (try clear hk); (try clear hi); have hcz21_0 : w20.cell? ⟨gb116, 0, none⟩ = some (.int .i64 x117000_1) := (blk_cell BK116.out 0).trans rfl; have hcz21_1 : w20.cell? ⟨gb116, 1, none⟩ = some (.int .i64 x117001_1) := (blk_cell BK116.out 1).trans rfl; have hfz21_0 := blk_frozen BK116.out 0; have hfz21_1 := blk_frozen BK116.out 1) | ((with_reducible refine gate_builtin (b := .append) (xs := #[.tmp 30, .tmp 32]) rfl ?_); at_builtin; refine Kd.R_append k39 (w0 := w) w.heap.size rfl (.tmp 30) (.tmp 32) 35 39 (.agg #[(.int .i64 0), (.int .i64 0)]) 16 rfl Tryd.underlying35 info39 rfl (by decide) (by omega) (.slice Ao19 x4_1.length co19) x4_1 (⟨x117000_1, x117001_1⟩ : S39) [.int .i64 x117000_1, .int .i64 x117001_1] (fun k_ => k_ ≠ gb116) (fun _ => False) rfl rfl ?aP (fun _ hk => hk.elim) ?aF ?aO ?aB ?aS ?aL ?_; (case aP => exact k39_mkM _ _ _ (⟨x117000_1, x117001_1⟩ : S39)); (case aB => exact (bl1_ HB.out GE116.out)); (case aF => exact (fun k_ hk => Kd.freshB (g := gb116) (o := .cells #[.int .i64 x117000_1, .int .i64 x117001_1] 39 (0, 0)) (bk_ BK116.out) k_ hk)); (case aO => exact (kr_ HO_4.out)); (case aS => exact (below_size (bl1_ HB.out GE116.out))); (case aL => have := LMc16.out; omega); intro v120 w22 ho hb hg hat; rw [← Ny119.out] at ho; have n0_ := Aside0.mk (blk_grown (g := gb116) (o := .cells #[.int .i64 x117000_1, .int .i64 x117001_1] 39 (0, 0)) (bk_ BK116.out) hg (Kd.R_away HO_4.out (fun _ hk => hk))); have n1_ := Aside0.mk (hb); have n2_ := Aside0.mk (ho); clear BK116; clear HB; clear HO_4; have BK116 := n0_; have HB := n1_; have HO121 := n2_; clear n0_ n1_ n2_; clear ho hb hg hat; have hcz23_0 : w22.cell? ⟨gb116, 0, none⟩ = some (.int .i64 x117000_1) := (blk_cell BK116.out 0).trans rfl; have hcz23_1 : w22.cell? ⟨gb116, 1, none⟩ = some (.int .i64 x117001_1) := (blk_cell BK116.out 1).trans rfl; have hfz23_0 := blk_frozen BK116.out 0; have hfz23_1 := blk_frozen BK116.out 1) | (go_at_call 37; (with_reducible refine (spec_loStep.calls x117000_1 x117001_1 t117 t122 t123 _ A17.out).mono ?_); rintro e w24 ⟨rfl, hb⟩; have n0_ := Aside0.mk (Kd.R_below (kr_ HO121.out) hb); have n1_ := Aside0.mk (bb_ BK116.out hb); have n2_ := Aside0.mk (below_step (bl1_ HB.out GE116.out) hb); clear HO121; clear BK116; clear HB; have HO121 := n0_; have BK116 := n1_; have HB := n2_; clear n0_ n1_ n2_; (try clear hb); (try clear hb2); (try clear hk); (try clear hi); have hcz25_0 : w24.cell? ⟨gb116, 0, none⟩ = some (.int .i64 x117000_1) := (blk_cell BK116.out 0).trans rfl; have hcz25_1 : w24.cell? ⟨gb116, 1, none⟩ = some (.int .i64 x117001_1) := (blk_cell BK116.out 1).trans rfl; have hfz25_0 := blk_frozen BK116.out 0; have hfz25_1 := blk_frozen BK116.out 1)); try go_wp2_with (first | (go_at_call 16; (with_reducible refine (spec_loDir.calls k1 (bt a0 x6_1) t117 _ A9.out).mono ?_); rintro e w' ⟨rfl, ⟨nd, rfl⟩⟩; (try first | exact ⟨rfl, _, World.drewN_drewN _ _ _⟩ | exact ⟨rfl, _, Eq.trans (World.drewN_drewN _ _ _) (congrArg (World.drewN _) (Nat.add_assoc _ _ _))⟩); have hcz18_0 : wr.cell? ⟨gb116, 0, none⟩ = some (.int .i64 x117000_1) := (blk_cell BK116.out 0).trans rfl; have hcz18_1 : wr.cell? ⟨gb116, 1, none⟩ = some (.int .i64 x117001_1) := (blk_cell BK116.out 1).trans rfl; have hfz18_0 := blk_frozen BK116.out 0; have hfz18_1 := blk_frozen BK116.out 1; obtain ⟨Ao19, co19, eo19⟩ := Kd.R_slice HO_4.out; subst eo19) | (go_at_call 36; (with_reducible refine (spec_liHas.calls k1 _ _ x4_1 x117000_1 x117001_1 false _ ?side1 ?side2 A11.out).mono ?_); (case side1 => repeat (first | exact (Kd.R_reads' HO_4.out).2.2 | (with_reducible refine Kd.C_alloc ?_ _) | (with_reducible refine Kd.C_drewN ?_ _) | (with_reducible refine Kd.C_drew ?_))); (case side2 => exact (Kd.R_reads' HO_4.out).2.1); rintro e w20 ⟨rfl, hb⟩; have n0_ := Aside0.mk (Kd.R_below (kr_ HO_4.out) hb); have n1_ := Aside0.mk (bb_ BK116.out hb); have n2_ := Aside0.mk (below_step (bl1_ HB.out GE116.out) hb); clear HO_4; clear BK116; clear HB; have HO_4 := n0_; have BK116 := n1_; have HB := n2_; clear n0_ n1_ n2_; (try clear hb); (try clear hb2); (try clear hk); (try clear hi); have hcz21_0 : w20.cell? ⟨gb116, 0, none⟩ = some (.int .i64 x117000_1) := (blk_cell BK116.out 0).trans rfl; have hcz21_1 : w20.cell? ⟨gb116, 1, none⟩ = some (.int .i64 x117001_1) := (blk_cell BK116.out 1).trans rfl; have hfz21_0 := blk_frozen BK116.out 0; have hfz21_1 := blk_frozen BK116.out 1) | ((with_reducible refine gate_builtin (b := .append) (xs := #[.tmp 30, .tmp 32]) rfl ?_); at_builtin; refine Kd.R_append k39 (w0 := w) w.heap.size rfl (.tmp 30) (.tmp 32) 35 39 (.agg #[(.int .i64 0), (.int .i64 0)]) 16 rfl Tryd.underlying35 info39 rfl (by decide) (by omega) (.slice Ao19 x4_1.length co19) x4_1 (⟨x117000_1, x117001_1⟩ : S39) [.int .i64 x117000_1, .int .i64 x117001_1] (fun k_ => k_ ≠ gb116) (fun _ => False) rfl rfl ?aP (fun _ hk => hk.elim) ?aF ?aO ?aB ?aS ?aL ?_; (case aP => exact k39_mkM _ _ _ (⟨x117000_1, x117001_1⟩ : S39)); (case aB => exact (bl1_ HB.out GE116.out)); (case aF => exact (fun k_ hk => Kd.freshB (g := gb116) (o := .cells #[.int .i64 x117000_1, .int .i64 x117001_1] 39 (0, 0)) (bk_ BK116.out) k_ hk)); (case aO => exact (kr_ HO_4.out)); (case aS => exact (below_size (bl1_ HB.out GE116.out))); (case aL => have := LMc16.out; omega); intro v120 w22 ho hb hg hat; rw [← Ny119.out] at ho; have n0_ := Aside0.mk (blk_grown (g := gb116) (o := .cells #[.int .i64 x117000_1, .int .i64 x117001_1] 39 (0, 0)) (bk_ BK116.out) hg (Kd.R_away HO_4.out (fun _ hk => hk))); have n1_ := Aside0.mk (hb); have n2_ := Aside0.mk (ho); clear BK116; clear HB; clear HO_4; have BK116 := n0_; have HB := n1_; have HO121 := n2_; clear n0_ n1_ n2_; clear ho hb hg hat; have hcz23_0 : w22.cell? ⟨gb116, 0, none⟩ = some (.int .i64 x117000_1) := (blk_cell BK116.out 0).trans rfl; have hcz23_1 : w22.cell? ⟨gb116, 1, none⟩ = some (.int .i64 x117001_1) := (blk_cell BK116.out 1).trans rfl; have hfz23_0 := blk_frozen BK116.out 0; have hfz23_1 := blk_frozen BK116.out 1) | (go_at_call 37; (with_reducible refine (spec_loStep.calls x117000_1 x117001_1 t117 t122 t123 _ A17.out).mono ?_); rintro e w24 ⟨rfl, hb⟩; have n0_ := Aside0.mk (Kd.R_below (kr_ HO121.out) hb); have n1_ := Aside0.mk (bb_ BK116.out hb); have n2_ := Aside0.mk (below_step (bl1_ HB.out GE116.out) hb); clear HO121; clear BK116; clear HB; have HO121 := n0_; have BK116 := n1_; have HB := n2_; clear n0_ n1_ n2_; (try clear hb); (try clear hb2); (try clear hk); (try clear hi); have hcz25_0 : w24.cell? ⟨gb116, 0, none⟩ = some (.int .i64 x117000_1) := (blk_cell BK116.out 0).trans rfl; have hcz25_1 : w24.cell? ⟨gb116, 1, none⟩ = some (.int .i64 x117001_1) := (blk_cell BK116.out 1).trans rfl; have hfz25_0 := blk_frozen BK116.out 0; have hfz25_1 := blk_frozen BK116.out 1)))
         go_roundg k1
         case measure => have := HK1.out; omega
         case rel => exact ⟨(y119), (wrap64 (x6_1 + 1)), (t122), (t123), rs_, H', ⟨by have := HK1.out; omega⟩, ⟨by (with_reducible repeat (first | apply Kd.R_alloc | apply Kd.R_drewN | apply Kd.R_drew)); exact Kd.R_mono (Kd.R_far (p := ⟨gb116, 1, none⟩) (Kd.R_far (p := ⟨gb116, 0, none⟩) (Kd.R_mono HO121.out (fun k_ hk => (⟨hk, hk⟩ : _ ∧ k_ ≠ gb116))) (fun _ hk => hk.2) (.int .i64 t122)) (fun _ hk => hk.2) (.int .i64 t123)) (fun _ hk => hk.1)⟩, ⟨by (with_reducible repeat (first | refine blk_drewN ?_ _ | refine blk_drew ?_ | refine blk_alloc ?_ _)); refine blk_put (cs := #[.int .i64 t122, .int .i64 x117001_1]) ?_ 1 _ rfl; (with_reducible repeat (first | refine blk_drewN ?_ _ | refine blk_drew ?_ | refine blk_alloc ?_ _)); refine blk_put (cs := #[.int .i64 x117000_1, .int .i64 x117001_1]) ?_ 0 _ rfl; (with_reducible repeat (first | refine blk_drewN ?_ _ | refine blk_drew ?_ | refine blk_alloc ?_ _)); exact BK116.out⟩, ⟨bl1_ HB.out GE116.out⟩⟩
        ·rw [if_neg c16] at H
         exact absurd H (by simp)
     ·rw [if_neg c7] at H
      exact absurd H (by simp)
    ·rw [if_neg c6] at H
     have c6b0 : decide (x6_1 < (a0.size : Int)) = false := decide_eq_false c6
     clear c6
     simp only [Option.some.injEq, Prod.mk.injEq] at H
     obtain ⟨rfl, rfl⟩ := H
     have hcz26_0 : wr.cell? ⟨gb116, 0, none⟩ = some (.int .i64 x117000_1) := (blk_cell BK116.out 0).trans rfl
     have hcz26_1 : wr.cell? ⟨gb116, 1, none⟩ = some (.int .i64 x117001_1) := (blk_cell BK116.out 1).trans rfl
     have hfz26_0 := blk_frozen BK116.out 0
     have hfz26_1 := blk_frozen BK116.out 1
     go_wp2
     repeat (go_quiet (fail); try go_wp2)
     go_ret2
     exact ⟨_, er_, by (with_reducible repeat (first | apply Kd.R_alloc | apply Kd.R_drewN | apply Kd.R_drew)); exact Kd.R_mono HO_4.out (fun _ hk => trivial), bl1_ HB.out GE116.out⟩
 ·replace c3 := Bool.eq_false_iff.mpr c3
  subst c3
  have H1 : (some (([] : List (S39)), false)) = some (r1, r2) := by rw [if_neg (show ¬ (false = true) by decide)] at H; exact H
  clear H
  have H := H1
  clear H1
  simp only [Option.some.injEq, Prod.mk.injEq] at H
  obtain ⟨rfl, rfl⟩ := H
  go_enter Tryd.func28, Tryd.ntmps28
  go_wp2_with (first | (go_at_call 19; (with_reducible refine (spec_l1In.calls (a0.size : Int) 4 40 false _ A2.out).mono ?_); rintro e w' ⟨rfl, ⟨nd, rfl⟩⟩; (try first | exact ⟨rfl, _, World.drewN_drewN _ _ _⟩ | exact ⟨rfl, _, Eq.trans (World.drewN_drewN _ _ _) (congrArg (World.drewN _) (Nat.add_assoc _ _ _))⟩)))
  repeat (go_quiet (first | (go_at_call 19; (with_reducible refine (spec_l1In.calls (a0.size : Int) 4 40 false _ A2.out).mono ?_); rintro e w' ⟨rfl, ⟨nd, rfl⟩⟩; (try first | exact ⟨rfl, _, World.drewN_drewN _ _ _⟩ | exact ⟨rfl, _, Eq.trans (World.drewN_drewN _ _ _) (congrArg (World.drewN _) (Nat.add_assoc _ _ _))⟩))); try go_wp2_with (first | (go_at_call 19; (with_reducible refine (spec_l1In.calls (a0.size : Int) 4 40 false _ A2.out).mono ?_); rintro e w' ⟨rfl, ⟨nd, rfl⟩⟩; (try first | exact ⟨rfl, _, World.drewN_drewN _ _ _⟩ | exact ⟨rfl, _, Eq.trans (World.drewN_drewN _ _ _) (congrArg (World.drewN _) (Nat.add_assoc _ _ _))⟩))))
  go_ret2
  exact ⟨_, er_, by first | exact Kd.R_nil _ _ _ _ _ | exact Kd.N_nil _ _ _ _ _ | exact Kd.V_nil _ _ _ _ _ | exact Kd.Q_nil _ _ _ _ _ | exact Kd.S_nil _ _ _ _ _, bl0_ HB.out⟩

end Go.Proofs.YtidabcihlamidaaDoor.P
namespace Go.Proofs.YtidabcihlamidaaDoor.P
open Go.RowKit Go.Proofs.YtidabcihlamidaaDoorW.PrintWords Go.Proofs.YtidabcihlamidaaDoorW.PrintLast Go.Proofs.YtidabcihlamidaaDoorW.PrintMore
attribute [local go_sem] max2_int min2_int max_two min_two max_three min_three max_four min_four   -- for this text's walks alone
set_option linter.unusedVariables false
set_option linter.unusedSimpArgs false

def spec_IsLoop.f (k : Nat) (a0 : ByteArray) : Option (Bool) := (spec_loCorners.f k a0).bind fun bt124 => (some bt124.2)
theorem spec_IsLoop.mono : ∀ a0 k, LeO (spec_IsLoop.f k a0) (spec_IsLoop.f (k + 1) a0) := by
  intro a0 k
  unfold spec_IsLoop.f
  repeat' first
      | (with_reducible exact spec_loCorners.mono _ _)
      | (with_reducible exact LeO.refl _)
      | (with_reducible exact LeO.none _)
      | (with_reducible refine LeO.ite ?_ ?_)
      | (with_reducible refine LeO.bind ?_ (fun _ => ?_))
      | exact spec_loCorners.mono _ _
      | exact LeO.none _
      | refine LeO.ite ?_ ?_
      | refine LeO.bind ?_ (fun _ => ?_)
set_option maxHeartbeats 8000000 in
set_option maxRecDepth 100000 in
theorem spec_IsLoop.calls (k : Nat) (a0 : ByteArray) (r : Bool) (w : World) (h : spec_IsLoop.f k a0 = some r) :
    Calls Tryd.prog 12 #[.string a0] w fun e w' => e = .returned (.bool r) ∧ Below w.heap.size w w' := by
  have HB := Aside0.mk (Below.refl w.heap.size w)
  have H : ((spec_loCorners.f k a0).bind fun bt124 => (some bt124.2)) = some r := h
  clear h
  replace H := Option.bind_eq_some_iff.mp H
  obtain ⟨⟨t124, t125⟩, A20, H⟩ := H
  replace H : (some t125) = some r := H
  have A2 := Aside0.mk A20
  clear A20
  obtain rfl := Option.some.inj H
  go_enter Tryd.func12, Tryd.ntmps12
  go_wp2_with (first | ((with_reducible refine gate_callee (f := 28) rfl ?_); refine goesL_ (some 7) rfl rfl Tryd.func28 (by kernel_rfl) rfl #[.string a0] rfl ob_ ?_; (with_reducible refine (spec_loCorners.calls k a0 t124 t125 _ A2.out).mono ?_); rintro e w3 ⟨v126, rfl, ho0, hb⟩; refine ⟨_, rfl, ?_⟩; have n0_ := Aside0.mk (Kd.R_lower ho0 (below_size (bl0_ HB.out))); have n1_ := Aside0.mk (below_step (bl0_ HB.out) hb); clear HB; have HO127 := n0_; have HB := n1_; clear n0_ n1_; (try clear hb); (try clear hb2); (try clear hk); (try clear hi); (try clear ho0)))
  go_ret
  exact ⟨er_, bl0_ HB.out⟩


def spec_loBack.l0 : Nat → ByteArray → ByteArray → Int → Option (ByteArray)
 | 0, _, _, _ => none
 | k + 1, x0, x3, x4 => if x4 ≥ 0 then (if 0 ≤ x4 then (if x4 < (x0.size : Int) then ((spec_loDir.f k (bt x0 x4)).bind fun t128 => ((spec_liDirs.f).bind fun t129 => (if 0 ≤ (Int.tmod (wrap64 (t128 + 2)) 4) then (if (Int.tmod (wrap64 (t128 + 2)) 4) ≤ (wrap64 ((Int.tmod (wrap64 (t128 + 2)) 4) + 1)) then (if (wrap64 ((Int.tmod (wrap64 (t128 + 2)) 4) + 1)) ≤ (t129.size : Int) then (if x3.size + (t129.extract ((Int.tmod (wrap64 (t128 + 2)) 4) : Int).toNat ((wrap64 ((Int.tmod (wrap64 (t128 + 2)) 4) + 1)) : Int).toNat).size ≤ 9223372036854775807 then (spec_loBack.l0 k x0 (x3 ++ (t129.extract ((Int.tmod (wrap64 (t128 + 2)) 4) : Int).toNat ((wrap64 ((Int.tmod (wrap64 (t128 + 2)) 4) + 1)) : Int).toNat)) (wrap64 (x4 - 1))) else (none)) else (none)) else (none)) else (none)))) else (none)) else (none)) else (some x3)
def spec_loBack.f (k : Nat) (a0 : ByteArray) : Option (ByteArray) := spec_loBack.l0 k a0 (⟨#[]⟩ : ByteArray) (wrap64 ((a0.size : Int) - 1))
theorem spec_loBack.mono_l : ∀ k, (∀ y0 y1 y2, LeO (spec_loBack.l0 k y0 y1 y2) (spec_loBack.l0 (k + 1) y0 y1 y2))
 | 0 => fun _ _ _ r h => by simp [spec_loBack.l0] at h
 | k + 1 => by
  have ih0 := spec_loBack.mono_l k
  ·intro y0 y1 y2
   unfold spec_loBack.l0
   repeat' first
   | (with_reducible exact ih0 _ _ _)
   | (with_reducible exact spec_loDir.mono _ _)
   | (with_reducible exact LeO.refl _)
   | (with_reducible exact LeO.none _)
   | (with_reducible refine LeO.ite ?_ ?_)
   | (with_reducible refine LeO.bind ?_ (fun _ => ?_))
   | exact ih0 _ _ _
   | exact spec_loDir.mono _ _
   | exact LeO.none _
   | refine LeO.ite ?_ ?_
   | refine LeO.bind ?_ (fun _ => ?_)
theorem spec_loBack.mono : ∀ a0 k, LeO (spec_loBack.f k a0) (spec_loBack.f (k + 1) a0) := by
 intro a0 k
 have ih0 := spec_loBack.mono_l k
 unfold spec_loBack.f
 repeat' first
   | (with_reducible exact ih0 _ _ _)
   | (with_reducible exact spec_loDir.mono _ _)
   | (with_reducible exact LeO.refl _)
   | (with_reducible exact LeO.none _)
   | (with_reducible refine LeO.ite ?_ ?_)
   | (with_reducible refine LeO.bind ?_ (fun _ => ?_))
   | exact ih0 _ _ _
   | exact spec_loDir.mono _ _
   | exact LeO.none _
   | refine LeO.ite ?_ ?_
   | refine LeO.bind ?_ (fun _ => ?_)
set_option maxHeartbeats 8000000 in
set_option maxRecDepth 100000 in
theorem spec_loBack.calls (k : Nat) (a0 : ByteArray) (r : ByteArray) (w : World) (h : spec_loBack.f k a0 = some r) :
  Calls Tryd.prog 29 #[.string a0] w fun e w' => e = .returned (.string r) ∧ Drawn0 w w' := by
 have H : (spec_loBack.l0 k a0 (⟨#[]⟩ : ByteArray) (wrap64 ((a0.size : Int) - 1))) = some r := h
 clear h
 have H' := Aside0.mk H
 clear H
 go_enter Tryd.func29, Tryd.ntmps29
 go_wp2
 go_loopg [3, 4] k (fun kq v3 v4 w' => ∃ (x3_1 : ByteArray) (x4_1 : Int), v3 = .string x3_1 ∧ v4 = .int .i64 x4_1 ∧ Aside0 (spec_loBack.l0 kq a0 x3_1 x4_1 = some r) ∧ Aside0 (kq ≤ k) ∧ Drawn0 w w')
 case atStart => exact ⟨((⟨#[]⟩ : ByteArray)), (wrap64 ((a0.size : Int) - 1)), rs_, rs_, H', ⟨Nat.le_refl _⟩, by repeat (first | exact Drawn0.refl _ | apply Drawn0.step)⟩
 case round =>
  clear H'
  obtain ⟨x3_1, x4_1, rfl, rfl, HA, HK1, ⟨m1, rfl⟩⟩ := hrel
  cases gk with
  | zero => exact absurd HA.out (by simp [spec_loBack.l0])
  | succ k1 =>
   have H := HA.out
   clear HA
   simp only [spec_loBack.l0] at H
   by_cases c2 : x4_1 ≥ 0
   ·rw [if_pos c2] at H
    have c2b0 : decide (0 ≤ x4_1) = true := decide_eq_true c2
    clear c2
    by_cases c3 : 0 ≤ x4_1
    ·rw [if_pos c3] at H
     have c3b0 : decide (0 ≤ x4_1) = true := decide_eq_true c3
     clear c3
     by_cases c4 : x4_1 < (a0.size : Int)
     ·rw [if_pos c4] at H
      have c4b0 : decide (x4_1 < (a0.size : Int)) = true := decide_eq_true c4
      clear c4
      replace H := Option.bind_eq_some_iff.mp H
      obtain ⟨t128, A60, H⟩ := H
      replace H : ((spec_liDirs.f).bind fun t129 => (if 0 ≤ (Int.tmod (wrap64 (t128 + 2)) 4) then (if (Int.tmod (wrap64 (t128 + 2)) 4) ≤ (wrap64 ((Int.tmod (wrap64 (t128 + 2)) 4) + 1)) then (if (wrap64 ((Int.tmod (wrap64 (t128 + 2)) 4) + 1)) ≤ (t129.size : Int) then (if x3_1.size + (t129.extract ((Int.tmod (wrap64 (t128 + 2)) 4) : Int).toNat ((wrap64 ((Int.tmod (wrap64 (t128 + 2)) 4) + 1)) : Int).toNat).size ≤ 9223372036854775807 then (spec_loBack.l0 k1 a0 (x3_1 ++ (t129.extract ((Int.tmod (wrap64 (t128 + 2)) 4) : Int).toNat ((wrap64 ((Int.tmod (wrap64 (t128 + 2)) 4) + 1)) : Int).toNat)) (wrap64 (x4_1 - 1))) else (none)) else (none)) else (none)) else (none))) = some r := H
      have A6 := Aside0.mk A60
      clear A60
      replace H := Option.bind_eq_some_iff.mp H
      obtain ⟨t129, A70, H⟩ := H
      replace H : (if 0 ≤ (Int.tmod (wrap64 (t128 + 2)) 4) then (if (Int.tmod (wrap64 (t128 + 2)) 4) ≤ (wrap64 ((Int.tmod (wrap64 (t128 + 2)) 4) + 1)) then (if (wrap64 ((Int.tmod (wrap64 (t128 + 2)) 4) + 1)) ≤ (t129.size : Int) then (if x3_1.size + (t129.extract ((Int.tmod (wrap64 (t128 + 2)) 4) : Int).toNat ((wrap64 ((Int.tmod (wrap64 (t128 + 2)) 4) + 1)) : Int).toNat).size ≤ 9223372036854775807 then (spec_loBack.l0 k1 a0 (x3_1 ++ (t129.extract ((Int.tmod (wrap64 (t128 + 2)) 4) : Int).toNat ((wrap64 ((Int.tmod (wrap64 (t128 + 2)) 4) + 1)) : Int).toNat)) (wrap64 (x4_1 - 1))) else (none)) else (none)) else (none)) else (none)) = some r := H
      have A7 := Aside0.mk A70
      clear A70
      obtain ⟨ji8, hji8⟩ : ∃ j_ : Int, (Int.tmod (wrap64 (t128 + 2)) 4) = j_ := ⟨_, rfl⟩
      replace H : (if 0 ≤ (ji8) then (if (ji8) ≤ (wrap64 ((ji8) + 1)) then (if (wrap64 ((ji8) + 1)) ≤ (t129.size : Int) then (if x3_1.size + (t129.extract ((ji8) : Int).toNat ((wrap64 ((ji8) + 1)) : Int).toNat).size ≤ 9223372036854775807 then (spec_loBack.l0 k1 a0 (x3_1 ++ (t129.extract ((ji8) : Int).toNat ((wrap64 ((ji8) + 1)) : Int).toNat)) (wrap64 (x4_1 - 1))) else (none)) else (none)) else (none)) else (none)) = some r := by first | (rw [hji8] at H; exact H) | (simp only [hji8] at H ⊢; exact H)
      (try rw [hji8] at A6)
      (try rw [hji8] at A7)
      by_cases c9 : 0 ≤ (ji8)
      ·rw [if_pos c9] at H
       have c9b0 := eq_true c9
       have c9b1 : decide (0 ≤ (ji8)) = true := decide_eq_true c9
       clear c9
       by_cases c10 : (ji8) ≤ (wrap64 ((ji8) + 1))
       ·rw [if_pos c10] at H
        have c10b0 := eq_true c10
        have c10b1 : decide ((ji8) ≤ (wrap64 ((ji8) + 1))) = true := decide_eq_true c10
        by_cases c11 : (wrap64 ((ji8) + 1)) ≤ (t129.size : Int)
        ·rw [if_pos c11] at H
         have c11b0 := eq_true c11
         have c11b1 : decide ((wrap64 ((ji8) + 1)) ≤ (t129.size : Int)) = true := decide_eq_true c11
         by_cases c12 : x3_1.size + (t129.extract ((ji8) : Int).toNat ((wrap64 ((ji8) + 1)) : Int).toNat).size ≤ 9223372036854775807
         ·rw [if_pos c12] at H
          have c12b0 := eq_true c12
          have c12b1 : decide (x3_1.size + (t129.extract ((ji8) : Int).toNat ((wrap64 ((ji8) + 1)) : Int).toNat).size ≤ 9223372036854775807) = true := decide_eq_true c12
          try have c12b2 : (9223372036854775807 < x3_1.size + (t129.extract ((ji8) : Int).toNat ((wrap64 ((ji8) + 1)) : Int).toNat).size) = False := eq_false (Nat.not_lt.2 c12)
          try have c12b3 : (9223372036854775807 < x3_1.size + (((wrap64 ((ji8) + 1))).toNat - ((ji8)).toNat)) = False := eq_false (by have h_ := c12; simp only [ByteArray.size_extract] at h_; omega)
          have H' := Aside0.mk H
          clear H
          have p5 : 0 ≤ (x4_1 : Int) := of_decide_eq_true as_
          have q5 : x4_1 < (a0.size : Int) := of_decide_eq_true as_
          have hx5 := bt_at a0 x4_1
          replace p5 := eq_true p5
          replace q5 := eq_true q5
          go_wp2_with (first | ((with_reducible refine gate_callee (f := 16) rfl ?_); refine goesL_ (some 16) rfl rfl Tryd.func16 (by kernel_rfl) rfl #[.int .u8 (bt a0 x4_1)] rfl ob_ ?_; (with_reducible refine (spec_loDir.calls k1 (bt a0 x4_1) t128 _ A6.out).mono ?_); rintro e w' ⟨rfl, ⟨nd, rfl⟩⟩; refine ⟨_, rfl, ?_⟩) | ((with_reducible refine gate_callee (f := 20) rfl ?_); refine goesL_ (some 20) rfl rfl Tryd.func20 (by kernel_rfl) rfl #[] rfl ob_ ?_; (with_reducible refine (spec_liDirs.calls  t129 _ A7.out).mono ?_); rintro e w' ⟨rfl, ⟨nd, rfl⟩⟩; refine ⟨_, rfl, ?_⟩))
          go_roundg k1
          case measure => have := HK1.out; omega
          case rel => exact ⟨(x3_1 ++ (t129.extract ((ji8) : Int).toNat ((wrap64 ((ji8) + 1)) : Int).toNat)), (wrap64 (x4_1 - 1)), (by first | rfl | (simp; done) | (simp only [← hji8] <;> (first | rfl | simp)) | (simp [*]; done)), rs_, H', ⟨by have := HK1.out; omega⟩, by repeat (first | exact Drawn0.refl _ | apply Drawn0.step)⟩
         ·rw [if_neg c12] at H
          exact absurd H (by simp)
        ·rw [if_neg c11] at H
         exact absurd H (by simp)
       ·rw [if_neg c10] at H
        exact absurd H (by simp)
      ·rw [if_neg c9] at H
       exact absurd H (by simp)
     ·rw [if_neg c4] at H
      exact absurd H (by simp)
    ·rw [if_neg c3] at H
     exact absurd H (by simp)
   ·rw [if_neg c2] at H
    have c2b0 : decide (0 ≤ x4_1) = false := decide_eq_false c2
    clear c2
    obtain rfl := Option.some.inj H
    go_wp2
    go_ret
    exact ⟨by first | rfl | (simp; done) | (simp [*]; done), by repeat (first | exact Drawn0.refl _ | apply Drawn0.step)⟩


def lessB (a b : S39) : Bool := decide (a.f1 < b.f1) || (decide (a.f1 = b.f1) && decide (a.f0 < b.f0))
def bestF (cs : List S39) : Nat → Nat
  | 0 => 0
  | i + 1 => if lessB (cs.getD i ⟨0, 0⟩) (cs.getD (bestF cs i) ⟨0, 0⟩) = true then i else bestF cs i
theorem bestF_lt (cs : List S39) : ∀ i, 0 < i → bestF cs i < i
  | 1, _ => by unfold bestF; split <;> simp [bestF]
  | i + 2, _ => by
    have := bestF_lt cs (i + 1) (by omega)
    rw [bestF]
    split <;> omega
theorem bestF_le (cs : List S39) : ∀ i, bestF cs i ≤ i
  | 0 => Nat.le_refl _
  | i + 1 => by have := bestF_lt cs (i + 1) (by omega); omega
def turnB (s : ByteArray) (b : Nat) : ByteArray := s.extract b s.size ++ s.extract 0 b
def spec_loStart.f (k : Nat) (a0 : ByteArray) : Option ByteArray := (spec_loCorners.f k a0).bind fun p => if a0.size ≤ 1000 ∧ 0 < a0.size ∧ p.1.length ≤ a0.size then (if bt (turnB a0 (bestF p.1 p.1.length)) 0 = 101 then some (turnB a0 (bestF p.1 p.1.length)) else spec_loBack.f k (turnB a0 (bestF p.1 p.1.length))) else none
theorem spec_loStart.mono : ∀ a0 k, LeO (spec_loStart.f k a0) (spec_loStart.f (k + 1) a0) := by
  intro a0 k
  unfold spec_loStart.f
  refine LeO.bind (spec_loCorners.mono _ _) (fun _ => ?_)
  refine LeO.ite ?_ (LeO.none _)
  exact LeO.ite (LeO.refl _) (spec_loBack.mono _ _)
theorem turnB_size (s : ByteArray) (b : Nat) (h : b ≤ s.size) : (turnB s b).size = s.size := by
  unfold turnB
  rw [ByteArray.size_append, ByteArray.size_extract, ByteArray.size_extract]
  omega
set_option maxRecDepth 100000 in
set_option maxHeartbeats 8000000 in
theorem loStart_any (k : Nat) (s r : ByteArray) (cs : List S39) (ok : Bool) (h1 : spec_loCorners.f k s = some (cs, ok)) (hs : s.size ≤ 1000) (h0 : 0 < s.size) (hcs : cs.length ≤ s.size)
    (h2 : (if bt (turnB s (bestF cs cs.length)) 0 = 101 then some (turnB s (bestF cs cs.length)) else spec_loBack.f k (turnB s (bestF cs cs.length))) = some r) (w : World) :
    Calls Tryd.prog 13 #[.string s] w fun e w' => e = .returned (.string r) ∧ Below w.heap.size w w' := by
  have H1 := Aside0.mk h1
  have H2 := Aside0.mk h2
  have HCS := Aside0.mk hcs
  clear h1 h2
  go_enter Tryd.func13, Tryd.ntmps13
  go_wp2_with (first
    | (go_at_call 28; (with_reducible refine (spec_loCorners.calls k s cs ok _ H1.out).mono ?_)
       rintro e w1 ⟨v, rfl, ho, hb⟩
       obtain ⟨A, c, rfl⟩ := Kd.R_slice ho
       have HO := Aside0.mk ho
       have HB := Aside0.mk hb
       clear ho hb))
  generalize hm : cs.length = m at HCS HO H2 ⊢
  have HM := Aside0.mk hm
  clear hm
  have hm9 : m ≤ 1000 := by have := HCS.out; omega
  go_loopg [5, 16] m (fun gg v5 v16 wr => ∃ i : Nat, i ≤ m ∧ m - i ≤ gg ∧ v16 = .int .i64 i ∧ v5 = .int .i64 (bestF cs i) ∧ Aside0 (Kd.R k39 39 wr w.heap.size (fun _ => True) (.slice A m c) cs) ∧ Aside0 (Below w.heap.size w wr))
  case atStart => exact ⟨0, Nat.zero_le _, by omega, rfl, rfl, HO, HB⟩
  case round =>
    clear HO HB
    obtain ⟨i, hi, hgg, rfl, rfl, HO, HB⟩ := hrel
    by_cases hlt : i < m
    · have hltz : (i : Int) < (m : Int) := by omega
      have hbl : bestF cs i < m := by
        rcases Nat.eq_zero_or_pos i with h | h
        · rw [h]; show 0 < m; omega
        · have := bestF_lt cs i h; omega
      have hblz : (bestF cs i : Int) < (m : Int) := by omega
      have HSTEP := Aside0.mk (show bestF cs (i + 1) = if lessB (cs.getD i ⟨0, 0⟩) (cs.getD (bestF cs i) ⟨0, 0⟩) = true then i else bestF cs i from rfl)
      have hat : ∀ (W : World), Kd.R k39 39 W w.heap.size (fun _ => True) (.slice A m c) cs → ∀ j : Nat, j < m → ∃ ad, A = some ad ∧ W.cell? (ad.add (j * 2)) = some (.int .i64 (cs.getD j ⟨0, 0⟩).f0) ∧ W.cell? ⟨(ad.add (j * 2)).block, (ad.add (j * 2)).off + 1, none⟩ = some (.int .i64 (cs.getD j ⟨0, 0⟩).f1) := fun W hR j hj => by
        obtain ⟨ad, h1, h2, h3⟩ := at_T39 (Kd.R_reads' hR).2.2 (j : Int) (by omega) (by rw [HM.out]; omega)
        have hrc : rd_T39 cs (j : Int) = cs.getD j ⟨0, 0⟩ := by unfold rd_T39; rw [Int.toNat_natCast]; rfl
        rw [hrc, Int.toNat_natCast] at h2 h3
        exact ⟨ad, h1, h2, h3⟩
      obtain ⟨ad, rfl, hx0, hx1⟩ := hat wr HO.out i hlt
      obtain ⟨ad', he, hy0, hy1⟩ := hat (wr.alloc (.cells #[.int .i64 (cs.getD i ⟨0, 0⟩).f0, .int .i64 (cs.getD i ⟨0, 0⟩).f1] 39)) (Kd.R_alloc HO.out _) (bestF cs i) hbl
      cases he
      clear hat
      generalize bestF cs i = b at hblz HSTEP hy0 hy1 ⊢
      generalize cs.getD i ⟨0, 0⟩ = ci at HSTEP hx0 hx1 hy0 hy1
      generalize cs.getD b ⟨0, 0⟩ = cb at HSTEP hy0 hy1
      obtain ⟨x0, x1⟩ := ci
      obtain ⟨y0, y1⟩ := cb
      have HOa := Aside0.mk (Kd.R_alloc (Kd.R_alloc HO.out (.cells #[.int .i64 x0, .int .i64 x1] 39)) (.cells #[.int .i64 y0, .int .i64 y1] 39))
      have HBa := Aside0.mk (below_alloc (below_alloc HB.out (.cells #[.int .i64 x0, .int .i64 x1] 39)) (.cells #[.int .i64 y0, .int .i64 y1] 39))
      clear HO HB
      by_cases c1 : x1 < y1
      · have d1 : decide (x1 < y1) = true := decide_eq_true c1
        have HN : Aside0 (bestF cs (i + 1) = i) := ⟨by rw [HSTEP.out]; unfold lessB; simp [c1]⟩
        clear c1 HSTEP
        go_wp2_with fail
        go_roundg (m - (i + 1))
        case measure => omega
        case rel => exact ⟨i + 1, by omega, by omega, by go_num, by rw [HN.out], HOa, HBa⟩
      · have d1 : decide (x1 < y1) = false := decide_eq_false c1
        by_cases c2 : x1 = y1
        · subst c2
          have d2 : (x1 == x1) = true := by simp
          by_cases c3 : x0 < y0
          · have d3 : decide (x0 < y0) = true := decide_eq_true c3
            have HN : Aside0 (bestF cs (i + 1) = i) := ⟨by rw [HSTEP.out]; unfold lessB; simp [c3]⟩
            clear c1 c3 HSTEP
            go_wp2_with fail
            go_roundg (m - (i + 1))
            case measure => omega
            case rel => exact ⟨i + 1, by omega, by omega, by go_num, by rw [HN.out], HOa, HBa⟩
          · have d3 : decide (x0 < y0) = false := decide_eq_false c3
            have HN : Aside0 (bestF cs (i + 1) = b) := ⟨by rw [HSTEP.out]; unfold lessB; simp [c3]⟩
            clear c1 c3 HSTEP
            go_wp2_with fail
            go_roundg (m - (i + 1))
            case measure => omega
            case rel => exact ⟨i + 1, by omega, by omega, by go_num, by rw [HN.out], HOa, HBa⟩
        · have d2 : (x1 == y1) = false := by simpa using c2
          have HN : Aside0 (bestF cs (i + 1) = b) := ⟨by rw [HSTEP.out]; unfold lessB; simp [c1, c2]⟩
          clear c1 c2 HSTEP
          go_wp2_with fail
          go_roundg (m - (i + 1))
          case measure => omega
          case rel => exact ⟨i + 1, by omega, by omega, by go_num, by rw [HN.out], HOa, HBa⟩
    · have hltz : ¬ (i : Int) < (m : Int) := by omega
      obtain rfl : i = m := by omega
      have hbe : bestF cs i ≤ s.size := by have := bestF_le cs i; have := HCS.out; omega
      have htb := turnB_size s (bestF cs i) hbe
      clear hm9 hgg hi
      generalize bestF cs i = b at hbe htb H2 ⊢
      have hbz : (b : Int) ≤ (s.size : Int) := by omega
      have HT := Aside0.mk htb
      have hts : (0 : Int) < ((turnB s b).size : Int) := by omega
      by_cases c1 : bt (turnB s b) 0 = 101
      · have h3 := H2.out
        rw [if_pos c1] at h3
        have RE := Aside0.mk (Option.some.inj h3)
        have C1 := Aside0.mk c1
        have HTS := Aside0.mk hts
        clear h3 c1 hts htb H2
        go_wp2_with fail
        go_quiet (fail)
        rw [show s.extract b s.size ++ s.extract 0 b = turnB s b from rfl]
        generalize turnB s b = t at C1 HTS RE ⊢
        have c44b0 : (bt t 0 == 101) = true := beq_iff_eq.mpr C1.out
        have c44b1 : (bt t 0 != 101) = false := bne_eq_false_iff_eq.mpr C1.out
        have hx43 : ∀ h : 0 < t.size, ((t[0]'h).toNat : Int) = bt t 0 := bt_at t 0
        have q43 : (0 < t.size) = True := eq_true (by have := HTS.out; omega)
        have qi43 : (0 < (t.size : Int)) = True := eq_true HTS.out
        go_wp2_with fail
        go_ret
        have he := RE.out
        subst he
        exact ⟨rfl, pw_below_drewN HB.out _⟩
      · have h3 := H2.out
        rw [if_neg c1] at h3
        have C1 := Aside0.mk c1
        have HTS := Aside0.mk hts
        have H3 := Aside0.mk h3
        clear h3 c1 hts htb H2
        go_wp2_with fail
        go_quiet (fail)
        rw [show s.extract b s.size ++ s.extract 0 b = turnB s b from rfl]
        generalize turnB s b = t at C1 HTS H3 ⊢
        have c44b0 : (bt t 0 == 101) = false := beq_eq_false_iff_ne.mpr C1.out
        have c44b1 : (bt t 0 != 101) = true := bne_iff_ne.mpr C1.out
        have hx43 : ∀ h : 0 < t.size, ((t[0]'h).toNat : Int) = bt t 0 := bt_at t 0
        have q43 : (0 < t.size) = True := eq_true (by have := HTS.out; omega)
        have qi43 : (0 < (t.size : Int)) = True := eq_true HTS.out
        go_wp2_with ((go_at_call 29; (with_reducible refine (spec_loBack.calls k t r _ H3.out).mono ?_); rintro e w' ⟨rfl, ⟨nd, rfl⟩⟩))
        go_ret
        exact ⟨rfl, pw_below_drewN HB.out _⟩
theorem spec_loStart.calls (k : Nat) (a0 : ByteArray) (r : ByteArray) (w : World) (h : spec_loStart.f k a0 = some r) :
    Calls Tryd.prog 13 #[.string a0] w fun e w' => e = .returned (.string r) ∧ Below w.heap.size w w' := by
  unfold spec_loStart.f at h
  obtain ⟨⟨cs, ok⟩, h1, h2⟩ := Option.bind_eq_some_iff.mp h
  dsimp only at h2
  split at h2
  · rename_i h3
    exact loStart_any k a0 r cs ok h1 h3.1 h3.2.1 h3.2.2 h2 w
  · cases h2


def turnAt (l : List UInt8) (i : Nat) : Int := Int.tmod (dirN ((l.getD ((i + 1) % l.length) 0).toNat : Int) - dirN ((l.getD i 0).toNat : Int) + 4) 4
def turnsL (l : List UInt8) (v : Int) : Nat → Int
  | 0 => 0
  | i + 1 => turnsL l v i + if turnAt l i = v then 1 else 0
theorem turnsL_b (l : List UInt8) (v : Int) : ∀ i : Nat, 0 ≤ turnsL l v i ∧ turnsL l v i ≤ (i : Int)
  | 0 => ⟨Int.le_refl _, Int.le_refl _⟩
  | i + 1 => by
    have := turnsL_b l v i
    rw [turnsL]
    split <;> omega
def spec_TurnsOfLoop.f (k : Nat) (a0 : ByteArray) : Option (Int × Int × Bool) := (spec_IsLoop.f k a0).bind fun t => if t = true then (spec_loStart.f k a0).bind fun u => if u.size ≤ 1000 ∧ 0 < u.size ∧ u.data.toList.all stepBW = true then some (turnsL u.data.toList 1 u.size, turnsL u.data.toList 3 u.size, true) else none else some (0, 0, false)
theorem spec_TurnsOfLoop.mono : ∀ a0 k, LeO (spec_TurnsOfLoop.f k a0) (spec_TurnsOfLoop.f (k + 1) a0) := by
  intro a0 k
  unfold spec_TurnsOfLoop.f
  refine LeO.bind (spec_IsLoop.mono _ _) (fun _ => ?_)
  refine LeO.ite ?_ (LeO.refl _)
  exact LeO.bind (spec_loStart.mono _ _) (fun _ => LeO.refl _)
theorem dirN_b (b : Int) : -1 ≤ dirN b ∧ dirN b ≤ 3 := by
  unfold dirN
  repeat' split
  all_goals omega
theorem step_ascii {b : UInt8} (h : stepBW b = true) : b.toNat < 128 := by
  unfold stepBW at h
  rw [Bool.or_eq_true, Bool.or_eq_true, Bool.or_eq_true, beq_iff_eq, beq_iff_eq, beq_iff_eq, beq_iff_eq] at h
  rcases h with ((rfl | rfl) | rfl) | rfl <;> decide
set_option maxRecDepth 100000 in
set_option maxHeartbeats 8000000 in
theorem sTurns_yes (k : Nat) (s u : ByteArray) (h1 : spec_IsLoop.f k s = some true) (h2 : spec_loStart.f k s = some u) (hs : u.size ≤ 1000) (h0 : 0 < u.size) (hst : u.data.toList.all stepBW = true) (w : World) :
    Calls Tryd.prog 8 #[.string s] w fun e w' => e = .returned (.tuple #[.int .i64 (turnsL u.data.toList 1 u.size), .int .i64 (turnsL u.data.toList 3 u.size), .bool true]) ∧ Below w.heap.size w w' := by
  have H1 := Aside0.mk h1
  have H2 := Aside0.mk h2
  have hul : u.data.toList.length = u.size := by simp
  have HAT : Aside0 (∀ i : Nat, i < u.size → ∃ c : UInt8, u.data.toList.getD i 0 = c ∧ bt u (i : Int) = (c.toNat : Int) ∧ c.toNat < 128 ∧ ∀ h : i < u.size, u[i]'h = c) := ⟨fun i hi => by
    have hil : i < u.data.toList.length := by omega
    have e : u.data.toList.getD i 0 = u[i]'hi := by rw [List.getD_eq_getElem?_getD, List.getElem?_eq_getElem hil]; rfl
    refine ⟨u.data.toList.getD i 0, rfl, ?_, ?_, fun h => e.symm⟩
    · unfold bt
      rw [Int.toNat_natCast, dif_pos hi, e]
    · refine step_ascii (List.all_eq_true.1 hst _ ?_)
      rw [List.getD_eq_getElem?_getD, List.getElem?_eq_getElem hil]
      exact List.getElem_mem hil⟩
  generalize hl : u.data.toList = l at HAT hul ⊢
  clear h1 h2 hst hl
  go_enter Tryd.func8, Tryd.ntmps8
  go_wp2_with (first
    | (go_at_call 12; (with_reducible refine (spec_IsLoop.calls k s true _ H1.out).mono ?_)
       rintro e w1 ⟨rfl, hb⟩
       have HB1 := Aside0.mk hb
       clear hb)
    | (go_at_call 13; (with_reducible refine (spec_loStart.calls k s u _ H2.out).mono ?_)
       rintro e w2 ⟨rfl, hb⟩
       have HB2 := Aside0.mk (below_step HB1.out hb)
       clear hb HB1))
  have HI : Aside0 ((w2.iter u 0).heap[w2.heap.size]? = some (.stringIter u 0)) := ⟨iter_new w2 u⟩
  have HB3 : Aside0 (Below w.heap.size w (w2.iter u 0)) := ⟨below_alloc HB2.out _⟩
  have HG : Aside0 (w.heap.size ≤ w2.heap.size) := ⟨HB2.out.size⟩
  clear H1 H2 HB2
  generalize w2.iter u 0 = W at HI HB3 ⊢
  generalize w2.heap.size = g at HI HG ⊢
  have HUL := Aside0.mk hul
  clear hul
  go_loopg [5, 6] u.size (fun gg v5 v6 wr => ∃ i : Nat, i ≤ u.size ∧ u.size - i ≤ gg ∧ v5 = .int .i64 (turnsL l 1 i) ∧ v6 = .int .i64 (turnsL l 3 i) ∧ Aside0 (wr.heap[g]? = some (.stringIter u i)) ∧ Aside0 (Below w.heap.size w wr))
  case atStart => exact ⟨0, Nat.zero_le _, by omega, rfl, rfl, HI, HB3⟩
  case round =>
    clear HI HB3
    obtain ⟨i, hi, hgg, rfl, rfl, HI, HB⟩ := hrel
    by_cases hlt : i < u.size
    · obtain ⟨c, hc1, hc2, hc3, hc4⟩ := HAT.out i hlt
      have hju : (i + 1) % u.size < u.size := Nat.mod_lt _ h0
      obtain ⟨d, hd1, hd2, hd3, hd4⟩ := HAT.out ((i + 1) % u.size) hju
      have hlu : i < u.size := hlt
      have hnext := fun ty => run_next_at (P := Tryd.prog) wr g u i ty HI.out hlu (by rw [hc4]; exact hc3)
      have HI2 := Aside0.mk (setIter_at (s := u) (p := i + 1) HI.out)
      have HB2 := Aside0.mk (setIter_below (s := u) (p := i + 1) HB.out HG.out)
      have htn : turnAt l i = Int.tmod (dirN (d.toNat : Int) - dirN (c.toNat : Int) + 4) 4 := by unfold turnAt; rw [HUL.out, hc1, hd1]
      have HS1 : Aside0 (turnsL l 1 (i + 1) = turnsL l 1 i + if Int.tmod (dirN (d.toNat : Int) - dirN (c.toNat : Int) + 4) 4 = 1 then 1 else 0) := ⟨by rw [turnsL, htn]⟩
      have HS3 : Aside0 (turnsL l 3 (i + 1) = turnsL l 3 i + if Int.tmod (dirN (d.toNat : Int) - dirN (c.toNat : Int) + 4) 4 = 3 then 1 else 0) := ⟨by rw [turnsL, htn]⟩
      have hb1 := turnsL_b l 1 i
      have hb3 := turnsL_b l 3 i
      clear HI HB htn hd1 hc1
      generalize turnsL l 1 i = t1 at HS1 hb1 ⊢
      generalize turnsL l 3 i = t3 at HS3 hb3 ⊢
      have hdc := dirN_b (c.toNat : Int)
      have hdd := dirN_b (d.toNat : Int)
      have HDC := Aside0.mk (loDir_f (c.toNat : Int) 100 (by decide))
      have HDD := Aside0.mk (loDir_f (d.toNat : Int) 100 (by decide))
      generalize dirN (c.toNat : Int) = dc at HDC hdc HS1 HS3
      generalize dirN (d.toNat : Int) = dd at HDD hdd HS1 HS3
      generalize setIter wr g u (i + 1) = w7 at hnext HI2 HB2
      go_wp2_with fail
      have hjz : (((i + 1) % u.size : Nat) : Int) < (u.size : Int) := by omega
      have hiz : (i : Int) < (u.size : Int) := by omega
      have hu0 : ((u.size : Int) == 0) = false := by simpa using (show ¬ (u.size : Int) = 0 by omega)
      have e1 : IntKind.i64.wrap ((i : Int) + 1) = (i : Int) + 1 := by rw [IntKind.wrap_i64]; omega
      have e3 : IntKind.i64.wrap (dd - dc) = dd - dc := by rw [IntKind.wrap_i64]; clear e1; omega
      have e4 : IntKind.i64.wrap (dd - dc + 4) = dd - dc + 4 := by rw [IntKind.wrap_i64]; clear e1 e3; omega
      have e2 : Int.tmod ((i : Int) + 1) (u.size : Int) = (((i + 1) % u.size : Nat) : Int) := rfl
      have hu1 : ((u.size : Int) = 0) = False := eq_false (by omega)
      have hu2 : (u.size = 0) = False := eq_false (by omega)
      have E := Aside0.mk (And.intro e1 (And.intro e2 (And.intro e3 e4)))
      have hbt1 : ((d.toNat : Nat) : Int) = (d.toNat : Int) := rfl
      have hxj := hd4
      have hxi := hc4
      have hju2 : ((i + 1) % u.size < u.size) = True := eq_true hju
      have hlu2 : (i < u.size) = True := eq_true hlt
      clear hc2 hd2 hc3 hd3 hnext h0 hbt1
      generalize (i + 1) % u.size = j at E hjz hxj hju2 hd4 e2
      obtain ⟨e1, e2, e3, e4⟩ := E.out
      clear E
      go_quiet ((first
        | (go_at_call 16; (with_reducible refine (spec_loDir.calls 100 (c.toNat : Int) dc _ HDC.out).mono ?_); rintro e w' ⟨rfl, ⟨nd, rfl⟩⟩; (try first | exact ⟨rfl, _, World.drewN_drewN _ _ _⟩ | exact ⟨rfl, _, Eq.trans (World.drewN_drewN _ _ _) (congrArg (World.drewN _) (Nat.add_assoc _ _ _))⟩))
        | (go_at_call 16; (with_reducible refine (spec_loDir.calls 100 (d.toNat : Int) dd _ HDD.out).mono ?_); rintro e w' ⟨rfl, ⟨nd, rfl⟩⟩; (try first | exact ⟨rfl, _, World.drewN_drewN _ _ _⟩ | exact ⟨rfl, _, Eq.trans (World.drewN_drewN _ _ _) (congrArg (World.drewN _) (Nat.add_assoc _ _ _))⟩))))
      clear e1 e2 e3 e4 hu1 hu2 hu0 hxj hxi hju2 hlu2 hjz hju hd4 hc4 HDC HDD hlu
      have etm : (dd - dc + 4).tmod 4 = (dd - dc) % 4 := by rw [Int.tmod_eq_emod_of_nonneg (by omega)]; omega
      rw [etm] at HS1 HS3
      clear etm
      have hr1 : t1 ≤ 1000 := by have := hb1.2; omega
      have hr3 : t3 ≤ 1000 := by have := hb3.2; omega
      have hl1 := hb1.1
      have hl3 := hb3.1
      clear hb1 hb3
      by_cases c1 : (dd - dc) % 4 = 1
      · have c3 : ¬ (dd - dc) % 4 = 3 := by omega
        have d1 : ((dd - dc) % 4 == 1) = true := by simpa using c1
        have d3 : ((dd - dc) % 4 == 3) = false := by simpa using c3
        have N1 : Aside0 (turnsL l 1 (i + 1) = t1 + 1) := ⟨by rw [HS1.out]; simp [c1, c3]⟩
        have N3 : Aside0 (turnsL l 3 (i + 1) = t3) := ⟨by rw [HS3.out]; simp [c1, c3]⟩
        have HIr : Aside0 ((w7.drewN nq).heap[g]? = some (.stringIter u (i + 1))) := ⟨HI2.out⟩
        have HBr := Aside0.mk (pw_below_drewN HB2.out nq)
        clear c1 c3
        go_wp2_with fail
        go_roundg (u.size - (i + 1))
        case measure => omega
        case rel => exact ⟨i + 1, by omega, by omega, by rw [N1.out], by rw [N3.out], HIr, HBr⟩
      · by_cases c3 : (dd - dc) % 4 = 3
        · have d1 : ((dd - dc) % 4 == 1) = false := by simpa using c1
          have d3 : ((dd - dc) % 4 == 3) = true := by simpa using c3
          have N1 : Aside0 (turnsL l 1 (i + 1) = t1) := ⟨by rw [HS1.out]; simp [c1, c3]⟩
          have N3 : Aside0 (turnsL l 3 (i + 1) = t3 + 1) := ⟨by rw [HS3.out]; simp [c1, c3]⟩
          have HIr : Aside0 ((w7.drewN nq).heap[g]? = some (.stringIter u (i + 1))) := ⟨HI2.out⟩
          have HBr := Aside0.mk (pw_below_drewN HB2.out nq)
          clear c1 c3
          go_wp2_with fail
          go_roundg (u.size - (i + 1))
          case measure => omega
          case rel => exact ⟨i + 1, by omega, by omega, by rw [N1.out], by rw [N3.out], HIr, HBr⟩
        · have d1 : ((dd - dc) % 4 == 1) = false := by simpa using c1
          have d3 : ((dd - dc) % 4 == 3) = false := by simpa using c3
          have N1 : Aside0 (turnsL l 1 (i + 1) = t1) := ⟨by rw [HS1.out]; simp [c1, c3]⟩
          have N3 : Aside0 (turnsL l 3 (i + 1) = t3) := ⟨by rw [HS3.out]; simp [c1, c3]⟩
          have HIr : Aside0 ((w7.drewN nq).heap[g]? = some (.stringIter u (i + 1))) := ⟨HI2.out⟩
          have HBr := Aside0.mk (pw_below_drewN HB2.out nq)
          clear c1 c3
          go_wp2_with fail
          go_roundg (u.size - (i + 1))
          case measure => omega
          case rel => exact ⟨i + 1, by omega, by omega, by rw [N1.out], by rw [N3.out], HIr, HBr⟩
    · have hlz : ¬ i < u.size := hlt
      have hnone := fun ty => run_next_none (P := Tryd.prog) wr g u i ty HI.out hlz
      obtain rfl : i = u.size := by omega
      go_wp2_with fail
      exact bodyPost_ret (v := .tuple #[.int .i64 (turnsL l 1 u.size), .int .i64 (turnsL l 3 u.size), .bool true]) (by simp [results, go_sem]) rfl ⟨rfl, HB.out⟩
set_option maxRecDepth 100000 in
theorem sTurns_no (k : Nat) (s : ByteArray) (h1 : spec_IsLoop.f k s = some false) (w : World) :
    Calls Tryd.prog 8 #[.string s] w fun e w' => e = .returned (.tuple #[.int .i64 0, .int .i64 0, .bool false]) ∧ Below w.heap.size w w' := by
  have H1 := Aside0.mk h1
  clear h1
  go_enter Tryd.func8, Tryd.ntmps8
  go_wp2_with ((go_at_call 12; (with_reducible refine (spec_IsLoop.calls k s false _ H1.out).mono ?_)
                rintro e w1 ⟨rfl, hb⟩
                have HB1 := Aside0.mk hb
                clear hb))
  exact bodyPost_ret (v := .tuple #[.int .i64 0, .int .i64 0, .bool false]) (by simp [results, go_sem]) rfl ⟨rfl, HB1.out⟩
theorem spec_TurnsOfLoop.calls (k : Nat) (a0 : ByteArray) (r1 r2 : Int) (r3 : Bool) (w : World) (h : spec_TurnsOfLoop.f k a0 = some (r1, r2, r3)) :
    Calls Tryd.prog 8 #[.string a0] w fun e w' => e = .returned (.tuple #[.int .i64 r1, .int .i64 r2, .bool r3]) ∧ Below w.heap.size w w' := by
  unfold spec_TurnsOfLoop.f at h
  obtain ⟨t, h1, h⟩ := Option.bind_eq_some_iff.mp h
  cases t with
  | false =>
    rw [if_neg (by decide)] at h
    simp only [Option.some.injEq, Prod.mk.injEq] at h
    obtain ⟨rfl, rfl, rfl⟩ := h
    exact sTurns_no k a0 h1 w
  | true =>
    rw [if_pos rfl] at h
    obtain ⟨u, h2, h⟩ := Option.bind_eq_some_iff.mp h
    split at h
    · rename_i h3
      simp only [Option.some.injEq, Prod.mk.injEq] at h
      obtain ⟨rfl, rfl, rfl⟩ := h
      exact sTurns_yes k a0 u h1 h2 h3.1 h3.2.1 h3.2.2 w
    · cases h


def strings_IndexByte.f (a0 : ByteArray) (a1 : Int) : Option Int := some (Lib.indexByte a0.data.toList a1.toNat.toUInt8)
theorem strings_IndexByte.calls (a0 : ByteArray) (a1 : Int) (r : Int) (w : World) (h : strings_IndexByte.f a0 a1 = some r) :
    Calls Tryd.prog 17 #[.string a0, .int .u8 a1] w fun e w' => e = .returned (.int .i64 r) ∧ Drawn0 w w' := by
  obtain rfl := Option.some.inj h
  refine (Tryd.strings_IndexByte a0 a1 w).mono ?_
  rintro e w' ⟨rfl, rfl⟩
  exact ⟨rfl, ⟨0, rfl⟩⟩


structure FrameBut (O : Nat → Prop) (w w' : World) : Prop where
  os : w'.os = w.os
  tape : w'.tape = w.tape
  output : w'.output = w.output
  size : w.heap.size ≤ w'.heap.size
  block : ∀ k, k < w.heap.size → ¬ O k → w'.heap[k]? = w.heap[k]?
theorem FrameBut.refl (O : Nat → Prop) (w : World) : FrameBut O w w := ⟨rfl, rfl, rfl, Nat.le_refl _, fun _ _ _ => rfl⟩
theorem FrameBut.trans {O O1 : Nat → Prop} {w w1 w2 : World} (h : FrameBut O w w1) (k : FrameBut O1 w1 w2) (hO : ∀ k, O1 k → O k ∨ w.heap.size ≤ k) : FrameBut O w w2 :=
  ⟨k.os.trans h.os, k.tape.trans h.tape, k.output.trans h.output, Nat.le_trans h.size k.size, fun i hi hn => (k.block i (Nat.lt_of_lt_of_le hi h.size) (fun h1 => (hO i h1).elim hn (fun h2 => absurd hi (Nat.not_lt.2 h2)))).trans (h.block i hi hn)⟩
theorem FrameBut.mono {O O1 : Nat → Prop} {w w1 : World} (h : FrameBut O w w1) (hO : ∀ k, k < w.heap.size → O k → O1 k) : FrameBut O1 w w1 :=
  ⟨h.os, h.tape, h.output, h.size, fun i hi hn => h.block i hi (fun h1 => hn (hO i hi h1))⟩
theorem FrameBut.of_below {O : Nat → Prop} {w w1 : World} (h : Below w.heap.size w w1) : FrameBut O w w1 := ⟨h.os, h.tape, h.output, h.size, fun i hi _ => h.block i hi⟩
theorem FrameBut.below {O : Nat → Prop} {w w1 w2 : World} (h : FrameBut O w w1) (k : Below w1.heap.size w1 w2) : FrameBut O w w2 := h.trans (FrameBut.of_below (O := O) k) (fun _ h => .inl h)
theorem FrameBut.alloc {O : Nat → Prop} {w w1 : World} (h : FrameBut O w w1) (o : Obj) : FrameBut O w (w1.alloc o) := h.below (below_alloc (Below.refl _ _) o)
theorem FrameBut.drew {O : Nat → Prop} {w w1 : World} (h : FrameBut O w w1) : FrameBut O w w1.drew := h.below (below_drew (Below.refl _ _))
theorem FrameBut.drewN {O : Nat → Prop} {w w1 : World} (h : FrameBut O w w1) (n : Nat) : FrameBut O w (w1.drewN n) := h.below (pw_below_drewN (Below.refl _ _) n)
theorem FrameBut.grown {O : Nat → Prop} {w w1 w2 : World} {row : Option Nat} (h : FrameBut O w w1) (hg : w1.grownBy w2 row) (hr : ∀ k, row = some k → O k ∨ w.heap.size ≤ k) : FrameBut O w w2 :=
  h.trans (O1 := fun k => row = some k) ⟨hg.os, hg.tape, hg.output, hg.size, fun k hk hn => hg.block k hk (fun e => hn e.symm)⟩ hr
theorem FrameBut.setCell {O : Nat → Prop} {w w1 : World} (h : FrameBut O w w1) {p : Addr} (hp : O p.block ∨ w.heap.size ≤ p.block) (u : Value) : FrameBut O w (w1.setCell p u) :=
  h.trans (O1 := fun k => k = p.block) ⟨rfl, rfl, rfl, by simp [World.setCell], fun k _ hn => Below.heap_setCell _ _ _ _ hn⟩ (fun k e => by rw [e]; exact hp)
theorem FrameBut.turned {O : Nat → Prop} {w w1 w2 : World} {b : Nat} (h : FrameBut O w w1) (ht : w1.mapTurned w2 b) (hb : O b ∨ w.heap.size ≤ b) : FrameBut O w w2 :=
  h.grown ht.grown (fun k e => by cases e; exact hb)
theorem FrameBut.toBelow {O : Nat → Prop} {w w1 : World} {B : Nat} (h : FrameBut O w w1) (hB : B ≤ w.heap.size) (hO : ∀ k, k < B → ¬ O k) : Below B w w1 :=
  ⟨h.os, h.tape, h.output, h.size, fun k hk => h.block k (Nat.lt_of_lt_of_le hk hB) (hO k hk)⟩
theorem FrameBut.cell {O : Nat → Prop} {w w1 : World} (h : FrameBut O w w1) {b i : Nat} {v : Value} (hc : w.cell? ⟨b, i, none⟩ = some v) (hn : ¬ O b) : w1.cell? ⟨b, i, none⟩ = some v :=
  (World.cell?_of_block (w := w) (a := ⟨b, i, none⟩) (h.block b (World.block_lt_of_cell? w _ hc) hn)).trans hc
structure CB (P : Program) (g : Nat) (lb : Array Value) {α : Type} (en : α → Value) (good : α → Prop) (max : Nat) (Inv : List α → (Nat → Prop) → World → Prop) : Prop where
  call : ∀ acc O W x, acc.length < max → good x → Inv acc O W → Calls P g (#[en x] ++ lb) W fun e w' => e = .returned (.tuple #[]) ∧ ∃ O', Inv (acc ++ [x]) O' w' ∧ FrameBut O W w' ∧ ∀ k, O' k → O k ∨ W.heap.size ≤ k
  move : ∀ acc O W W', Inv acc O W → W.heap.size ≤ W'.heap.size → W'.os = W.os → W'.tape = W.tape → W'.output = W.output → (∀ k, O k → W'.heap[k]? = W.heap[k]?) → Inv acc O W'
  lt : ∀ acc O W, Inv acc O W → ∀ k, O k → k < W.heap.size
theorem CB.frame {P : Program} {g : Nat} {lb : Array Value} {α : Type} {en : α → Value} {good : α → Prop} {max : Nat} {Inv : List α → (Nat → Prop) → World → Prop} (C : CB P g lb en good max Inv) {acc : List α} {O O1 : Nat → Prop} {W W' : World}
    (h : Inv acc O W) (hf : FrameBut O1 W W') (hd : ∀ k, O k → ¬ O1 k) : Inv acc O W' := C.move acc O W W' h hf.size hf.os hf.tape hf.output (fun k hk => hf.block k (C.lt acc O W h k hk) (hd k hk))
theorem CB.below {P : Program} {g : Nat} {lb : Array Value} {α : Type} {en : α → Value} {good : α → Prop} {max : Nat} {Inv : List α → (Nat → Prop) → World → Prop} (C : CB P g lb en good max Inv) {acc : List α} {O : Nat → Prop} {W W' : World}
    (h : Inv acc O W) (hb : Below W.heap.size W W') : Inv acc O W' := C.move acc O W W' h hb.size hb.os hb.tape hb.output (fun k hk => hb.block k (C.lt acc O W h k hk))

end Go.Proofs.YtidabcihlamidaaDoor.P
namespace Go.Proofs.YtidabcihlamidaaDoor.P
open Go.RowKit Go.Proofs.YtidabcihlamidaaDoorW.PrintWords Go.Proofs.YtidabcihlamidaaDoorW.PrintLast Go.Proofs.YtidabcihlamidaaDoorW.PrintMore
attribute [local go_sem] max2_int min2_int max_two min_two max_three min_three max_four min_four   -- for this text's walks alone
set_option linter.unusedVariables false
set_option linter.unusedSimpArgs false

section
open Go.Maps
def heldR (v : Value) : Option (DataW Value × List MemPlace) := some (.held v, [])
def MapIs {κ : Type} (w : World) (P : Program) (k b m : Nat) (en : κ → Value) (f : κ → Option Value) : Prop :=
  ∃ D : DataW Value, w.ownsMap P k heldR b m D ∧ Maps.size D = m ∧ ∀ c kl, keyOf P k (en c) = some kl → Maps.has D kl = (f c).isSome ∧ ∀ z, D.atKey kl (.held z) = .held ((f c).getD z)
section
variable {κ : Type} {w w1 : World} {P : Program} {k b m : Nat} {en : κ → Value} {f : κ → Option Value}
theorem MapIs.made (w : World) (P : Program) (k : Nat) (en : κ → Value) : MapIs (w.alloc (.map #[] 0)) P k w.heap.size 0 en (fun _ => none) :=
  ⟨.map [], World.ownsMap_made w P k heldR, rfl, fun c kl _ => ⟨rfl, fun z => rfl⟩⟩
theorem MapIs.lt (h : MapIs w P k b m en f) : b < w.heap.size := by
  obtain ⟨D, h, _⟩ := h
  exact h.lt
theorem MapIs.move (h : MapIs w P k b m en f) (hm : w1.heap[b]? = w.heap[b]?) : MapIs w1 P k b m en f := by
  obtain ⟨D, ⟨es, clock, hb, F, hs, hD⟩, h2⟩ := h
  exact ⟨D, ⟨es, clock, hm.trans hb, F, hs, hD⟩, h2⟩
theorem MapIs.below (h : MapIs w P k b m en f) (hb : Below w.heap.size w w1) : MapIs w1 P k b m en f := h.move (hb.block b h.lt)
theorem MapIs.alloc (h : MapIs w P k b m en f) (o : Obj) : MapIs (w.alloc o) P k b m en f := h.below ((Below.refl _ _).alloc (Nat.le_refl _) o)
theorem MapIs.congr (h : MapIs w P k b m en f) {g : κ → Option Value} (hg : ∀ c kl, keyOf P k (en c) = some kl → g c = f c) : MapIs w P k b m en g := by
  obtain ⟨D, h1, h2, h3⟩ := h
  exact ⟨D, h1, h2, fun c kl hk => by rw [hg c kl hk]; exact h3 c kl hk⟩
theorem MapIs.len (h : MapIs w P k b m en f) {t e : TypeId} (ht : P.underlying t = some (.map k e)) (ty : TypeId) : (Builtin.len_ #[t] ty #[.map (some b)]).run P w = .ok (.int .i64 m) w := by
  obtain ⟨D, h1, h2, _⟩ := h
  rw [h1.len ht ty, h2]
theorem MapIs.store [DecidableEq κ] (h : MapIs w P k b m en f) (K : Keyed P k) {t e : TypeId} (ht : P.underlying t = some (.map k e)) (hn : m < maxLen) (hinj : ∀ a c, en a = en c → a = c) {c : κ} {kl : Lit} (hkey : keyOf P k (en c) = some kl) (v : Value) :
    ∃ w', (Instr.mapUpdate t (.map (some b)) (en c) v).run P w = .ok () w' ∧ MapIs w' P k b (if (f c).isSome then m else m + 1) en (fun a => if a = c then some v else f a) ∧ w.mapTurned w' b := by
  obtain ⟨D, h1, h2, h3⟩ := h
  obtain ⟨w', hrun, ho, ht'⟩ := h1.store K ht hn hkey (d := .held v) (ps := []) rfl
  have hsz : Maps.size (D.put kl (.held v)) = if (f c).isSome then m else m + 1 := by
    rw [size_put (h1.tidy K), (h3 c kl hkey).1, h2]
  refine ⟨w', hrun, ⟨D.put kl (.held v), ?_, hsz, fun a la hla => ?_⟩, ht'⟩
  · obtain ⟨es, clock, hb, F, hs, hD⟩ := ho
    refine ⟨es, clock, hb, F, ?_, hD⟩
    have e1 : Maps.size (D.put kl (.held v)) = es.size := by rw [hD]; simp [Maps.size, length_sorted]
    rw [← hsz, e1]
    exact Nat.le_refl _
  · by_cases hac : a = c
    · subst hac
      have : la = kl := Option.some.inj (hla.symm.trans hkey)
      subst this
      simp only [if_true]
      exact ⟨has_put_same h1.isMap (K.key hkey) _, fun z => atKey_put_same h1.isMap (K.key hkey) _ _⟩
    · simp only [if_neg hac]
      have hne : la ≠ kl := fun e => hac (hinj _ _ (K.inj (e ▸ hla) hkey))
      exact ⟨(has_put_other hne _).trans (h3 a la hla).1, fun z => (atKey_put_other hne _ _).trans ((h3 a la hla).2 z)⟩
theorem MapIs.drop [DecidableEq κ] (h : MapIs w P k b m en f) (K : Keyed P k) {t e : TypeId} (ht : P.underlying t = some (.map k e)) (hinj : ∀ a c, en a = en c → a = c) {c : κ} {kl : Lit} (hkey : keyOf P k (en c) = some kl) (ty : TypeId) :
    ∃ w', (Builtin.delete_ #[t, k] ty #[.map (some b), en c]).run P w = .ok (.tuple #[]) w' ∧ MapIs w' P k b (if (f c).isSome then m - 1 else m) en (fun a => if a = c then none else f a) ∧ w.mapTurned w' b := by
  obtain ⟨D, h1, h2, h3⟩ := h
  obtain ⟨w', hrun, ho, ht'⟩ := h1.drop K ht hkey ty
  have hsz : Maps.size (D.del kl) = if (f c).isSome then m - 1 else m := by
    have := size_del (k := kl) (h1.tidy K)
    rw [(h3 c kl hkey).1, h2] at this
    split at this <;> rename_i hx <;> simp [hx] <;> omega
  refine ⟨w', hrun, ⟨D.del kl, ?_, hsz, fun a la hla => ?_⟩, ht'⟩
  · obtain ⟨es, clock, hb, F, hs, hD⟩ := ho
    refine ⟨es, clock, hb, F, ?_, hD⟩
    have e1 : Maps.size (D.del kl) = es.size := by rw [hD]; simp [Maps.size, length_sorted]
    rw [← hsz, e1]
    exact Nat.le_refl _
  · by_cases hac : a = c
    · subst hac
      have : la = kl := Option.some.inj (hla.symm.trans hkey)
      subst this
      simp only [if_true]
      exact ⟨has_del_same, fun z => atKey_del_same _⟩
    · simp only [if_neg hac]
      have hne : la ≠ kl := fun e => hac (hinj _ _ (K.inj (e ▸ hla) hkey))
      exact ⟨(has_del_other hne).trans (h3 a la hla).1, fun z => (atKey_del_other hne _).trans ((h3 a la hla).2 z)⟩
end
end

end Go.Proofs.YtidabcihlamidaaDoor.P
namespace Go.Proofs.YtidabcihlamidaaDoor.P
open Go.RowKit Go.Proofs.YtidabcihlamidaaDoorW.PrintWords Go.Proofs.YtidabcihlamidaaDoorW.PrintLast Go.Proofs.YtidabcihlamidaaDoorW.PrintMore
attribute [local go_sem] max2_int min2_int max_two min_two max_three min_three max_four min_four   -- for this text's walks alone
set_option linter.unusedVariables false
set_option linter.unusedSimpArgs false

section
open Go.Maps
theorem mapc_laid : laidOutB Tryd.prog = true := by kernel_rfl
theorem cornKeyed : Keyed Tryd.prog 39 := Keyed.of_law (deep_law_laid mapc_laid (m := 2) (by omega) (of_decide_eq_true (by kernel_rfl)) (by kernel_rfl) (by rw [Tryd.underlying39]))
def cornV (c : Int × Int) : Value := .agg #[.int .i64 c.1, .int .i64 c.2]
theorem cornV_inj (a c : Int × Int) (h : cornV a = cornV c) : a = c := by
  unfold cornV at h
  simp at h
  exact Prod.ext h.1 h.2
theorem cornKey (x y : Int) (hx : (Lit.int .i64 x).wf = true) (hy : (Lit.int .i64 y).wf = true) : keyOf Tryd.prog 39 (cornV (x, y)) = some (.string (keyBytes [.int .i64 x, .int .i64 y])) := by
  have h1 : Tryd.prog.keyType 39 = true := by kernel_rfl
  obtain ⟨m, hm⟩ : ∃ m, Tryd.prog.types.size = m + 1 := ⟨Tryd.prog.types.size.pred, by kernel_rfl⟩
  have h4 : Tryd.prog.cellsOf 39 = 2 := by kernel_rfl
  have h5 : Tryd.prog.cellsOf 3 = 1 := by kernel_rfl
  unfold cornV
  have hf : (Value.agg #[.int .i64 x, .int .i64 y]).formed Tryd.prog 39 = true := by
    simp [Value.formed, Tryd.underlying39, h4]
  have hl : Tryd.prog.keyLits (Tryd.prog.types.size + 1) 39 (Value.agg #[.int .i64 x, .int .i64 y]).cells.toList = some [.int .i64 x, .int .i64 y] := by
    rw [hm]
    simp [Program.keyLits, Tryd.underlying39, Tryd.underlying3, h4, h5, Value.cells, hx, hy]
  simp only [keyOf, Tryd.underlying39, h1, hf, hl]
  rfl
theorem i64_wf (x : Int) (h0 : -1000000 ≤ x) (h1 : x ≤ 1000000) : (Lit.int .i64 x).wf = true := WalkArith.wf_i64 (by omega)
end

end Go.Proofs.YtidabcihlamidaaDoor.P
namespace Go.Proofs.YtidabcihlamidaaDoor.P
open Go.RowKit Go.Proofs.YtidabcihlamidaaDoorW.PrintWords Go.Proofs.YtidabcihlamidaaDoorW.PrintLast Go.Proofs.YtidabcihlamidaaDoorW.PrintMore
attribute [local go_sem] max2_int min2_int max_two min_two max_three min_three max_four min_four   -- for this text's walks alone
set_option linter.unusedVariables false
set_option linter.unusedSimpArgs false

structure Ring (X Y : Nat → Int) (n : Nat) : Prop where
  n4 : 4 ≤ n
  clX : X n = X 0
  clY : Y n = Y 0
  st : ∀ i, i < n → (X (i + 1) = X i ∧ (Y (i + 1) = Y i + 1 ∨ Y (i + 1) = Y i - 1)) ∨ (Y (i + 1) = Y i ∧ (X (i + 1) = X i + 1 ∨ X (i + 1) = X i - 1))
  inj : ∀ i j, i < j → j < n → X i = X j → Y i = Y j → False
namespace Ring
variable {X Y : Nat → Int} {n : Nat}
end Ring

end Go.Proofs.YtidabcihlamidaaDoor.P
namespace Go.Proofs.YtidabcihlamidaaDoor.P
open Go.RowKit Go.Proofs.YtidabcihlamidaaDoorW.PrintWords Go.Proofs.YtidabcihlamidaaDoorW.PrintLast Go.Proofs.YtidabcihlamidaaDoorW.PrintMore
attribute [local go_sem] max2_int min2_int max_two min_two max_three min_three max_four min_four   -- for this text's walks alone
set_option linter.unusedVariables false
set_option linter.unusedSimpArgs false

def impl_within.f (a0 : Int) (a1 : Int) (a2 : Int) : Option (Bool) := if a1 ≤ a0 then (some (decide (a0 ≤ a2))) else (some false)
set_option maxHeartbeats 8000000 in
set_option maxRecDepth 100000 in
theorem impl_within.calls (a0 : Int) (a1 : Int) (a2 : Int) (r : Bool) (w : World) (h : impl_within.f a0 a1 a2 = some r) :
    Calls Tryd.prog 22 #[.int .i64 a0, .int .i64 a1, .int .i64 a2] w fun e w' => e = .returned (.bool r) ∧ Drawn0 w w' := by
  have H : (if a1 ≤ a0 then (some (decide (a0 ≤ a2))) else (some false)) = some r := h
  clear h
  by_cases c4 : a1 ≤ a0
  · rw [if_pos c4] at H
    have c4b0 : decide (a1 ≤ a0) = true := decide_eq_true c4
    clear c4
    obtain rfl := Option.some.inj H
    go_enter Tryd.func22, Tryd.ntmps22
    go_wp2
    go_ret
    exact ⟨by first | rfl | (simp; done) | (simp [*]; done), by repeat (first | exact Drawn0.refl _ | apply Drawn0.step)⟩
  · rw [if_neg c4] at H
    have c4b0 : decide (a1 ≤ a0) = false := decide_eq_false c4
    clear c4
    obtain rfl := Option.some.inj H
    go_enter Tryd.func22, Tryd.ntmps22
    go_wp2
    go_ret
    exact ⟨by first | rfl | (simp; done) | (simp [*]; done), by repeat (first | exact Drawn0.refl _ | apply Drawn0.step)⟩


def stepsB : ByteArray := ⟨#[110, 101, 115, 119]⟩
def digitsB : ByteArray := ⟨#[48, 49, 50, 51, 52, 53, 54, 55]⟩
def strings_Trim.f (a0 a1 : ByteArray) : Option ByteArray := if a0.size ≤ 9223372036854775807 ∧ (a1 = stepsB ∨ a1 = digitsB) then some ⟨(Lib.trimS a0.data.toList a1.data.toList).toArray⟩ else none
theorem strings_Trim.calls (a0 a1 : ByteArray) (r : ByteArray) (w : World) (h : strings_Trim.f a0 a1 = some r) :
    Calls Tryd.prog 30 #[.string a0, .string a1] w fun e w' => e = .returned (.string r) ∧ Below w.heap.size w w' := by
  unfold strings_Trim.f at h
  split at h
  · rename_i h0
    obtain rfl := Option.some.inj h
    obtain ⟨h1, rfl | rfl⟩ := h0
    · exact Any.strings_Trim_laid Tryd.lays160 (by kernel_rfl) a0 stepsB w h1 (by decide) (ascii_of_all (by decide))
    · exact Any.strings_Trim_laid Tryd.lays160 (by kernel_rfl) a0 digitsB w h1 (by decide) (ascii_of_all (by decide))
  · cases h

end Go.Proofs.YtidabcihlamidaaDoor.P
namespace Go.Proofs.YtidabcihlamidaaDoor.P
open Go.RowKit Go.Proofs.YtidabcihlamidaaDoorW.PrintWords Go.Proofs.YtidabcihlamidaaDoorW.PrintLast Go.Proofs.YtidabcihlamidaaDoorW.PrintMore
attribute [local go_sem] max2_int min2_int max_two min_two max_three min_three max_four min_four   -- for this text's walks alone
set_option linter.unusedVariables false
set_option linter.unusedSimpArgs false

def seenC (l : List S39) : List (Int × Int) := l.foldl (fun S c => if pairC c ∈ S then S else pairC c :: S) []
theorem seenC_snoc (l : List S39) (c : S39) : seenC (l ++ [c]) = if pairC c ∈ seenC l then seenC l else pairC c :: seenC l := by
 unfold seenC; rw [List.foldl_append]; rfl
theorem seenC_len (l : List S39) : (seenC l).length ≤ l.length := by
 have h : ∀ (l : List S39) (S : List (Int × Int)), (l.foldl (fun S c => if pairC c ∈ S then S else pairC c :: S) S).length ≤ S.length + l.length := by
  intro l
  induction l with
  | nil => intro S; exact Nat.le_refl _
  | cons a t ih =>
   intro S
   rw [List.foldl_cons]
   have := ih (if pairC a ∈ S then S else pairC a :: S)
   have h2 : (if pairC a ∈ S then S else pairC a :: S).length ≤ S.length + 1 := by split <;> simp
   rw [List.length_cons]
   omega
 have := h l []
 simpa [seenC] using this
def closedW (l : List UInt8) : Bool := (((cornersL l).getD l.length ⟨0, 0⟩).f0 == 0 && ((cornersL l).getD l.length ⟨0, 0⟩).f1 == 0) && decide ((seenC ((cornersL l).take l.length)).length = l.length)
def stepsOnly (s : ByteArray) : Bool := (Lib.trimS s.data.toList stepsB.data.toList).isEmpty
def isLoopB (s : ByteArray) : Bool := (decide (4 ≤ s.size) && decide (s.size ≤ 40)) && (stepsOnly s && closedW s.data.toList)
attribute [local go_sem high] eqA39
attribute [local go_sem] undef in
set_option maxRecDepth 100000 in
set_option maxHeartbeats 8000000 in
theorem isLoop_in (s : ByteArray) (hs4 : 4 ≤ s.size) (hs40 : s.size ≤ 40) (hst : stepsOnly s = true) (w : World) :
  Calls Tryd.prog 14 #[.string s] w fun e w' => e = .returned (.bool (closedW s.data.toList)) ∧ Below w.heap.size w w' := by
 have hmm := @run_makeMap Tryd.prog
 have HW := Aside0.mk (show impl_within.f (s.size : Int) 4 40 = some true from by unfold impl_within.f; rw [if_pos (by omega), decide_eq_true (by omega)])
 have HT := Aside0.mk (show strings_Trim.f s stepsB = some ⟨#[]⟩ from by
  unfold strings_Trim.f
  rw [if_pos ⟨by omega, .inl rfl⟩]
  unfold stepsOnly at hst
  rw [List.isEmpty_iff] at hst
  rw [hst])
 have HK := Aside0.mk (show impl_walk.f s = some (cornersL s.data.toList) from by unfold impl_walk.f; rw [if_pos (by omega)])
 have hlen : (cornersL s.data.toList).length = s.size + 1 := by rw [cornersL_len]; simp
 have hn : s.data.toList.length = s.size := by simp
 have HN := Aside0.mk hn
 unfold closedW
 rw [hn]
 have HBd := Aside0.mk (cornersL_bound s.data.toList (by rw [hn]; omega))
 have H00 : Aside0 ((cornersL s.data.toList).getD 0 ⟨0, 0⟩ = ⟨0, 0⟩) := ⟨rfl⟩
 generalize cornersL s.data.toList = cs at hlen HK HBd H00 ⊢
 have e1 : wrap64 (((s.size + 1 : Nat) : Int) - 1) = (s.size : Int) := by unfold wrap64; omega
 clear hn hst
 go_enter Tryd.func14, Tryd.ntmps14
 go_wp2_with (first
  | (go_at_call 22; refine (impl_within.calls _ _ _ _ _ HW.out).mono ?_; rintro e w1 ⟨rfl, ⟨nd, rfl⟩⟩)
  | (go_at_call 30; refine (strings_Trim.calls s stepsB _ _ HT.out).mono ?_; rintro e w2 ⟨rfl, hb2⟩)
  | (go_at_call 23; refine (impl_walk.calls s _ _ HK.out).mono ?_; rintro e w3 ⟨v, rfl, ho, hb3⟩; obtain ⟨A, c, rfl⟩ := Kd.R_slice ho; have hcap := (Kd.R_reads' ho).2.1; have HO := Aside0.mk ho; clear ho; rw [hlen] at HO hcap ⊢; have hcap2 : (s.size : Int) ≤ (c : Int) := by omega))
 have HB0 : Aside0 (Below w.heap.size w (w3.alloc (.map #[] 0))) := ⟨below_alloc (below_step (below_step (pw_below_drewN (Below.refl _ _) _) hb2) hb3) _⟩
 have HL0 : Aside0 (Kd.R k39 39 (w3.alloc (.map #[] 0)) w.heap.size (fun k => k ≠ w3.heap.size) (.slice A (s.size + 1) c) cs) := ⟨Kd.R_alloc (Kd.R_lower (Kd.R_mono (Kd.R_bound HO.out) (fun k hk => by have := hk.2.2.1; omega)) (by have := (below_step (pw_below_drewN (Below.refl w.heap.size w) nd) hb2).size; omega)) _⟩
 have HM0 : Aside0 (MapIs (w3.alloc (.map #[] 0)) Tryd.prog 39 w3.heap.size 0 cornV (inP [])) := ⟨(MapIs.made w3 Tryd.prog 39 cornV).congr (fun c kl _ => by unfold inP; simp)⟩
 have HW3 : Aside0 (w.heap.size ≤ w3.heap.size) := ⟨by have := (below_step (below_step (pw_below_drewN (Below.refl w.heap.size w) nd) hb2) hb3).size; exact this⟩
 clear HO hb2 hb3 HW HT HK hmm hcap hcap2
 generalize w3.heap.size = bm at HL0 HM0 HW3 ⊢
 generalize w3.alloc (.map #[] 0) = W0 at HB0 HL0 HM0 ⊢
 go_loopg [7, 27] s.size (fun gg _ u27 wr => ∃ i : Nat, i ≤ s.size ∧ s.size - i ≤ gg ∧ u27 = .int .i64 i ∧ Aside0 (MapIs wr Tryd.prog 39 bm (seenC (cs.take i)).length cornV (inP (seenC (cs.take i)))) ∧ Aside0 (Kd.R k39 39 wr w.heap.size (fun k => k ≠ bm) (.slice A (s.size + 1) c) cs) ∧ Aside0 (Below w.heap.size w wr))
 case atStart => exact ⟨0, Nat.zero_le _, by omega, rfl, HM0, HL0, HB0⟩
 case round =>
  clear HM0 HL0 HB0
  obtain ⟨i, hi, hgg, rfl, HM, HL, HB⟩ := hrel
  have hat : ∀ j : Nat, j ≤ s.size → ∃ ad, A = some ad ∧ wr.cell? (ad.add (j * 2)) = some (.int .i64 (cs.getD j ⟨0, 0⟩).f0) ∧ wr.cell? ⟨(ad.add (j * 2)).block, (ad.add (j * 2)).off + 1, none⟩ = some (.int .i64 (cs.getD j ⟨0, 0⟩).f1) := fun j hj => by
   obtain ⟨ad, h1, h2, h3⟩ := at_T39 (Kd.R_reads' HL.out).2.2 (j : Int) (by omega) (by rw [hlen]; omega)
   have hrc : rd_T39 cs (j : Int) = cs.getD j ⟨0, 0⟩ := by unfold rd_T39; rw [Int.toNat_natCast]; rfl
   rw [hrc, Int.toNat_natCast] at h2 h3
   exact ⟨ad, h1, h2, h3⟩
  by_cases hlt : i < s.size
  ·have hltz : (i : Int) < (s.size : Int) := by omega
   have hil : i < cs.length := by omega
   obtain ⟨ad, rfl, hy1, hy2⟩ := hat i hi
   have hce : cs.getD i ⟨0, 0⟩ = cs[i] := by rw [List.getD_eq_getElem?_getD, List.getElem?_eq_getElem hil]; rfl
   have hbd := HBd.out cs[i] (List.getElem_mem hil)
   have htk : cs.take (i + 1) = cs.take i ++ [cs[i]] := List.take_succ_eq_append_getElem hil
   have hsn := seenC_snoc (cs.take i) cs[i]
   rw [← htk] at hsn
   rw [hce] at hy1 hy2
   have hlen2 := seenC_len (cs.take i)
   rw [List.length_take] at hlen2
   clear hat hce htk
   generalize cs[i] = ce at hy1 hy2 hbd hsn
   obtain ⟨x, y⟩ := ce
   obtain ⟨wt, hst, hM2, ht⟩ := (HM.out.alloc (.cells #[.int .i64 x, .int .i64 y] 39)).store cornKeyed Tryd.underlying50 (by unfold maxLen; omega) cornV_inj (cornKey x y (i64_wf x (by simp at hbd; omega) (by simp at hbd; omega)) (i64_wf y (by simp at hbd; omega) (by simp at hbd; omega))) (.bool true)
   have hst2 : (Instr.mapUpdate 50 (.map (some bm)) (.agg #[.int .i64 x, .int .i64 y]) (.bool true)).run Tryd.prog (wr.alloc (.cells #[.int .i64 x, .int .i64 y] 39)) = .ok () wt := hst
   have HM2 : Aside0 (MapIs wt Tryd.prog 39 bm (seenC (cs.take (i + 1))).length cornV (inP (seenC (cs.take (i + 1))))) := ⟨by
    rw [hsn]
    by_cases hin : (x, y) ∈ seenC (cs.take i)
    ·rw [if_pos (show pairC ⟨x, y⟩ ∈ _ from hin)]
     have e : (inP (seenC (cs.take i)) (x, y)).isSome = true := by unfold inP; rw [if_pos hin]; rfl
     rw [e, if_pos rfl] at hM2
     exact hM2.congr (fun a kl _ => by unfold inP; by_cases ha : a = (x, y) <;> simp [ha, hin])
    ·rw [if_neg (show ¬ pairC ⟨x, y⟩ ∈ _ from hin)]
     have e : (inP (seenC (cs.take i)) (x, y)).isSome = false := by unfold inP; rw [if_neg hin]; rfl
     rw [e, if_neg (by simp)] at hM2
     exact hM2.congr (fun a kl _ => by unfold inP pairC; by_cases ha : a = (x, y) <;> by_cases hb : a ∈ seenC (cs.take i) <;> simp [ha, hb])⟩
   have HL2 : Aside0 (Kd.R k39 39 wt w.heap.size (fun k => k ≠ bm) (.slice (some ad) (s.size + 1) c) cs) := ⟨Kd.R_grown (Kd.R_alloc HL.out _) ht.grown (fun k hk e => hk (by cases e; rfl))⟩
   have HB2 : Aside0 (Below w.heap.size w wt) := ⟨((FrameBut.of_below (O := fun k => k = bm) (below_alloc HB.out (.cells #[.int .i64 x, .int .i64 y] 39))).turned ht (.inl rfl)).toBelow (Nat.le_refl _) (fun k hk e => by have := HW3.out; omega)⟩
   clear hst hM2 ht HM HL HB hbd hsn hlen2
   go_wp2_with fail
   go_roundg (s.size - (i + 1))
   case measure => omega
   case rel => exact ⟨i + 1, by omega, by omega, by go_num, HM2, HL2, HB2⟩
  ·have hltz : ¬ (i : Int) < (s.size : Int) := by omega
   have hie : i = s.size := by omega
   obtain ⟨ad, rfl, hy1, hy2⟩ := hat s.size (Nat.le_refl _)
   obtain ⟨ad', he', hz1, hz2⟩ := hat 0 (Nat.zero_le _)
   cases he'
   have hadd0 : ad.add (0 * 2) = ad := by cases ad; rfl
   rw [H00.out, hadd0] at hz1 hz2
   have HMd := HM.out.below (below_drew (Below.refl wr.heap.size wr))
   have hlm := fun ty => HMd.len Tryd.underlying50 ty
   have hlm0 := fun ty => HM.out.len Tryd.underlying50 ty
   rw [hie]
   generalize hcz : cs.getD s.size ⟨0, 0⟩ = cz at hy1 hy2
   have HCZ := Aside0.mk hcz
   clear hcz
   obtain ⟨x, y⟩ := cz
   have hix : (s.size : Int) < (s.size : Int) + 1 := by omega
   have hy1d : wr.drew.cell? (ad.add (s.size * 2)) = some (.int .i64 x) := hy1
   have hy2d : wr.drew.cell? ⟨(ad.add (s.size * 2)).block, (ad.add (s.size * 2)).off + 1, none⟩ = some (.int .i64 y) := hy2
   have hz1d : wr.drew.cell? ad = some (.int .i64 0) := hz1
   have hz2d : wr.drew.cell? ⟨ad.block, ad.off + 1, none⟩ = some (.int .i64 0) := hz2
   clear hat HM HMd
   cases hx : (x == 0 && y == 0) with
   | true =>
    go_wp2_with fail
    first | go_region_law (fail) | fail
    all_goals
     go_wp2_with fail
     go_ret
     refine ⟨congrArg (fun b => Ending.returned (.bool b)) ?_, below_drew HB.out⟩
     have hx2 : ((⟨x, y⟩ : S39).f0 == 0 && (⟨x, y⟩ : S39).f1 == 0) = true := hx
     rw [HCZ.out, hx2, Bool.true_and, Bool.eq_iff_iff, beq_iff_eq, decide_eq_true_iff]
     exact ⟨fun h => by omega, fun h => by omega⟩
   | false =>
    go_wp2_with fail
    first | go_region_law (fail) | fail
    all_goals
     go_wp2_with fail
     go_ret
     refine ⟨congrArg (fun b => Ending.returned (.bool b)) ?_, below_drew HB.out⟩
     have hx2 : ((⟨x, y⟩ : S39).f0 == 0 && (⟨x, y⟩ : S39).f1 == 0) = false := hx
     rw [HCZ.out, hx2, Bool.false_and]
set_option maxRecDepth 100000 in
theorem isLoop_out (s : ByteArray) (hs : ¬ (4 ≤ s.size ∧ s.size ≤ 40)) (w : World) : Calls Tryd.prog 14 #[.string s] w fun e w' => e = .returned (.bool false) ∧ Below w.heap.size w w' := by
 have HW := Aside0.mk (show impl_within.f (s.size : Int) 4 40 = some false from by
  unfold impl_within.f
  by_cases h : (4 : Int) ≤ (s.size : Int)
  ·rw [if_pos h, decide_eq_false (by omega)]
  ·rw [if_neg h])
 clear hs
 go_enter Tryd.func14, Tryd.ntmps14
 go_wp2_with (first
  | (go_at_call 22; refine (impl_within.calls _ _ _ _ _ HW.out).mono ?_; rintro e w1 ⟨rfl, ⟨nd, rfl⟩⟩))
 go_ret
 exact ⟨rfl, pw_below_drewN (Below.refl _ _) _⟩
set_option maxRecDepth 100000 in
theorem isLoop_not (s : ByteArray) (hs4 : 4 ≤ s.size) (hs40 : s.size ≤ 40) (hst : stepsOnly s = false) (w : World) : Calls Tryd.prog 14 #[.string s] w fun e w' => e = .returned (.bool false) ∧ Below w.heap.size w w' := by
 have HW := Aside0.mk (show impl_within.f (s.size : Int) 4 40 = some true from by unfold impl_within.f; rw [if_pos (by omega), decide_eq_true (by omega)])
 have HT := Aside0.mk (show strings_Trim.f s stepsB = some ⟨(Lib.trimS s.data.toList stepsB.data.toList).toArray⟩ from by unfold strings_Trim.f; rw [if_pos ⟨by omega, .inl rfl⟩])
 unfold stepsOnly at hst
 generalize Lib.trimS s.data.toList stepsB.data.toList = t at HT hst
 cases t with
 | nil => cases hst
 | cons a t =>
  clear hst
  have hemp : (⟨(a :: t).toArray⟩ : ByteArray).toList.isEmpty = false := by rw [Lib.toList_data]; simp
  generalize (⟨(a :: t).toArray⟩ : ByteArray) = r at HT hemp
  go_enter Tryd.func14, Tryd.ntmps14
  go_wp2_with (first
   | (go_at_call 22; refine (impl_within.calls _ _ _ _ _ HW.out).mono ?_; rintro e w1 ⟨rfl, ⟨nd, rfl⟩⟩)
   | (go_at_call 30; refine (strings_Trim.calls s stepsB _ _ HT.out).mono ?_; rintro e w2 ⟨rfl, hb2⟩))
  go_ret
  exact ⟨by first | rfl | simp, below_step (pw_below_drewN (Below.refl _ _) _) hb2⟩
def impl_IsLoop.f (a0 : ByteArray) : Option Bool := some (isLoopB a0)
theorem impl_IsLoop.calls (a0 : ByteArray) (r : Bool) (w : World) (h : impl_IsLoop.f a0 = some r) :
  Calls Tryd.prog 14 #[.string a0] w fun e w' => e = .returned (.bool r) ∧ Below w.heap.size w w' := by
 obtain rfl := Option.some.inj h
 unfold isLoopB
 by_cases h1 : 4 ≤ a0.size ∧ a0.size ≤ 40
 ·rw [decide_eq_true h1.1, decide_eq_true h1.2]
  cases h2 : stepsOnly a0 with
  | true => exact isLoop_in a0 h1.1 h1.2 h2 w
  | false => exact isLoop_not a0 h1.1 h1.2 h2 w
 ·have e : (decide (4 ≤ a0.size) && decide (a0.size ≤ 40)) = false := by
   rw [Bool.eq_false_iff]; intro h; rw [Bool.and_eq_true, decide_eq_true_iff, decide_eq_true_iff] at h; exact h1 h
  rw [e]
  exact isLoop_out a0 h1 w

end Go.Proofs.YtidabcihlamidaaDoor.P
namespace Go.Proofs.YtidabcihlamidaaDoor.P
open Go.RowKit Go.Proofs.YtidabcihlamidaaDoorW.PrintWords Go.Proofs.YtidabcihlamidaaDoorW.PrintLast Go.Proofs.YtidabcihlamidaaDoorW.PrintMore
attribute [local go_sem] max2_int min2_int max_two min_two max_three min_three max_four min_four   -- for this text's walks alone
set_option linter.unusedVariables false
set_option linter.unusedSimpArgs false

def BR (t : Nat) (w : World) (g : Nat) (l : List UInt8) : Prop := ∃ (C : Array Value) (fr : Nat × Nat), w.heap[g]? = some (.cells C t fr) ∧ l.length ≤ fr.1 ∧ ∀ (j : Nat) (h : j < l.length), C[j]? = some (.int .u8 (l[j].toNat : Int))
theorem BR_cell {t : Nat} {w : World} {g : Nat} {l : List UInt8} (h : BR t w g l) (j : Nat) (hj : j < l.length) : w.cell? ⟨g, j, none⟩ = some (.int .u8 (l[j].toNat : Int)) := by
  obtain ⟨C, fr, h1, h2, h3⟩ := h
  exact (cell_of_row w g j C t fr h1).trans (h3 j hj)
theorem BR_frozen {t : Nat} {w : World} {g : Nat} {l : List UInt8} (h : BR t w g l) (j : Nat) (hj : j < l.length) : w.frozen? ⟨g, j, none⟩ = false := by
  obtain ⟨C, fr, h1, h2, h3⟩ := h
  simp only [World.frozen?, h1]
  rw [Bool.and_eq_false_iff]
  left
  exact decide_eq_false (by omega)
theorem BR_set {t : Nat} {w : World} {g : Nat} {l : List UInt8} (h : BR t w g l) (j : Nat) (hj : j < l.length) (b : UInt8) : BR t (w.setCell ⟨g, j, none⟩ (.int .u8 (b.toNat : Int))) g (l.set j b) := by
  obtain ⟨C, fr, h1, h2, h3⟩ := h
  refine ⟨C.setIfInBounds j (.int .u8 (b.toNat : Int)), fr, ?_, by rw [List.length_set]; exact h2, fun i hi => ?_⟩
  · simp only [World.setCell, Array.getElem?_modify, if_pos, h1]
    rfl
  · rw [List.length_set] at hi
    rw [List.getElem_set]
    have hjs : j < C.size := (Array.getElem?_eq_some_iff.1 (h3 j hj)).1
    by_cases e : j = i
    · subst e
      rw [if_pos rfl, Array.getElem?_setIfInBounds_self_of_lt hjs]
    · rw [if_neg e, Array.getElem?_setIfInBounds_ne e]
      exact h3 i hi
theorem BR_of {t : Nat} {w : World} {g : Nat} {s : ByteArray} {cc : Nat} {n : Nat} (h : w.heap[g]? = some (.cells (bytesRow s cc) t (n, n + 1))) (hn : s.size ≤ n) : BR t w g s.data.toList :=
  ⟨bytesRow s cc, (n, n + 1), h, by simpa using hn, fun j hj => by
    have hj2 : j < s.data.size := by simpa using hj
    rw [bytesRow_at s cc j hj2]
    rfl⟩
theorem bytesRow_size (s : ByteArray) (cc : Nat) : s.size ≤ (bytesRow s cc).size := by
  unfold bytesRow
  rw [Array.size_append, Array.size_map]
  exact Nat.le_add_right _ _
theorem BR_string {P : Program} {t : Nat} {w : World} {g : Nat} {l : List UInt8} (h : BR t w g l) (src dst e : TypeId) (c : Nat) (hs : P.underlying src = some (.slice e)) (he : P.underlying e = some (.int .u8)) (hd : P.underlying dst = some .string) :
    (convert src dst (.slice (some ⟨g, 0, none⟩) l.length c)).run P w = .ok (.string ⟨l.toArray⟩) w :=
  run_convert_bytes_back w src dst e ⟨g, 0, none⟩ c l hs he hd (fun j hj => by rw [add_plain, BR_cell h j hj])

end Go.Proofs.YtidabcihlamidaaDoor.P
namespace Go.Proofs.YtidabcihlamidaaDoor.P
open Go.RowKit Go.Proofs.YtidabcihlamidaaDoorW.PrintWords Go.Proofs.YtidabcihlamidaaDoorW.PrintLast Go.Proofs.YtidabcihlamidaaDoorW.PrintMore
attribute [local go_sem] max2_int min2_int max_two min_two max_three min_three max_four min_four   -- for this text's walks alone
set_option linter.unusedVariables false
set_option linter.unusedSimpArgs false

abbrev Tt : Bool := true
abbrev Ff : Bool := false
section
variable {P : Program} {ops : Array Oper} {Q : Exit → Act → World → Prop} {S : World → Prop} {ds : List Nat} {md : Region.Mode} {i : Nat} {N : Option Tmp} {oi : Oper} {v : Value} {fuel : Nat} {l : Array Bool} {a a' : Act} {w : World}
theorem pZ (l' : Array Bool) (h : wpAnyLast P md ops Q S ds fuel l' a' w) (hi : ops[i]? = some oi := by rfl) (hN : oi.dst = N := by rfl) (hc : anyB md ops l l' i = true := by exact any_of HT_.out (by kernel_rfl))
    (hQ : ∀ c a w, Q (.panic c) (a.put oi.dst v) w → Q (.panic c) a w := by exact fun _ _ _ h => h) (hw : Region.wanted oi (yielded ops a.tmps) = true := by rfl) (hy : ∀ w', (execOp a.eval oi).run P w' = .ok (.value v) w' := by (intro w'; go_simp; with_reducible rfl))
    (ha : a.put N v = a' := by (simp only [Act.put, List.setIfInBounds_toArray, List.set_cons_zero, List.set_cons_succ, i64_w, i32_w]; rfl)) : wpAnyLast P md ops Q S ds (fuel + 1) l a w :=
  pure_ l' hi hN hc hQ (Or.inl ⟨hw, hy⟩) ha h
theorem tZ (l' : Array Bool) (h : wpAnyLast P md ops Q S ds fuel l' a' w) (hi : ops[i]? = some oi := by rfl) (hN : oi.dst = N := by rfl) (hc : takeB md ops ds l l' i = true := by exact take_ofW HT_.out HW_.out (by kernel_rfl))
    (hQ : ∀ c a w, Q (.panic c) (a.put oi.dst v) w → Q (.panic c) a w := by exact fun _ _ _ h => h) (hw : Region.wanted oi (yielded ops a.tmps) = true := by rfl) (hS : S w := by exact hHeld) (hy : ∀ w', S w' → (execOp a.eval oi).run P w' = .ok (.value v) w' := by (intro w' hS_; go_split_ands; go_simp; with_reducible rfl))
    (ha : a.put N v = a' := by (simp only [Act.put, List.setIfInBounds_toArray, List.set_cons_zero, List.set_cons_succ, i64_w, i32_w]; rfl)) : wpAnyLast P md ops Q S ds (fuel + 1) l a w :=
  take_ l' hi hN hc hQ (Or.inl ⟨hw, hy⟩) hS ha h
end

end Go.Proofs.YtidabcihlamidaaDoor.P
namespace Go.Proofs.YtidabcihlamidaaDoor.P
open Go.RowKit Go.Proofs.YtidabcihlamidaaDoorW.PrintWords Go.Proofs.YtidabcihlamidaaDoorW.PrintLast Go.Proofs.YtidabcihlamidaaDoorW.PrintMore
attribute [local go_sem] max2_int min2_int max_two min_two max_three min_three max_four min_four   -- for this text's walks alone
set_option linter.unusedVariables false
set_option linter.unusedSimpArgs false

def impl_opposite.f (a0 : Int) : Option (Int) := (strings_IndexByte.f (⟨#[110, 101, 115, 119]⟩ : ByteArray) a0).bind fun t136 => (if 0 ≤ (Int.tmod (wrap64 (t136 + 2)) 4) then (if (Int.tmod (wrap64 (t136 + 2)) 4) < 4 then (some (bt (⟨#[110, 101, 115, 119]⟩ : ByteArray) (Int.tmod (wrap64 (t136 + 2)) 4))) else (none)) else (none))
set_option maxHeartbeats 8000000 in
set_option maxRecDepth 100000 in
theorem impl_opposite.calls (a0 : Int) (r : Int) (w : World) (h : impl_opposite.f a0 = some r) :
    Calls Tryd.prog 25 #[.int .u8 a0] w fun e w' => e = .returned (.int .u8 r) ∧ Drawn0 w w' := by
  have H : ((strings_IndexByte.f (⟨#[110, 101, 115, 119]⟩ : ByteArray) a0).bind fun t136 => (if 0 ≤ (Int.tmod (wrap64 (t136 + 2)) 4) then (if (Int.tmod (wrap64 (t136 + 2)) 4) < 4 then (some (bt (⟨#[110, 101, 115, 119]⟩ : ByteArray) (Int.tmod (wrap64 (t136 + 2)) 4))) else (none)) else (none))) = some r := h
  clear h
  replace H := Option.bind_eq_some_iff.mp H
  obtain ⟨t136, A20, H⟩ := H
  replace H : (if 0 ≤ (Int.tmod (wrap64 (t136 + 2)) 4) then (if (Int.tmod (wrap64 (t136 + 2)) 4) < 4 then (some (bt (⟨#[110, 101, 115, 119]⟩ : ByteArray) (Int.tmod (wrap64 (t136 + 2)) 4))) else (none)) else (none)) = some r := H
  have A2 := Aside0.mk A20
  clear A20
  obtain ⟨ji3, hji3⟩ : ∃ j_ : Int, (Int.tmod (wrap64 (t136 + 2)) 4) = j_ := ⟨_, rfl⟩
  replace H : (if 0 ≤ (ji3) then (if (ji3) < 4 then (some (bt (⟨#[110, 101, 115, 119]⟩ : ByteArray) (ji3))) else (none)) else (none)) = some r := by first | (rw [hji3] at H; exact H) | (simp only [hji3] at H ⊢; exact H)
  (try rw [hji3] at A2)
  by_cases c4 : 0 ≤ (ji3)
  · rw [if_pos c4] at H
    have c4b0 : decide (0 ≤ (ji3)) = true := decide_eq_true c4
    clear c4
    by_cases c5 : (ji3) < 4
    · rw [if_pos c5] at H
      have c5b0 : decide ((ji3) < 4) = true := decide_eq_true c5
      clear c5
      obtain rfl := Option.some.inj H
      go_enter Tryd.func25, Tryd.ntmps25
      go_wp2_with (first | ((with_reducible refine gate_callee (f := 17) rfl ?_); refine goesL_ (some 4) rfl rfl Tryd.func17 (by kernel_rfl) rfl #[.string (⟨#[110, 101, 115, 119]⟩ : ByteArray), .int .u8 a0] rfl ob_ ?_; (with_reducible refine (strings_IndexByte.calls (⟨#[110, 101, 115, 119]⟩ : ByteArray) a0 t136 _ A2.out).mono ?_); rintro e w' ⟨rfl, ⟨nd, rfl⟩⟩; refine ⟨_, rfl, ?_⟩; have p6 : 0 ≤ ((ji3) : Int) := of_decide_eq_true as_; have q6 : (ji3) < (4 : Int) := of_decide_eq_true as_; have hx6 := bt_at (⟨#[110, 101, 115, 119]⟩ : ByteArray) (ji3); replace p6 := eq_true p6; replace q6 := eq_true q6))
      go_ret
      exact ⟨by first | rfl | (simp; done) | (simp only [← hji3] <;> (first | rfl | simp)) | (simp [*]; done), by repeat (first | exact Drawn0.refl _ | apply Drawn0.step)⟩
    · rw [if_neg c5] at H
      exact absurd H (by simp)
  · rw [if_neg c4] at H
    exact absurd H (by simp)

end Go.Proofs.YtidabcihlamidaaDoor.P
namespace Go.Proofs.YtidabcihlamidaaDoor.P
open Go.RowKit Go.Proofs.YtidabcihlamidaaDoorW.PrintWords Go.Proofs.YtidabcihlamidaaDoorW.PrintLast Go.Proofs.YtidabcihlamidaaDoorW.PrintMore
attribute [local go_sem] max2_int min2_int max_two min_two max_three min_three max_four min_four   -- for this text's walks alone
set_option linter.unusedVariables false
set_option linter.unusedSimpArgs false

attribute [local go_sem high] eqA39
def impl_Corner_31.l0 : Nat → List (S39) → Int → Int → Int → Int → Option (Int)
 | 0, _, _, _, _, _ => none
 | k + 1, x0, x7, x8, x138000, x138001 => if x8 < x7 then (if 0 ≤ x8 then (if x8 < (x0.length : Int) then (if (x138000 == ((rd_T39 x0 x8).f0) && (x138001 == ((rd_T39 x0 x8).f1))) = true then (some x8) else (impl_Corner_31.l0 k x0 x7 (wrap64 (x8 + 1)) x138000 x138001)) else (none)) else (none)) else (some (-1))
def impl_Corner_31.f (k : Nat) (l0 : List (S39)) (a1_0 : Int) (a1_1 : Int) : Option (Int) := impl_Corner_31.l0 k l0 (l0.length : Int) 0 a1_0 a1_1
theorem impl_Corner_31.mono_l : ∀ k, (∀ y0 y1 y2 y3 y4, LeO (impl_Corner_31.l0 k y0 y1 y2 y3 y4) (impl_Corner_31.l0 (k + 1) y0 y1 y2 y3 y4))
 | 0 => fun _ _ _ _ _ r h => by simp [impl_Corner_31.l0] at h
 | k + 1 => by
  have ih0 := impl_Corner_31.mono_l k
  ·intro y0 y1 y2 y3 y4
   unfold impl_Corner_31.l0
   repeat' first
   | (with_reducible exact ih0 _ _ _ _ _)
   | (with_reducible exact LeO.refl _)
   | (with_reducible exact LeO.none _)
   | (with_reducible refine LeO.ite ?_ ?_)
   | (with_reducible refine LeO.bind ?_ (fun _ => ?_))
   | exact ih0 _ _ _ _ _
   | exact LeO.none _
   | refine LeO.ite ?_ ?_
   | refine LeO.bind ?_ (fun _ => ?_)
theorem impl_Corner_31.mono : ∀ a0 a1 a2 k, LeO (impl_Corner_31.f k a0 a1 a2) (impl_Corner_31.f (k + 1) a0 a1 a2) := by
 intro a0 a1 a2 k
 have ih0 := impl_Corner_31.mono_l k
 unfold impl_Corner_31.f
 repeat' first
   | (with_reducible exact ih0 _ _ _ _ _)
   | (with_reducible exact LeO.refl _)
   | (with_reducible exact LeO.none _)
   | (with_reducible refine LeO.ite ?_ ?_)
   | (with_reducible refine LeO.bind ?_ (fun _ => ?_))
   | exact ih0 _ _ _ _ _
   | exact LeO.none _
   | refine LeO.ite ?_ ?_
   | refine LeO.bind ?_ (fun _ => ?_)
set_option maxHeartbeats 8000000 in
set_option maxRecDepth 100000 in
theorem impl_Corner_31.calls (k : Nat) (A0 : Option Addr) (c0 : Nat) (l0 : List (S39)) (a1_0 : Int) (a1_1 : Int) (r : Int) (w : World) (hr0 : Kd.C k39 w A0 l0.length l0) (hc0 : l0.length ≤ c0) (h : impl_Corner_31.f k l0 a1_0 a1_1 = some r) :
  Calls Tryd.prog 31 #[.slice A0 l0.length c0, .agg #[.int .i64 a1_0, .int .i64 a1_1]] w fun e w' => e = .returned (.int .i64 r) ∧ Below w.heap.size w w' := by
 have hu39 := Tryd.underlying39
 have HR0 := Aside0.mk hr0
 have HC0 := Aside0.mk hc0
 clear hr0 hc0
 have HB := Aside0.mk (Below.refl w.heap.size w)
 have H : (impl_Corner_31.l0 k l0 (l0.length : Int) 0 a1_0 a1_1) = some r := h
 clear h
 have H' := Aside0.mk H
 clear H
 go_enter Tryd.func31, Tryd.ntmps31
 go_wp2_with (first | ((with_reducible refine gate_dst (N := 3) rfl ?_); refine boxE_ (N := 3) (cs := #[.int .i64 a1_0, .int .i64 a1_1]) (t := 39) ?_; intro gb137 hg w3 hbox hb; have n0_ := Aside0.mk (below_step (bl0_ HB.out) hb); have n1_ := Aside0.mk (hbox); have n2_ := Aside0.mk ((bs0_ hg HB.out : w.heap.size ≤ gb137)); have n3_ := Aside0.mk ((bs0_ hg HB.out : w.heap.size ≤ gb137)); clear HB; have HB := n0_; have BK137 := n1_; have GW137 := n2_; have GE137 := n3_; clear n0_ n1_ n2_ n3_; clear hb hbox hg))
 repeat (go_quiet (first | ((with_reducible refine gate_dst (N := 3) rfl ?_); refine boxE_ (N := 3) (cs := #[.int .i64 a1_0, .int .i64 a1_1]) (t := 39) ?_; intro gb137 hg w3 hbox hb; have n0_ := Aside0.mk (below_step (bl0_ HB.out) hb); have n1_ := Aside0.mk (hbox); have n2_ := Aside0.mk ((bs0_ hg HB.out : w.heap.size ≤ gb137)); have n3_ := Aside0.mk ((bs0_ hg HB.out : w.heap.size ≤ gb137)); clear HB; have HB := n0_; have BK137 := n1_; have GW137 := n2_; have GE137 := n3_; clear n0_ n1_ n2_ n3_; clear hb hbox hg)); try go_wp2_with (first | ((with_reducible refine gate_dst (N := 3) rfl ?_); refine boxE_ (N := 3) (cs := #[.int .i64 a1_0, .int .i64 a1_1]) (t := 39) ?_; intro gb137 hg w3 hbox hb; have n0_ := Aside0.mk (below_step (bl0_ HB.out) hb); have n1_ := Aside0.mk (hbox); have n2_ := Aside0.mk ((bs0_ hg HB.out : w.heap.size ≤ gb137)); have n3_ := Aside0.mk ((bs0_ hg HB.out : w.heap.size ≤ gb137)); clear HB; have HB := n0_; have BK137 := n1_; have GW137 := n2_; have GE137 := n3_; clear n0_ n1_ n2_ n3_; clear hb hbox hg)))
 go_loopg [8] k (fun kq v8 w' => ∃ (x8_1 : Int), v8 = .int .i64 x8_1 ∧ Aside0 (impl_Corner_31.l0 kq l0 (l0.length : Int) x8_1 a1_0 a1_1 = some r) ∧ Aside0 (kq ≤ k) ∧ Aside0 (w'.heap[gb137]? = some (.cells #[.int .i64 a1_0, .int .i64 a1_1] 39 (0, 0))) ∧ Aside0 (Below w.heap.size w w'))
 case atStart => exact ⟨(0), rs_, H', ⟨Nat.le_refl _⟩, ⟨bk_ BK137.out⟩, ⟨bl1_ HB.out GE137.out⟩⟩
 case round =>
  clear H'
  try clear p2
  try clear c3
  obtain ⟨x8_1, rfl, HA, HK1, BK137, HB⟩ := hrel
  cases gk with
  | zero => exact absurd HA.out (by simp [impl_Corner_31.l0])
  | succ k1 =>
   have H := HA.out
   clear HA
   simp only [impl_Corner_31.l0] at H
   by_cases c4 : x8_1 < (l0.length : Int)
   ·rw [if_pos c4] at H
    have c4b0 : decide (x8_1 < (l0.length : Int)) = true := decide_eq_true c4
    clear c4
    by_cases c5 : 0 ≤ x8_1
    ·rw [if_pos c5] at H
     have c5b0 : decide (0 ≤ x8_1) = true := decide_eq_true c5
     clear c5
     by_cases c6 : x8_1 < (l0.length : Int)
     ·rw [if_pos c6] at H
      have c6b0 : decide (x8_1 < (l0.length : Int)) = true := decide_eq_true c6
      clear c6
      by_cases c7 : (a1_0 == ((rd_T39 l0 x8_1).f0) && (a1_1 == ((rd_T39 l0 x8_1).f1))) = true
      ·rw [if_pos c7] at H
       have c7b0 : (a1_0 == ((rd_T39 l0 x8_1).f0) && (a1_1 == ((rd_T39 l0 x8_1).f1))) = true := c7
       (try (have c7b1 : decide (a1_0 = ((rd_T39 l0 x8_1).f0) && (a1_1 == ((rd_T39 l0 x8_1).f1))) = true := by simpa using c7))
       (try (have c7b2 : (a1_0 == ((rd_T39 l0 x8_1).f0) && (a1_1 == ((rd_T39 l0 x8_1).f1))) = true := by simpa using c7))
       clear c7
       obtain rfl := Option.some.inj H
       have hcz8_0 : wr.cell? ⟨gb137, 0, none⟩ = some (.int .i64 a1_0) := (blk_cell BK137.out 0).trans rfl
       have hcz8_1 : wr.cell? ⟨gb137, 1, none⟩ = some (.int .i64 a1_1) := (blk_cell BK137.out 1).trans rfl
       have hfz8_0 := blk_frozen BK137.out 0
       have hfz8_1 := blk_frozen BK137.out 1
       have p138 : 0 ≤ (x8_1 : Int) := of_decide_eq_true as_
       have q138 : x8_1 < (l0.length : Int) := of_decide_eq_true as_
       obtain ⟨ad138, e138, hx138_0, hx138_1⟩ := at_T39 HR0.out x8_1 p138 q138
       cases e138
       replace hx138_0 := (HB.out.cell (World.block_lt_of_cell? w _ hx138_0)).trans hx138_0
       replace hx138_1 := (HB.out.cell (World.block_lt_of_cell? w _ hx138_1)).trans hx138_1
       replace p138 := eq_true p138
       replace q138 := eq_true q138
       go_wp2
       repeat (go_quiet (fail); try go_wp2)
       go_ret
       exact ⟨er_, bl1_ HB.out GE137.out⟩
      ·rw [if_neg c7] at H
       have c7b0 : (a1_0 == ((rd_T39 l0 x8_1).f0) && (a1_1 == ((rd_T39 l0 x8_1).f1))) = false := by simpa using c7
       (try (have c7b1 : decide (a1_0 = ((rd_T39 l0 x8_1).f0) && (a1_1 == ((rd_T39 l0 x8_1).f1))) = false := by simpa using c7))
       (try (have c7b2 : (a1_0 == ((rd_T39 l0 x8_1).f0) && (a1_1 == ((rd_T39 l0 x8_1).f1))) = false := by simpa using c7))
       (try (have c7b3 : ¬ (a1_0 = ((rd_T39 l0 x8_1).f0) && (a1_1 == ((rd_T39 l0 x8_1).f1))) := by simpa using c7))
       clear c7
       have H' := Aside0.mk H
       clear H
       have hcz9_0 : wr.cell? ⟨gb137, 0, none⟩ = some (.int .i64 a1_0) := (blk_cell BK137.out 0).trans rfl
       have hcz9_1 : wr.cell? ⟨gb137, 1, none⟩ = some (.int .i64 a1_1) := (blk_cell BK137.out 1).trans rfl
       have hfz9_0 := blk_frozen BK137.out 0
       have hfz9_1 := blk_frozen BK137.out 1
       have p138 : 0 ≤ (x8_1 : Int) := of_decide_eq_true as_
       have q138 : x8_1 < (l0.length : Int) := of_decide_eq_true as_
       obtain ⟨ad138, e138, hx138_0, hx138_1⟩ := at_T39 HR0.out x8_1 p138 q138
       cases e138
       replace hx138_0 := (HB.out.cell (World.block_lt_of_cell? w _ hx138_0)).trans hx138_0
       replace hx138_1 := (HB.out.cell (World.block_lt_of_cell? w _ hx138_1)).trans hx138_1
       replace p138 := eq_true p138
       replace q138 := eq_true q138
       go_wp2
       repeat (go_quiet (fail); try go_wp2)
       go_roundg k1
       case measure => have := HK1.out; omega
       case rel => exact ⟨(wrap64 (x8_1 + 1)), rs_, H', ⟨by have := HK1.out; omega⟩, ⟨bk_ BK137.out⟩, ⟨bl1_ HB.out GE137.out⟩⟩
     ·rw [if_neg c6] at H
      exact absurd H (by simp)
    ·rw [if_neg c5] at H
     exact absurd H (by simp)
   ·rw [if_neg c4] at H
    have c4b0 : decide (x8_1 < (l0.length : Int)) = false := decide_eq_false c4
    clear c4
    obtain rfl := Option.some.inj H
    go_wp2
    repeat (go_quiet (fail); try go_wp2)
    go_ret
    exact ⟨er_, bl1_ HB.out GE137.out⟩

end Go.Proofs.YtidabcihlamidaaDoor.P
namespace Go.Proofs.YtidabcihlamidaaDoor.P
open Go.RowKit Go.Proofs.YtidabcihlamidaaDoorW.PrintWords Go.Proofs.YtidabcihlamidaaDoorW.PrintLast Go.Proofs.YtidabcihlamidaaDoorW.PrintMore
attribute [local go_sem] max2_int min2_int max_two min_two max_three min_three max_four min_four   -- for this text's walks alone
set_option linter.unusedVariables false
set_option linter.unusedSimpArgs false

def impl_compareCorners.f (a0_0 : Int) (a0_1 : Int) (a1_0 : Int) (a1_1 : Int) : Option (Int) := if a0_1 = a1_1 then (some (wrap64 (a0_0 - a1_0))) else (some (wrap64 (a0_1 - a1_1)))
set_option maxHeartbeats 8000000 in
set_option maxRecDepth 100000 in
theorem impl_compareCorners.calls (a0_0 : Int) (a0_1 : Int) (a1_0 : Int) (a1_1 : Int) (r : Int) (w : World) (h : impl_compareCorners.f a0_0 a0_1 a1_0 a1_1 = some r) :
    Calls Tryd.prog 33 #[.agg #[.int .i64 a0_0, .int .i64 a0_1], .agg #[.int .i64 a1_0, .int .i64 a1_1]] w fun e w' => e = .returned (.int .i64 r) ∧ Below w.heap.size w w' := by
  have hu39 := Tryd.underlying39
  have HB := Aside0.mk (Below.refl w.heap.size w)
  have H : (if a0_1 = a1_1 then (some (wrap64 (a0_0 - a1_0))) else (some (wrap64 (a0_1 - a1_1)))) = some r := h
  clear h
  by_cases c3 : a0_1 = a1_1
  · rw [if_pos c3] at H
    have c3b0 : (a0_1 == a1_1) = true := beq_iff_eq.mpr c3
    have c3b1 : (a0_1 != a1_1) = false := bne_eq_false_iff_eq.mpr c3
    clear c3
    obtain rfl := Option.some.inj H
    go_enter Tryd.func33, Tryd.ntmps33
    go_wp2_with (first | ((with_reducible refine gate_dst (N := 2) rfl ?_); refine boxE_ (N := 2) (cs := #[.int .i64 a0_0, .int .i64 a0_1]) (t := 39) ?_; intro gb139 hg w4 hbox hb; have n0_ := Aside0.mk (below_step (bl0_ HB.out) hb); have n1_ := Aside0.mk (hbox); have n2_ := Aside0.mk ((bs0_ hg HB.out : w.heap.size ≤ gb139)); have n3_ := Aside0.mk ((bs0_ hg HB.out : w.heap.size ≤ gb139)); clear HB; have HB := n0_; have BK139 := n1_; have GW139 := n2_; have GE139 := n3_; clear n0_ n1_ n2_ n3_; clear hb hbox hg) | ((with_reducible refine gate_dst (N := 3) rfl ?_); refine boxE_ (N := 3) (cs := #[.int .i64 a1_0, .int .i64 a1_1]) (t := 39) ?_; intro gb140 hg w5 hbox hb; have n0_ := Aside0.mk (bb_ BK139.out hb); have n1_ := Aside0.mk (below_step (bl1_ HB.out GE139.out) hb); have n2_ := Aside0.mk (hbox); have n3_ := Aside0.mk ((bs1_ hg HB.out GE139.out : w.heap.size ≤ gb140)); have n4_ := Aside0.mk ((bs1_ hg HB.out GE139.out : w.heap.size ≤ gb140)); have n5_ := Aside0.mk ((nl_ hg BK139.out : gb139 ≠ gb140)); have n6_ := Aside0.mk ((ng_ hg BK139.out : gb140 ≠ gb139)); clear BK139; clear HB; have BK139 := n0_; have HB := n1_; have BK140 := n2_; have GW140 := n3_; have GE140 := n4_; have NB139_140 := n5_; have NB140_139 := n6_; clear n0_ n1_ n2_ n3_ n4_ n5_ n6_; clear hb hbox hg; have hnb6 := NB139_140.out; have hnc6 := NB140_139.out; have hcz7_0 : w5.cell? ⟨gb139, 0, none⟩ = some (.int .i64 a0_0) := (blk_cell BK139.out 0).trans rfl; have hcz7_1 : w5.cell? ⟨gb139, 1, none⟩ = some (.int .i64 a0_1) := (blk_cell BK139.out 1).trans rfl; have hfz7_0 := blk_frozen BK139.out 0; have hfz7_1 := blk_frozen BK139.out 1; have hcz8_0 : w5.cell? ⟨gb140, 0, none⟩ = some (.int .i64 a1_0) := (blk_cell BK140.out 0).trans rfl; have hcz8_1 : w5.cell? ⟨gb140, 1, none⟩ = some (.int .i64 a1_1) := (blk_cell BK140.out 1).trans rfl; have hfz8_0 := blk_frozen BK140.out 0; have hfz8_1 := blk_frozen BK140.out 1))
    go_ret
    exact ⟨er_, bl2_ HB.out GE139.out GE140.out⟩
  · rw [if_neg c3] at H
    have c3b0 : (a0_1 == a1_1) = false := beq_eq_false_iff_ne.mpr c3
    have c3b1 : (a0_1 != a1_1) = true := bne_iff_ne.mpr c3
    obtain rfl := Option.some.inj H
    go_enter Tryd.func33, Tryd.ntmps33
    go_wp2_with (first | ((with_reducible refine gate_dst (N := 2) rfl ?_); refine boxE_ (N := 2) (cs := #[.int .i64 a0_0, .int .i64 a0_1]) (t := 39) ?_; intro gb139 hg w9 hbox hb; have n0_ := Aside0.mk (below_step (bl0_ HB.out) hb); have n1_ := Aside0.mk (hbox); have n2_ := Aside0.mk ((bs0_ hg HB.out : w.heap.size ≤ gb139)); have n3_ := Aside0.mk ((bs0_ hg HB.out : w.heap.size ≤ gb139)); clear HB; have HB := n0_; have BK139 := n1_; have GW139 := n2_; have GE139 := n3_; clear n0_ n1_ n2_ n3_; clear hb hbox hg) | ((with_reducible refine gate_dst (N := 3) rfl ?_); refine boxE_ (N := 3) (cs := #[.int .i64 a1_0, .int .i64 a1_1]) (t := 39) ?_; intro gb140 hg w10 hbox hb; have n0_ := Aside0.mk (bb_ BK139.out hb); have n1_ := Aside0.mk (below_step (bl1_ HB.out GE139.out) hb); have n2_ := Aside0.mk (hbox); have n3_ := Aside0.mk ((bs1_ hg HB.out GE139.out : w.heap.size ≤ gb140)); have n4_ := Aside0.mk ((bs1_ hg HB.out GE139.out : w.heap.size ≤ gb140)); have n5_ := Aside0.mk ((nl_ hg BK139.out : gb139 ≠ gb140)); have n6_ := Aside0.mk ((ng_ hg BK139.out : gb140 ≠ gb139)); clear BK139; clear HB; have BK139 := n0_; have HB := n1_; have BK140 := n2_; have GW140 := n3_; have GE140 := n4_; have NB139_140 := n5_; have NB140_139 := n6_; clear n0_ n1_ n2_ n3_ n4_ n5_ n6_; clear hb hbox hg; have hnb11 := NB139_140.out; have hnc11 := NB140_139.out; have hcz12_0 : w10.cell? ⟨gb139, 0, none⟩ = some (.int .i64 a0_0) := (blk_cell BK139.out 0).trans rfl; have hcz12_1 : w10.cell? ⟨gb139, 1, none⟩ = some (.int .i64 a0_1) := (blk_cell BK139.out 1).trans rfl; have hfz12_0 := blk_frozen BK139.out 0; have hfz12_1 := blk_frozen BK139.out 1; have hcz13_0 : w10.cell? ⟨gb140, 0, none⟩ = some (.int .i64 a1_0) := (blk_cell BK140.out 0).trans rfl; have hcz13_1 : w10.cell? ⟨gb140, 1, none⟩ = some (.int .i64 a1_1) := (blk_cell BK140.out 1).trans rfl; have hfz13_0 := blk_frozen BK140.out 0; have hfz13_1 := blk_frozen BK140.out 1))
    go_ret
    exact ⟨er_, bl2_ HB.out GE139.out GE140.out⟩


def cmpC (x m : S39) : Int := (impl_compareCorners.f x.f0 x.f1 m.f0 m.f1).getD 0
theorem cmpC_f (x m : S39) : impl_compareCorners.f x.f0 x.f1 m.f0 m.f1 = some (cmpC x m) := by
 unfold cmpC impl_compareCorners.f
 split <;> rfl
def minC : List S39 → S39 → S39
 | [], m => m
 | x :: r, m => minC r (if cmpC x m < 0 then x else m)
def impl_Corner_32.f : List S39 → Option (Int × Int)
 | [] => none
 | x :: r => some ((minC r x).f0, (minC r x).f1)
theorem rdM39_nat (l : List S39) (k : Nat) (h : k < l.length) : rd_T39 l (k : Int) = l[k] := by
 unfold rd_T39; rw [Int.toNat_natCast, List.getD_eq_getElem?_getD, List.getElem?_eq_getElem h]; rfl
set_option maxRecDepth 100000 in
set_option maxHeartbeats 4000000 in
theorem impl_Corner_32.calls (A0 : Option Addr) (c0 : Nat) (l0 : List S39) (r1 r2 : Int) (w : World) (hr0 : Kd.C k39 w A0 l0.length l0) (hc0 : l0.length ≤ c0) (h : impl_Corner_32.f l0 = some (r1, r2)) :
  Calls Tryd.prog 32 #[.slice A0 l0.length c0, .func (.func 33) #[] #[]] w fun e w' => e = .returned (.agg #[.int .i64 r1, .int .i64 r2]) ∧ Below w.heap.size w w' := by
 cases hl0 : l0 with
 | nil => rw [hl0] at h; cases h
 | cons x0 rest =>
 have hmin : (r1, r2) = ((minC rest x0).f0, (minC rest x0).f1) := by rw [hl0] at h; exact (Option.some.inj h).symm
 obtain ⟨rfl, rfl⟩ := Prod.mk.inj hmin
 clear h hmin
 have hg0 : l0[0]? = some x0 := by rw [hl0]; rfl
 have hd1 : l0.drop 1 = rest := by rw [hl0]; rfl
 have hln : 0 < l0.length := by rw [hl0]; simp
 rw [← hl0]
 rw [← hd1]
 clear hl0 hd1 hc0
 have hbig : l0.length ≤ 9223372036854775807 := hr0.2.1
 generalize hn : l0.length = n at hbig hln
 have HN := Aside0.mk hn
 clear hn
 have HR : Aside0 (Kd.C k39 w A0 n l0) := ⟨by have h := hr0; rw [HN.out] at h; exact h⟩
 clear hr0
 have HG0 := Aside0.mk hg0
 clear hg0
 have h0r : rd_T39 l0 0 = x0 := by
  unfold rd_T39
  rw [List.getD_eq_getElem?_getD]
  show (l0[0]?).getD _ = _
  rw [HG0.out]
  rfl
 obtain ⟨ad0, eA0, hx0, hy0⟩ := at_T39 HR.out 0 (by omega) (by omega)
 cases eA0
 rw [h0r, show ∀ a : Addr, a.add ((0 : Int).toNat * 2) = a from fun _ => rfl] at hx0 hy0
 have hnn : ¬ (n : Int) < 1 := by omega
 clear h0r
 obtain ⟨R, hR⟩ : ∃ R, minC (l0.drop 1) x0 = R := ⟨_, rfl⟩
 rw [hR]
 have HRR := Aside0.mk hR
 clear hR
 have hcell : ∀ {W W' : World} {a : Addr} {v : Value}, Below W.heap.size W W' → W.cell? a = some v → W'.cell? a = some v := fun hb h => (hb.cell (World.block_lt_of_cell? _ _ h)).trans h
 go_enter Tryd.func32, Tryd.ntmps32
 go_wp2_with (first
  | ((with_reducible refine gate_dst (N := 4) rfl ?_); refine boxE_ (N := 4) (cs := #[.int .i64 0, .int .i64 0]) (t := 39) ?_; intro g4 hg w1 hbox hb; have hx1 := hcell hb hx0; have hy1 := hcell hb hy0; have HB1 := Aside0.mk hb; have HG4 : Aside0 (g4 = w.heap.size) := ⟨hg⟩; have BK4 := Aside0.mk hbox; clear hb hg hbox hx0 hy0)
  | ((with_reducible refine gate_dst (N := 5) rfl ?_); refine boxE_ (N := 5) (cs := #[.int .i64 0, .int .i64 0]) (t := 39) ?_; intro g5 hg w2 hbox hb; have hx2 := hcell hb hx1; have hy2 := hcell hb hy1; have HB2 := Aside0.mk (below_step HB1.out hb); have HG5 : Aside0 (w.heap.size < g5 ∧ g4 < g5) := ⟨by have h1 := HB1.out.size; have h2 := blk_lt BK4.out; have h3 := HG4.out; omega⟩; have BK4b := Aside0.mk (blk_below BK4.out hb); have BK5 := Aside0.mk hbox; have hs0 : w2.cell? ⟨g5, 0, none⟩ = some (.int .i64 0) := (blk_cell BK5.out 0).trans rfl; have hs1 : w2.cell? ⟨g5, 1, none⟩ = some (.int .i64 0) := (blk_cell BK5.out 1).trans rfl; have hf0 := blk_frozen BK5.out 0; have hf1 := blk_frozen BK5.out 1; clear hb hg hbox hx1 hy1 HB1 BK4))
 have hb3 := below_set (j := 1) (v := .int .i64 x0.f1) (below_set (j := 0) (v := .int .i64 x0.f0) HB2.out (Nat.le_of_lt HG5.out.1)) (Nat.le_of_lt HG5.out.1)
 have hk5 := blk_put (cs := #[.int .i64 x0.f0, .int .i64 0]) (blk_put (cs := #[.int .i64 0, .int .i64 0]) BK5.out 0 (.int .i64 x0.f0) rfl) 1 (.int .i64 x0.f1) rfl
 have hk4 := blk_far (p := ⟨g5, 1, none⟩) (blk_far (p := ⟨g5, 0, none⟩) BK4b.out (Nat.ne_of_lt HG5.out.2) (.int .i64 x0.f0)) (Nat.ne_of_lt HG5.out.2) (.int .i64 x0.f1)
 clear hs0 hs1 hf0 hf1 hx2 hy2 HB2 BK4b BK5
 generalize (w2.setCell ⟨g5, 0, none⟩ (.int .i64 x0.f0)).setCell ⟨g5, 1, none⟩ (.int .i64 x0.f1) = W3 at hb3 hk5 hk4 ⊢
 go_loopg [6] n (fun gg v6 wr => ∃ (kk : Nat) (m : S39), kk ≤ n ∧ n - kk ≤ gg ∧ v6 = .int .i64 kk ∧ Aside0 (Below w.heap.size w wr) ∧ Aside0 (wr.heap[g5]? = some (.cells #[.int .i64 m.f0, .int .i64 m.f1] 39 (0, 0))) ∧ Aside0 (wr.heap[g4]? = some (.cells #[.int .i64 0, .int .i64 0] 39 (0, 0))) ∧ Aside0 (R = minC (l0.drop kk) m))
 case atStart => exact ⟨1, x0, by omega, by omega, rfl, ⟨hb3⟩, ⟨hk5⟩, ⟨hk4⟩, ⟨HRR.out.symm⟩⟩
 case round =>
  clear hb3 hk5 hk4
  obtain ⟨kk, m, hkk, hg, rfl, BW, K5, K4, A⟩ := hrel
  by_cases hlt : kk < n
  ·have hltz : (kk : Int) < (n : Int) := by omega
   have hll : kk < l0.length := by rw [HN.out]; exact hlt
   obtain ⟨ad, eA, hx, hx2⟩ := at_T39 (Kd.C_below HR.out BW.out) (kk : Int) (by omega) (by omega)
   cases eA
   rw [rdM39_nat l0 kk hll, Int.toNat_natCast] at hx hx2
   have A2 : Aside0 (R = minC (l0.drop (kk + 1)) (if cmpC l0[kk] m < 0 then l0[kk] else m)) := ⟨by rw [A.out, List.drop_eq_getElem_cons hll]; rfl⟩
   clear A
   generalize hy : l0[kk] = y at hx hx2 A2
   clear hy hll
   have hm0 : wr.cell? ⟨g5, 0, none⟩ = some (.int .i64 m.f0) := (blk_cell K5.out 0).trans rfl
   have hm1 : wr.cell? ⟨g5, 1, none⟩ = some (.int .i64 m.f1) := (blk_cell K5.out 1).trans rfl
   by_cases hq : cmpC y m < 0
   ·have hqd : decide (cmpC y m < 0) = true := decide_eq_true hq
    have A3 : Aside0 (R = minC (l0.drop (kk + 1)) y) := ⟨by rw [A2.out, if_pos hq]⟩
    clear A2
    go_wp2
    go_region_held3 (fun w' => w'.cell? (ad0.add (kk * 2)) = some (.int .i64 y.f0) ∧ w'.cell? ⟨(ad0.add (kk * 2)).block, (ad0.add (kk * 2)).off + 1, none⟩ = some (.int .i64 y.f1) ∧ w'.cell? ⟨g5, 0, none⟩ = some (.int .i64 m.f0) ∧ w'.cell? ⟨g5, 1, none⟩ = some (.int .i64 m.f1))
     (first | exact ⟨hx, hx2, hm0, hm1⟩ | (go_split_ands; exact ⟨hcell hbA (by assumption), hcell hbA (by assumption), pw_cell_below hbA (by assumption), pw_cell_below hbA (by assumption)⟩))
     ((first | (go_at_call 33; refine (impl_compareCorners.calls y.f0 y.f1 m.f0 m.f1 (cmpC y m) _ (cmpC_f y m)).mono ?_; rintro e wA ⟨rfl, hbA⟩)))
    go_split_ands
    have BW2 := Aside0.mk (below_step (below_drew1 BW.out) hbA)
    have K52 := Aside0.mk (blk_below (blk_drew K5.out) hbA)
    have K42 := Aside0.mk (blk_below (blk_drew K4.out) hbA)
    have hbr := below_step (below_drew1 (Below.refl wr.heap.size wr)) hbA
    have hxA := hcell hbr hx
    have hyA := hcell hbr hx2
    clear hm0 hm1 hx hx2 BW K5 K4 hbA hbr
    have hm0 : wA.cell? ⟨g5, 0, none⟩ = some (.int .i64 m.f0) := (blk_cell K52.out 0).trans rfl
    have hm1 : wA.cell? ⟨g5, 1, none⟩ = some (.int .i64 m.f1) := (blk_cell K52.out 1).trans rfl
    have hf0 := blk_frozen K52.out 0
    have hf1 := blk_frozen K52.out 1
    go_wp2
    go_roundg (n - (kk + 1))
    case measure => omega
    case rel => exact ⟨kk + 1, y, by omega, by omega, by go_num, ⟨below_set (below_set BW2.out (Nat.le_of_lt HG5.out.1)) (Nat.le_of_lt HG5.out.1)⟩, ⟨blk_put (cs := #[.int .i64 y.f0, .int .i64 m.f1]) (blk_put (cs := #[.int .i64 m.f0, .int .i64 m.f1]) K52.out 0 _ rfl) 1 _ rfl⟩, ⟨blk_far (blk_far K42.out (Nat.ne_of_lt HG5.out.2) _) (Nat.ne_of_lt HG5.out.2) _⟩, A3⟩
   ·have hqd : decide (cmpC y m < 0) = false := decide_eq_false hq
    have A3 : Aside0 (R = minC (l0.drop (kk + 1)) m) := ⟨by rw [A2.out, if_neg hq]⟩
    clear A2
    go_wp2
    go_region_held3 (fun w' => w'.cell? (ad0.add (kk * 2)) = some (.int .i64 y.f0) ∧ w'.cell? ⟨(ad0.add (kk * 2)).block, (ad0.add (kk * 2)).off + 1, none⟩ = some (.int .i64 y.f1) ∧ w'.cell? ⟨g5, 0, none⟩ = some (.int .i64 m.f0) ∧ w'.cell? ⟨g5, 1, none⟩ = some (.int .i64 m.f1))
     (first | exact ⟨hx, hx2, hm0, hm1⟩ | (go_split_ands; exact ⟨hcell hbA (by assumption), hcell hbA (by assumption), pw_cell_below hbA (by assumption), pw_cell_below hbA (by assumption)⟩))
     ((first | (go_at_call 33; refine (impl_compareCorners.calls y.f0 y.f1 m.f0 m.f1 (cmpC y m) _ (cmpC_f y m)).mono ?_; rintro e wA ⟨rfl, hbA⟩)))
    go_split_ands
    have BW2 := Aside0.mk (below_step (below_drew1 BW.out) hbA)
    have K52 := Aside0.mk (blk_below (blk_drew K5.out) hbA)
    have K42 := Aside0.mk (blk_below (blk_drew K4.out) hbA)
    have hbr := below_step (below_drew1 (Below.refl wr.heap.size wr)) hbA
    have hxA := hcell hbr hx
    have hyA := hcell hbr hx2
    clear hm0 hm1 hx hx2 BW K5 K4 hbA hbr
    have hm0 : wA.cell? ⟨g5, 0, none⟩ = some (.int .i64 m.f0) := (blk_cell K52.out 0).trans rfl
    have hm1 : wA.cell? ⟨g5, 1, none⟩ = some (.int .i64 m.f1) := (blk_cell K52.out 1).trans rfl
    have hf0 := blk_frozen K52.out 0
    have hf1 := blk_frozen K52.out 1
    go_wp2
    go_roundg (n - (kk + 1))
    case measure => omega
    case rel => exact ⟨kk + 1, m, by omega, by omega, by go_num, BW2, K52, K42, A3⟩
  ·have hltz : ¬ (kk : Int) < (n : Int) := by omega
   have : kk = n := by omega
   subst this
   have hm0 : wr.cell? ⟨g5, 0, none⟩ = some (.int .i64 m.f0) := (blk_cell K5.out 0).trans rfl
   have hm1 : wr.cell? ⟨g5, 1, none⟩ = some (.int .i64 m.f1) := (blk_cell K5.out 1).trans rfl
   have hz0 : wr.cell? ⟨g4, 0, none⟩ = some (.int .i64 0) := (blk_cell K4.out 0).trans rfl
   have hz1 : wr.cell? ⟨g4, 1, none⟩ = some (.int .i64 0) := (blk_cell K4.out 1).trans rfl
   have hf0 := blk_frozen K4.out 0
   have hf1 := blk_frozen K4.out 1
   go_wp2
   refine bodyPost_ret (results_cell_row rfl _ _ g4 39 #[.int .i64 m.f0, .int .i64 m.f1] (0, 0) _ rfl (blk_put (cs := #[.int .i64 m.f0, .int .i64 0]) (blk_put (cs := #[.int .i64 0, .int .i64 0]) K4.out 0 _ rfl) 1 _ rfl) Tryd.underlying39 rfl (by kernel_rfl)) rfl ?_
   have hR : R = m := by rw [A.out, List.drop_of_length_le (by rw [HN.out]; exact Nat.le_refl _)]; rfl
   exact ⟨by rw [hR], below_set (below_set BW.out (Nat.le_of_eq HG4.out.symm)) (Nat.le_of_eq HG4.out.symm)⟩


def slices_Reverse_byte_byte.l0 : Nat → List Int → Int → Int → Option (List Int)
  | 0, _, _, _ => none
  | k + 1, x0, x2, x3 => if x2 < x3 then (if 0 ≤ x3 then (if x3 < (x0.length : Int) then (if 0 ≤ x2 then (if x2 < (x0.length : Int) then (slices_Reverse_byte_byte.l0 k ((x0.set (x2 : Int).toNat (rd x0 x3)).set (x3 : Int).toNat (rd x0 x2)) (wrap64 (x2 + 1)) (wrap64 (x3 - 1))) else (none)) else (none)) else (none)) else (none)) else (some x0)
def slices_Reverse_byte_byte.f (k : Nat) (l0 : List Int) : Option (List Int) := slices_Reverse_byte_byte.l0 k l0 0 (wrap64 ((l0.length : Int) - 1))
theorem slices_Reverse_byte_byte.mono_l : ∀ k, (∀ y0 y1 y2, LeO (slices_Reverse_byte_byte.l0 k y0 y1 y2) (slices_Reverse_byte_byte.l0 (k + 1) y0 y1 y2))
  | 0 => fun _ _ _ r h => by simp [slices_Reverse_byte_byte.l0] at h
  | k + 1 => by
    have ih0 := slices_Reverse_byte_byte.mono_l k
    · intro y0 y1 y2
      unfold slices_Reverse_byte_byte.l0
      repeat' first
      | (with_reducible exact ih0 _ _ _)
      | (with_reducible exact LeO.refl _)
      | (with_reducible exact LeO.none _)
      | (with_reducible refine LeO.ite ?_ ?_)
      | (with_reducible refine LeO.bind ?_ (fun _ => ?_))
      | exact ih0 _ _ _
      | exact LeO.none _
      | refine LeO.ite ?_ ?_
      | refine LeO.bind ?_ (fun _ => ?_)
theorem slices_Reverse_byte_byte.mono : ∀ a0 k, LeO (slices_Reverse_byte_byte.f k a0) (slices_Reverse_byte_byte.f (k + 1) a0) := by
  intro a0 k
  have ih0 := slices_Reverse_byte_byte.mono_l k
  unfold slices_Reverse_byte_byte.f
  repeat' first
      | (with_reducible exact ih0 _ _ _)
      | (with_reducible exact LeO.refl _)
      | (with_reducible exact LeO.none _)
      | (with_reducible refine LeO.ite ?_ ?_)
      | (with_reducible refine LeO.bind ?_ (fun _ => ?_))
      | exact ih0 _ _ _
      | exact LeO.none _
      | refine LeO.ite ?_ ?_
      | refine LeO.bind ?_ (fun _ => ?_)
def slices_Reverse_byte_byte.T3 : Bool × List (List Nat × List Nat) := (true, [([], []), ([], []), ([], []), ([], []), ([], []), ([], []), ([4, 5], [4, 5]), ([6], [6]), ([], []), ([], []), ([8, 9], [8, 9]), ([10], [10]), ([0, 1, 0, 1, 4, 5, 6, 7, 11], [0, 1]), ([12, 7, 0, 1, 4, 5, 6, 7, 11], [7, 12]), ([2, 3, 0, 1, 2, 3, 4, 5, 6, 7, 8, 9, 10, 11, 12, 13], [2, 3]), ([14, 11, 13, 0, 1, 2, 3, 4, 5, 6, 7, 8, 9, 10, 11, 12, 13], [11, 14])])
def slices_Reverse_byte_byte.B3 : List Nat := [0, 0, 0, 0, 0, 0, 48, 112, 0, 0, 768, 1792, 4083, 8179, 16383, 32767]
theorem slices_Reverse_byte_byte.tab3 : rtab .any (opsOf Tryd.f34 3) = slices_Reverse_byte_byte.T3 := by kernel_rfl
theorem slices_Reverse_byte_byte.bits3 : waitsOk slices_Reverse_byte_byte.T3.2 slices_Reverse_byte_byte.B3 = true := by kernel_rfl

def revS (l x : List UInt8) (i j : Nat) : Prop := x.length = l.length ∧ ∀ m, m < l.length → x.getD m 0 = if m < i ∨ j < m then l.getD (l.length - 1 - m) 0 else l.getD m 0
theorem revS_start (l : List UInt8) (h : 0 < l.length) : revS l l 0 (l.length - 1) := ⟨rfl, fun m hm => by rw [if_neg (by omega)]⟩
theorem getD_set8 (x : List UInt8) (i m : Nat) (b : UInt8) (h : i < x.length) : (x.set i b).getD m 0 = if i = m then b else x.getD m 0 := by
 rw [List.getD_eq_getElem?_getD, List.getElem?_set, List.getD_eq_getElem?_getD]
 by_cases e : i = m
 ·subst e
  simp [h]
 ·simp [e]
theorem revS_step {l x : List UInt8} {i j : Nat} (h : revS l x i j) (hij : i + j = l.length - 1) (hlt : i < j) : revS l ((x.set i (x.getD j 0)).set j (x.getD i 0)) (i + 1) (j - 1) := by
 obtain ⟨h1, h2⟩ := h
 refine ⟨by rw [List.length_set, List.length_set, h1], fun m hm => ?_⟩
 rw [getD_set8 _ _ _ _ (by rw [List.length_set]; omega), getD_set8 _ _ _ _ (by omega)]
 by_cases e1 : j = m
 ·subst e1
  rw [if_pos rfl, if_pos (by omega), h2 i (by omega), if_neg (by omega), show l.length - 1 - j = i by omega]
 ·rw [if_neg e1]
  by_cases e2 : i = m
  ·subst e2
   rw [if_pos rfl, if_pos (by omega), h2 j (by omega), if_neg (by omega), show l.length - 1 - i = j by omega]
  ·rw [if_neg e2, h2 m hm]
   by_cases e3 : m < i ∨ j < m
   ·rw [if_pos e3, if_pos (by omega)]
   ·rw [if_neg e3, if_neg (by omega)]
theorem revS_end {l x : List UInt8} {i j : Nat} (h : revS l x i j) (hij : i + j = l.length - 1) (hge : ¬ i < j) (h0 : 0 < l.length) : x = l.reverse := by
 obtain ⟨h1, h2⟩ := h
 apply List.ext_getElem?
 intro m
 by_cases hm : m < l.length
 ·have h3 := h2 m hm
  have e : (if m < i ∨ j < m then l.getD (l.length - 1 - m) 0 else l.getD m 0) = l.getD (l.length - 1 - m) 0 := by
   by_cases e3 : m < i ∨ j < m
   ·rw [if_pos e3]
   ·rw [if_neg e3, show l.length - 1 - m = m by omega]
  rw [e] at h3
  rw [List.getElem?_reverse hm, List.getElem?_eq_getElem (by omega), List.getElem?_eq_getElem (by omega)]
  rw [List.getD_eq_getElem?_getD, List.getElem?_eq_getElem (by omega), List.getD_eq_getElem?_getD, List.getElem?_eq_getElem (by omega)] at h3
  exact congrArg some h3
 ·rw [List.getElem?_eq_none (by omega), List.getElem?_eq_none (by rw [List.length_reverse]; omega)]
set_option maxHeartbeats 8000000 in
set_option maxRecDepth 100000 in
theorem reverseB_any (l : List UInt8) (h0 : 0 < l.length) (hn : l.length ≤ 1000) (g c : Nat) (w0 w : World) (hB : Below w0.heap.size w0 w) (hg : w0.heap.size ≤ g) (hr : BR 5 w g l) :
  Calls Tryd.prog 34 #[.slice (some ⟨g, 0, none⟩) l.length c] w fun e w' => e = .returned (.tuple #[]) ∧ BR 5 w' g l.reverse ∧ Below w0.heap.size w0 w' := by
 have HB := Aside0.mk hB
 have HR := Aside0.mk hr
 have HG := Aside0.mk hg
 have HS0 := Aside0.mk (revS_start l h0)
 clear hB hr hg
 generalize hL : l.length = n at h0 hn ⊢
 have HL := Aside0.mk hL
 clear hL
 go_enter Tryd.func34, Tryd.ntmps34
 go_wp2
 go_loopg [2, 3] n (fun gg v2 v3 wr => ∃ (i j : Nat) (x : List UInt8), v2 = .int .i64 i ∧ v3 = .int .i64 j ∧ i + j = n - 1 ∧ j ≤ gg + i ∧ Aside0 (revS l x i j) ∧ Aside0 (BR 5 wr g x) ∧ Aside0 (Below w0.heap.size w0 wr))
 case atStart => exact ⟨0, n - 1, l, rfl, by go_num, by omega, by omega, ⟨by have h := HS0.out; rw [HL.out] at h; exact h⟩, HR, HB⟩
 case round =>
  clear HS0 HR HB
  obtain ⟨i, j, x, rfl, rfl, hij, hgg, HS, HR, HB⟩ := hrel
  have HX : Aside0 (x.length = n) := ⟨HS.out.1.trans HL.out⟩
  by_cases hlt : i < j
  ·have hltz : (i : Int) < (j : Int) := by omega
   have hjn : (j : Int) < (n : Int) := by omega
   have hin : (i : Int) < (n : Int) := by omega
   have hjx : j < x.length := by have := HX.out; omega
   have hix : i < x.length := by omega
   have HSn := Aside0.mk (revS_step HS.out (by rw [HL.out]; exact hij) hlt)
   have h1 := BR_cell HR.out j hjx
   have h2 := BR_cell HR.out i hix
   have ei : x.getD i 0 = x[i] := by rw [List.getD_eq_getElem?_getD, List.getElem?_eq_getElem hix]; rfl
   have ej : x.getD j 0 = x[j] := by rw [List.getD_eq_getElem?_getD, List.getElem?_eq_getElem hjx]; rfl
   rw [← ei] at h2
   rw [← ej] at h1
   have hf2 := BR_frozen HR.out i hix
   have HR1 := Aside0.mk (BR_set HR.out i hix (x.getD j 0))
   have hjx1 : j < (x.set i (x.getD j 0)).length := by rw [List.length_set]; exact hjx
   obtain ⟨ov, h1b⟩ : ∃ ov, (wr.setCell ⟨g, i, none⟩ (.int .u8 ((x.getD j 0).toNat : Int))).cell? ⟨g, j, none⟩ = some ov := ⟨_, BR_cell HR1.out j hjx1⟩
   have hf1 := BR_frozen HR1.out j hjx1
   have HR2 := Aside0.mk (BR_set HR1.out j hjx1 (x.getD i 0))
   clear ei ej hjx hix hjx1 HS HR
   generalize x.getD i 0 = bi at h1 h2 HR1 HR2 HSn h1b hf1 hf2
   generalize x.getD j 0 = bj at h1 h2 HR1 HR2 HSn h1b hf1 hf2
   try go_wp2
   refine start_ (n := 16) (S := fun w' => w'.cell? ⟨g, j, none⟩ = some (.int .u8 (bj.toNat : Int)) ∧ w'.cell? ⟨g, i, none⟩ = some (.int .u8 (bi.toNat : Int))) (ds := [13, 15]) #[Ff, Ff, Ff, Ff, Ff, Ff, Ff, Ff, Ff, Ff, Ff, Ff, Ff, Ff, Ff, Ff] (by kernel_rfl) rfl rfl ⟨h1, h2⟩ (fun hHeld => ?_)
   refine with_tabW slices_Reverse_byte_byte.tab3 slices_Reverse_byte_byte.bits3 (fun HT_ HW_ => ?_)
   have HB2 := Aside0.mk (below_set (j := j) (v := .int .u8 (bi.toNat : Int)) (below_set (j := i) (v := .int .u8 (bj.toNat : Int)) (below_drew1 HB.out) HG.out) HG.out)
   have HR2d : Aside0 (BR 5 ((wr.drew.setCell ⟨g, i, none⟩ (.int .u8 (bj.toNat : Int))).setCell ⟨g, j, none⟩ (.int .u8 (bi.toNat : Int))) g ((x.set i bj).set j bi)) := ⟨HR2.out⟩
   have h1d : wr.drew.cell? ⟨g, j, none⟩ = some (.int .u8 (bj.toNat : Int)) := h1
   have h2d : wr.drew.cell? ⟨g, i, none⟩ = some (.int .u8 (bi.toNat : Int)) := h2
   have h1bd : (wr.drew.setCell ⟨g, i, none⟩ (.int .u8 (bj.toNat : Int))).cell? ⟨g, j, none⟩ = some ov := h1b
   have hf2d : wr.drew.frozen? ⟨g, i, none⟩ = false := hf2
   have hf1d : (wr.drew.setCell ⟨g, i, none⟩ (.int .u8 (bj.toNat : Int))).frozen? ⟨g, j, none⟩ = false := hf1
   clear h1 h2 h1b hf1 hf2 HR1 HR2 HB
   generalize wr.drew = w10 at HB2 HR2d h1d h2d h1bd hf2d hf1d hHeld ⊢
   refine pZ (i := 0) (N := some 14) #[Tt, Ff, Ff, Ff, Ff, Ff, Ff, Ff, Ff, Ff, Ff, Ff, Ff, Ff, Ff, Ff] ?_
   refine pZ (i := 1) (N := some 15) #[Tt, Tt, Ff, Ff, Ff, Ff, Ff, Ff, Ff, Ff, Ff, Ff, Ff, Ff, Ff, Ff] ?_
   refine pZ (i := 2) (N := some 16) #[Tt, Tt, Tt, Ff, Ff, Ff, Ff, Ff, Ff, Ff, Ff, Ff, Ff, Ff, Ff, Ff] ?_
   refine pZ (i := 3) (N := some 17) #[Tt, Tt, Tt, Tt, Ff, Ff, Ff, Ff, Ff, Ff, Ff, Ff, Ff, Ff, Ff, Ff] ?_
   refine pZ (i := 4) (N := some 18) #[Tt, Tt, Tt, Tt, Tt, Ff, Ff, Ff, Ff, Ff, Ff, Ff, Ff, Ff, Ff, Ff] ?_
   refine pZ (i := 5) (N := some 19) #[Tt, Tt, Tt, Tt, Tt, Tt, Ff, Ff, Ff, Ff, Ff, Ff, Ff, Ff, Ff, Ff] ?_
   refine pZ (i := 6) (N := some 20) #[Tt, Tt, Tt, Tt, Tt, Tt, Tt, Ff, Ff, Ff, Ff, Ff, Ff, Ff, Ff, Ff] ?_
   refine pZ (i := 8) (N := some 22) #[Tt, Tt, Tt, Tt, Tt, Tt, Tt, Ff, Tt, Ff, Ff, Ff, Ff, Ff, Ff, Ff] ?_
   refine pZ (i := 9) (N := some 23) #[Tt, Tt, Tt, Tt, Tt, Tt, Tt, Ff, Tt, Tt, Ff, Ff, Ff, Ff, Ff, Ff] ?_
   refine pZ (i := 10) (N := some 24) #[Tt, Tt, Tt, Tt, Tt, Tt, Tt, Ff, Tt, Tt, Tt, Ff, Ff, Ff, Ff, Ff] ?_
   refine tZ (i := 7) (N := some 21) #[Tt, Tt, Tt, Tt, Tt, Tt, Tt, Tt, Tt, Tt, Tt, Ff, Ff, Ff, Ff, Ff] ?_
   refine tZ (i := 11) (N := some 25) #[Tt, Tt, Tt, Tt, Tt, Tt, Tt, Tt, Tt, Tt, Tt, Tt, Ff, Ff, Ff, Ff] ?_
   refine pZ (i := 12) (N := some 26) #[Tt, Tt, Tt, Tt, Tt, Tt, Tt, Tt, Tt, Tt, Tt, Tt, Tt, Ff, Ff, Ff] ?_
   refine last_ (i := 13) (N := none) #[Tt, Tt, Tt, Tt, Tt, Tt, Tt, Tt, Tt, Tt, Tt, Tt, Tt, Tt, Ff, Ff] rfl rfl (one_of HT_.out (by kernel_rfl)) (by decide) (fun K hK => ?_)
   refine skip_ (w1 := ?_) (by rfl) rfl ?_ ?_
   rotate_left
   ·go_simp
    rfl
   refine hK.out _ _ ?_
   clear hK K
   refine pZ (i := 14) (N := some 27) #[Tt, Tt, Tt, Tt, Tt, Tt, Tt, Tt, Tt, Tt, Tt, Tt, Tt, Tt, Tt, Ff] ?_
   refine last_ (i := 15) (N := none) #[Tt, Tt, Tt, Tt, Tt, Tt, Tt, Tt, Tt, Tt, Tt, Tt, Tt, Tt, Tt, Tt] rfl rfl (one_of HT_.out (by kernel_rfl)) (by decide) (fun K hK => ?_)
   refine skip_ (w1 := ?_) (by rfl) rfl ?_ ?_
   rotate_left
   ·go_simp
    rfl
   refine hK.out _ _ ?_
   clear hK K
   refine done_ (done_of HT_.out (by kernel_rfl)) ?_
   try go_wp2
   go_roundg (j - 1 - i)
   case measure => omega
   case rel => exact ⟨i + 1, j - 1, (x.set i bj).set j bi, by go_num, by go_num, by omega, by omega, HSn, HR2d, HB2⟩
  ·have hltz : ¬ (i : Int) < (j : Int) := by omega
   have hxr := revS_end HS.out (by rw [HL.out]; exact hij) hlt (by rw [HL.out]; exact h0)
   rw [hxr] at HR
   go_wp2
   first | go_end0 | ((try simp only [Exit.inBlock, Exit.then]); refine bodyPost_ret (results_none rfl _ _ _) rfl ?_)
   exact ⟨rfl, HR.out, HB.out⟩


def started_T3 : Bool × List (List Nat × List Nat) := (true, [([], []), ([], []), ([0, 1], [0, 1]), ([], []), ([], []), ([3, 4], [3, 4]), ([2, 5], [2, 5]), ([6], [6]), ([7, 0, 1, 2, 3, 4, 5, 6, 7], [7])])
def started_B3 : List Nat := [0, 0, 3, 0, 0, 24, 63, 127, 255]
theorem started_tab3 : rtab .any (opsOf Tryd.f15 3) = started_T3 := by kernel_rfl
theorem started_bits3 : waitsOk started_T3.2 started_B3 = true := by kernel_rfl
theorem indexByte_four (a b c d x : UInt8) : ∃ t : Int, Lib.indexByte [a, b, c, d] x = t ∧ (t = -1 ∨ t = 0 ∨ t = 1 ∨ t = 2 ∨ t = 3) := by
  refine ⟨_, rfl, ?_⟩
  unfold Lib.indexByte Lib.indexByte Lib.indexByte Lib.indexByte Lib.indexByte
  repeat' split
  all_goals first | omega | simp
theorem opposite_some (b : UInt8) : ∃ c : UInt8, impl_opposite.f (b.toNat : Int) = some (c.toNat : Int) := by
  obtain ⟨t, h1, h2⟩ := indexByte_four 110 101 115 119 (Int.toNat (b.toNat : Int)).toUInt8
  unfold impl_opposite.f strings_IndexByte.f
  rw [show (⟨#[110, 101, 115, 119]⟩ : ByteArray).data.toList = [110, 101, 115, 119] from rfl, h1, Option.bind_some]
  rcases h2 with rfl | rfl | rfl | rfl | rfl
  · exact ⟨101, by rw [show (wrap64 (-1 + 2)).tmod 4 = 1 by kernel_rfl]; rfl⟩
  · exact ⟨115, by rw [show (wrap64 (0 + 2)).tmod 4 = 2 by kernel_rfl]; rfl⟩
  · exact ⟨119, by rw [show (wrap64 (1 + 2)).tmod 4 = 3 by kernel_rfl]; rfl⟩
  · exact ⟨110, by rw [show (wrap64 (2 + 2)).tmod 4 = 0 by kernel_rfl]; rfl⟩
  · exact ⟨101, by rw [show (wrap64 (3 + 2)).tmod 4 = 1 by kernel_rfl]; rfl⟩
def oppB (b : UInt8) : UInt8 := UInt8.ofNat (((impl_opposite.f (b.toNat : Int)).getD 0).toNat)
theorem oppB_f (b : UInt8) : impl_opposite.f (b.toNat : Int) = some ((oppB b).toNat : Int) := by
  obtain ⟨c, h⟩ := opposite_some b
  unfold oppB
  rw [h, Option.getD_some, Int.toNat_natCast, UInt8.ofNat_toNat]
def startL (l : List UInt8) : List UInt8 := if l.getD 0 0 = 101 then l else l.reverse.map oppB
def startB (s : ByteArray) (b : Nat) : ByteArray := ⟨(startL (turnB s b).data.toList).toArray⟩
def oppP (l : List UInt8) (i : Nat) : List UInt8 := (l.take i).map oppB ++ l.drop i
theorem oppP_len (l : List UInt8) (i : Nat) : (oppP l i).length = l.length := by unfold oppP; rw [List.length_append, List.length_map, List.length_take, List.length_drop]; omega
theorem oppP_at (l : List UInt8) (i : Nat) (h : i < l.length) : (oppP l i)[i]? = some l[i] := by
  unfold oppP
  rw [List.getElem?_append_right (by rw [List.length_map, List.length_take]; omega), List.length_map, List.length_take, Nat.min_eq_left (by omega), Nat.sub_self, List.getElem?_drop, Nat.add_zero, List.getElem?_eq_getElem h]
theorem oppP_set (l : List UInt8) (i : Nat) (h : i < l.length) : (oppP l i).set i (oppB l[i]) = oppP l (i + 1) := by
  unfold oppP
  rw [List.take_succ_eq_append_getElem h, List.map_append, List.drop_eq_getElem_cons h, List.set_append_right _ _ (by rw [List.length_map, List.length_take]; omega), List.length_map, List.length_take, Nat.min_eq_left (by omega), Nat.sub_self, List.set_cons_zero, List.append_assoc]
  rfl
def impl_started.f (k : Nat) (a0 : ByteArray) : Option ByteArray := (impl_Corner_32.f ((cornersL a0.data.toList).take a0.size)).bind fun m => (impl_Corner_31.f k ((cornersL a0.data.toList).take a0.size) m.1 m.2).bind fun b => if (a0.size ≤ 1000 ∧ 0 < a0.size) ∧ 0 ≤ b ∧ b ≤ (a0.size : Int) then some (startB a0 b.toNat) else none
theorem impl_started.mono : ∀ a0 k, LeO (impl_started.f k a0) (impl_started.f (k + 1) a0) := by
  intro a0 k
  unfold impl_started.f
  refine LeO.bind (LeO.refl _) (fun _ => ?_)
  exact LeO.bind (impl_Corner_31.mono _ _ _ _) (fun _ => LeO.refl _)
set_option maxRecDepth 100000 in
set_option maxHeartbeats 8000000 in
theorem started_any (k : Nat) (s : ByteArray) (m0 m1 : Int) (b : Nat) (hs : s.size ≤ 1000) (h0 : 0 < s.size) (h1 : impl_Corner_32.f ((cornersL s.data.toList).take s.size) = some (m0, m1))
    (h2 : impl_Corner_31.f k ((cornersL s.data.toList).take s.size) m0 m1 = some (b : Int)) (hb : b ≤ s.size) (w : World) :
    Calls Tryd.prog 15 #[.string s] w fun e w' => e = .returned (.string (startB s b)) ∧ Below w.heap.size w w' := by
  obtain ⟨R, hR⟩ : ∃ R, R = startB s b := ⟨_, rfl⟩
  rw [← hR]
  have HRR := Aside0.mk hR
  clear hR
  have hn : s.data.toList.length = s.size := by simp
  have hlen : (cornersL s.data.toList).length = s.size + 1 := by rw [cornersL_len, hn]
  have hlt : ((cornersL s.data.toList).take s.size).length = s.size := by rw [List.length_take]; omega
  have HK := Aside0.mk (show impl_walk.f s = some (cornersL s.data.toList) from by unfold impl_walk.f; rw [if_pos (by omega)])
  generalize hcs : cornersL s.data.toList = cs at h1 h2 hlen hlt HK
  have HMF : Aside0 (∀ (A : Option Addr) (c : Nat) (W : World), Kd.C k39 W A s.size (cs.take s.size) → s.size ≤ c → Calls Tryd.prog 32 #[.slice A s.size c, .func (.func 33) #[] #[]] W fun e w' => e = .returned (.agg #[.int .i64 m0, .int .i64 m1]) ∧ Below W.heap.size W w') := ⟨fun A c W hC hc => by
    have h := impl_Corner_32.calls A c (cs.take s.size) m0 m1 W (by rw [hlt]; exact hC) (by rw [hlt]; exact hc) h1
    rw [hlt] at h
    exact h⟩
  have HIX : Aside0 (∀ (A : Option Addr) (c : Nat) (W : World), Kd.C k39 W A s.size (cs.take s.size) → s.size ≤ c → Calls Tryd.prog 31 #[.slice A s.size c, .agg #[.int .i64 m0, .int .i64 m1]] W fun e w' => e = .returned (.int .i64 (b : Int)) ∧ Below W.heap.size W w') := ⟨fun A c W hC hc => by
    have h := impl_Corner_31.calls k A c (cs.take s.size) m0 m1 (b : Int) W (by rw [hlt]; exact hC) (by rw [hlt]; exact hc) h2
    rw [hlt] at h
    exact h⟩
  have HB0 := Aside0.mk hb
  have HLN := Aside0.mk hlen
  have HLT := Aside0.mk hlt
  clear hn h1 h2 hcs hlt hb hlen
  have hconv := fun W : World => fun t : ByteArray => run_bytes_of_string (P := Tryd.prog) W 9 44 5 t Tryd.underlying9 Tryd.underlying44 Tryd.underlying5
  go_enter Tryd.func15, Tryd.ntmps15
  go_wp2_with (first
    | (go_at_call 23; (with_reducible refine (impl_walk.calls s _ _ HK.out).mono ?_)
       rintro e w1 ⟨v, rfl, ho, hbw⟩
       obtain ⟨A, c, rfl⟩ := Kd.R_slice ho
       have hcap := (Kd.R_reads' ho).2.1
       have HO := Aside0.mk ho
       have HB := Aside0.mk hbw
       rw [HLN.out] at HO hcap ⊢
       have HT : Aside0 (Kd.C k39 w1 A s.size (cs.take s.size)) := ⟨by have h := (Kd.R_reads' (Kd.R_take HO.out (m := s.size) (by rw [HLN.out]; omega))).2.2; rw [HLT.out] at h; exact h⟩
       have hcap2 : (s.size : Int) ≤ (c : Int) := by omega
       have HCP : Aside0 (s.size ≤ c) := ⟨by omega⟩
       clear ho hbw hcap HO)
    | (go_at_call 32; (with_reducible refine (HMF.out A c _ HT.out HCP.out).mono ?_)
       rintro e w2 ⟨rfl, hbw⟩
       have HT2 := Aside0.mk (Kd.C_below HT.out hbw)
       have HB2 := Aside0.mk (below_step HB.out hbw)
       clear hbw HT HB)
    | (go_at_call 31; (with_reducible refine (HIX.out A c _ HT2.out HCP.out).mono ?_)
       rintro e w3 ⟨rfl, hbw⟩
       have HB3 := Aside0.mk (below_step HB2.out hbw)
       clear hbw HT2 HB2))
  have hbz : (b : Int) ≤ (s.size : Int) := by have := HB0.out; omega
  have hbn : b ≤ s.size := HB0.out
  have hadd : (9223372036854775807 < s.size) = False := eq_false (by omega)
  refine start_ (n := 9) (S := fun _ => True) (ds := []) #[Ff, Ff, Ff, Ff, Ff, Ff, Ff, Ff, Ff] (by kernel_rfl) rfl rfl trivial (fun hHeld => ?_)
  refine with_tabW started_tab3 started_bits3 (fun HT_ HW_ => ?_)
  refine pZ (i := 0) (N := some 17) #[Tt, Ff, Ff, Ff, Ff, Ff, Ff, Ff, Ff] ?_
  refine pZ (i := 1) (N := some 18) #[Tt, Tt, Ff, Ff, Ff, Ff, Ff, Ff, Ff] ?_
  refine pZ (i := 2) (N := some 19) #[Tt, Tt, Tt, Ff, Ff, Ff, Ff, Ff, Ff] ?_
  refine pZ (i := 3) (N := some 20) #[Tt, Tt, Tt, Tt, Ff, Ff, Ff, Ff, Ff] ?_
  refine pZ (i := 4) (N := some 21) #[Tt, Tt, Tt, Tt, Tt, Ff, Ff, Ff, Ff] ?_
  refine pZ (i := 5) (N := some 22) #[Tt, Tt, Tt, Tt, Tt, Tt, Ff, Ff, Ff] ?_
  refine pZ (i := 6) (N := some 23) #[Tt, Tt, Tt, Tt, Tt, Tt, Tt, Ff, Ff] ?_
  refine one_ (i := 7) (N := some 24) #[Tt, Tt, Tt, Tt, Tt, Tt, Tt, Tt, Ff] rfl rfl (one_of HT_.out (by kernel_rfl)) (by decide) (fun K hK => ?_)
  refine value_ (w1 := ?ww) (v := ?vv) (by rfl) rfl ?hrun ?hrest
  case hrun =>
    go_simp
    constructor <;> rfl
  refine hK.out _ _ trivial (fun hHeld => ?_)
  clear hK K
  refine norm_ (a' := _) ap_ ?_
  refine pZ (i := 8) (N := some 5) #[Tt, Tt, Tt, Tt, Tt, Tt, Tt, Tt, Tt] ?_
  refine done_ (done_of HT_.out (by kernel_rfl)) ?_
  rw [show s.extract b s.size ++ s.extract 0 b = turnB s b from rfl]
  have hts := turnB_size s b hbn
  generalize grownCap w3.drew s.size 0 5 = cc
  have HR0 : BR 5 (w3.alloc (.cells (bytesRow (turnB s b) cc) 5 ((bytesRow (turnB s b) cc).size, (bytesRow (turnB s b) cc).size + 1))).drew.drew w3.heap.size (turnB s b).data.toList := BR_of (heap_alloc_new w3 _) (bytesRow_size _ _)
  have HB4 : Below w.heap.size w (w3.alloc (.cells (bytesRow (turnB s b) cc) 5 ((bytesRow (turnB s b) cc).size, (bytesRow (turnB s b) cc).size + 1))).drew.drew := below_drew1 (below_drew1 (below_alloc HB3.out _))
  have hg0 : w.heap.size ≤ w3.heap.size := HB3.out.size
  have hll : (turnB s b).data.toList.length = s.size := by rw [← hts]; simp
  have HRL : Aside0 (R = ⟨(startL (turnB s b).data.toList).toArray⟩) := ⟨HRR.out⟩
  generalize (w3.alloc (.cells (bytesRow (turnB s b) cc) 5 ((bytesRow (turnB s b) cc).size, (bytesRow (turnB s b) cc).size + 1))).drew.drew = W4 at HR0 HB4 ⊢
  generalize (turnB s b).data.toList = l at HR0 hll HRL
  generalize w3.heap.size = g at HR0 hg0 ⊢
  clear hts hadd HRR HT_ HW_ hHeld hbz hbn HB0 HB3 HLN HLT HK HMF HIX hcap2 HCP
  generalize s.size = n at h0 hs hll ⊢
  have HR := Aside0.mk HR0
  have HB := Aside0.mk HB4
  have HG := Aside0.mk hg0
  have HL := Aside0.mk hll
  have hl0 : 0 < l.length := by omega
  have hn9 : (0 : Int) < (n : Int) := by omega
  have hx := BR_cell HR.out 0 hl0
  have e0 : l.getD 0 0 = l[0] := by rw [List.getD_eq_getElem?_getD, List.getElem?_eq_getElem hl0]; rfl
  rw [← e0] at hx
  clear HR0 HB4 hg0 hll e0
  by_cases c1 : l.getD 0 0 = 101
  · have HS : Aside0 (startL l = l) := ⟨by unfold startL; rw [if_pos c1]⟩
    rw [c1] at hx
    have hstr : (convert 44 9 (.slice (some ⟨g, 0, none⟩) n cc)).run Tryd.prog W4 = .ok (.string ⟨l.toArray⟩) W4 := by
      have h := BR_string HR.out 44 9 5 cc Tryd.underlying44 Tryd.underlying5 Tryd.underlying9
      rw [HL.out] at h
      exact h
    clear c1 hl0
    go_wp2_with fail
    go_ret
    exact ⟨by rw [HRL.out, HS.out]; rfl, HB.out⟩
  · have HS : Aside0 (startL l = l.reverse.map oppB) := ⟨by unfold startL; rw [if_neg c1]⟩
    have hb1 : ¬ (((l.getD 0 0).toNat : Int) = 101) := fun h => c1 (UInt8.toNat_inj.1 (show (l.getD 0 0).toNat = 101 by omega))
    have hb0 : (((l.getD 0 0).toNat : Int) != 101) = true := bne_iff_ne.mpr hb1
    have HREV : Aside0 (Calls Tryd.prog 34 #[.slice (some ⟨g, 0, none⟩) n cc] W4 fun e w' => e = .returned (.tuple #[]) ∧ BR 5 w' g l.reverse ∧ Below w.heap.size w w') := ⟨by
      have h := reverseB_any l hl0 (by rw [HL.out]; exact hs) g cc w W4 HB.out HG.out HR.out
      rw [HL.out] at h
      exact h⟩
    generalize (l.getD 0 0).toNat = x0 at hx hb0
    clear c1 hb1
    have HV : Aside0 (l.reverse.length = n) := ⟨by rw [List.length_reverse]; exact HL.out⟩
    have HS0 : Aside0 (oppP l.reverse 0 = l.reverse) := ⟨rfl⟩
    have HSE : Aside0 (∀ r : List UInt8, r.length = n → oppP r n = r.map oppB) := ⟨fun r h => by unfold oppP; rw [List.take_of_length_le (by omega), List.drop_of_length_le (by omega), List.append_nil]⟩
    generalize l.reverse = rv at HS HREV HV HS0
    clear HR HB HL hl0
    go_wp2_with ((go_at_call 34; (with_reducible refine (HREV.out).mono ?_)
                  rintro e w5 ⟨rfl, hr, hb⟩
                  have HR5 : Aside0 (BR 5 w5 g (oppP rv 0)) := ⟨by rw [HS0.out]; exact hr⟩
                  have HB5 := Aside0.mk hb
                  clear hr hb))
    go_loopg [33] n (fun gg v33 wr => ∃ i : Nat, i ≤ n ∧ n - i ≤ gg ∧ v33 = .int .i64 i ∧ Aside0 (BR 5 wr g (oppP rv i)) ∧ Aside0 (Below w.heap.size w wr))
    case atStart => exact ⟨0, Nat.zero_le _, by omega, rfl, HR5, HB5⟩
    case round =>
      clear HR5 HB5 hx hb0 HREV
      obtain ⟨i, hi, hgg, rfl, HR, HB⟩ := hrel
      by_cases hlt : i < n
      · have hltz : (i : Int) < (n : Int) := by omega
        have hiv : i < rv.length := by rw [HV.out]; exact hlt
        have hip : i < (oppP rv i).length := by rw [oppP_len]; exact hiv
        have hy := BR_cell HR.out i hip
        have ey : (oppP rv i)[i] = rv[i] := by
          have h := oppP_at rv i hiv
          rw [List.getElem?_eq_getElem hip] at h
          exact Option.some.inj h
        rw [ey] at hy
        have hst := BR_set HR.out i hip (oppB rv[i])
        rw [oppP_set rv i hiv] at hst
        have HST := Aside0.mk hst
        have hf := BR_frozen HR.out i hip
        have HOP := Aside0.mk (oppB_f rv[i])
        generalize rv[i] = bi at hy HST HOP
        clear hst ey hip hiv HR
        go_wp2_with (first
          | (go_at_call 25; (with_reducible refine (impl_opposite.calls (bi.toNat : Int) ((oppB bi).toNat : Int) _ HOP.out).mono ?_)
             rintro e w6 ⟨rfl, ⟨nd, rfl⟩⟩
             have hf6 : (wr.drewN nd).frozen? ⟨g, i, none⟩ = false := hf
             have hy6 : (wr.drewN nd).cell? ⟨g, i, none⟩ = some (.int .u8 (bi.toNat : Int)) := hy)
          | ((with_reducible refine gate_store (t := 5) (p := 42) rfl ?_); refine store_event (t := 5) (p := 42) (v := ?vo) (w1 := (wr.drewN nd).setCell ⟨g, i, none⟩ (.int .u8 ((oppB bi).toNat : Int))) ?hg ?ho ?hn ?hr ?_; (case ho => rfl); (case hg => rfl); (case hn => rfl); (case hr => first | (go_simp; done) | (go_simp; rfl))
             intro w7 hw
             have HR7 : Aside0 (BR 5 w7 g (oppP rv (i + 1))) := ⟨by rw [hw]; exact HST.out⟩
             have HB7 : Aside0 (Below w.heap.size w w7) := ⟨by rw [hw]; exact below_set (pw_below_drewN HB.out _) HG.out⟩
             clear hw hf6 hy6 hf hy HST HB))
        go_roundg (n - (i + 1))
        case measure => omega
        case rel => exact ⟨i + 1, by omega, by omega, by go_num, HR7, HB7⟩
      · have hltz : ¬ (i : Int) < (n : Int) := by omega
        obtain rfl : i = n := by omega
        rw [HSE.out rv HV.out] at HR
        have hstr : (convert 44 9 (.slice (some ⟨g, 0, none⟩) i cc)).run Tryd.prog wr = .ok (.string ⟨(rv.map oppB).toArray⟩) wr := by
          have h := BR_string HR.out 44 9 5 cc Tryd.underlying44 Tryd.underlying5 Tryd.underlying9
          rw [List.length_map, HV.out] at h
          exact h
        go_wp2_with fail
        go_ret
        exact ⟨by rw [HRL.out, HS.out]; rfl, HB.out⟩
theorem impl_started.calls (k : Nat) (a0 : ByteArray) (r : ByteArray) (w : World) (h : impl_started.f k a0 = some r) :
    Calls Tryd.prog 15 #[.string a0] w fun e w' => e = .returned (.string r) ∧ Below w.heap.size w w' := by
  unfold impl_started.f at h
  obtain ⟨⟨m0, m1⟩, h1, h⟩ := Option.bind_eq_some_iff.mp h
  obtain ⟨b, h2, h⟩ := Option.bind_eq_some_iff.mp h
  dsimp only at h2
  split at h
  · rename_i h3
    obtain rfl := Option.some.inj h
    obtain ⟨b, rfl⟩ : ∃ n : Nat, (n : Int) = b := ⟨b.toNat, by omega⟩
    rw [Int.toNat_natCast]
    exact started_any k a0 m0 m1 b h3.1.1 h3.1.2 h1 h2 (by omega) w
  · cases h


def impl_bit.f (a0 : Bool) : Option (Int) := if a0 = true then (some 1) else (some 0)
set_option maxHeartbeats 8000000 in
set_option maxRecDepth 100000 in
theorem impl_bit.calls (a0 : Bool) (r : Int) (w : World) (h : impl_bit.f a0 = some r) :
    Calls Tryd.prog 18 #[.bool a0] w fun e w' => e = .returned (.int .i64 r) ∧ Drawn0 w w' := by
  have H : (if a0 = true then (some 1) else (some 0)) = some r := h
  clear h
  by_cases c2 : a0 = true
  · subst c2
    have H1 : (some 1) = some r := by rw [if_pos rfl] at H; exact H
    clear H
    have H := H1
    clear H1
    obtain rfl := Option.some.inj H
    go_enter Tryd.func18, Tryd.ntmps18
    go_wp2
    go_ret
    exact ⟨by first | rfl | (simp; done) | (simp [*]; done), by repeat (first | exact Drawn0.refl _ | apply Drawn0.step)⟩
  · replace c2 := Bool.eq_false_iff.mpr c2
    subst c2
    have H1 : (some 0) = some r := by rw [if_neg (show ¬ (false = true) by decide)] at H; exact H
    clear H
    have H := H1
    clear H1
    obtain rfl := Option.some.inj H
    go_enter Tryd.func18, Tryd.ntmps18
    go_wp2
    go_ret
    exact ⟨by first | rfl | (simp; done) | (simp [*]; done), by repeat (first | exact Drawn0.refl _ | apply Drawn0.step)⟩

end Go.Proofs.YtidabcihlamidaaDoor.P
